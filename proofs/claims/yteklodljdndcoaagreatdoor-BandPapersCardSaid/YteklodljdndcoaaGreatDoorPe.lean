/-
  Walks: the reference's towns, cities, squares (bateriaref06, bateriaref07).
  Walks: the reference's cities, bands, verdicts, sleep (bateriaref07).
  Walks: copies and comparisons of towns, cities, bands (bateriakit), what the laws pass over.
  Walks: towns and cities copied and compared (bateriakit).
  Walks: what is equal is found equal (bateriakit).
  Numbers that follow from numbers (bateriakit): the drum.
  Walks: drums made of numbers, spans (bateriakit).
  Walks: towns made of numbers (bateriakit).
  Towns made of numbers are valid.
  Walks: cities and bands made of numbers (bateriakit).
-/
import Derived.Test.YteklodljdndcoaaGreatDoorPd
import Derived.CallsIn
import Derived.RangeFuncLeaves
import Derived.RangeFuncRecord
import Derived.OrdersIn
import Derived.Below
import Derived.Laws.World
import Derived.Laws.StructEq
import Derived.Laws.BytesString
import Derived.Laws.Append
import Derived.MapKept
import Derived.ProofKit
import Derived.Carry
import Derived.Handed
import Derived.ChangeCalls
import Derived.Stop.Joined
import Derived.Lib.LaidTab
import Derived.Shelf.Strconv.Itoa3
import Derived.RangeFuncIn
import Derived.RangeFuncNested
import Derived.Test.YteklodljdndcoaaGreatDoorProg
import Derived.KernelRfl
import Derived.IntWalk
import Derived.Test.YteklodljdndcoaaGreatDoorRows
import Derived.Sort.OwnSortedInts
import Derived.Lib.SlicesCompact
import Derived.Shelf.Strings.Builder1
import Derived.Lib.SplitLaws
import Derived.Lib.AtoiAll
import Derived.Lib.ItoaNum
import Derived.Lib.IndexBytes
import Derived.Shelf.Strings.Split
import Derived.Shelf.Strconv.AtoiAll
import Derived.Lib.AtoiErrMem
import Derived.Lib.ItoaLen
import Derived.Lib.AtoiAllCases
import Derived.Test.YteklodljdndcoaaGreatDoorCards
import Derived.Test.YteklodljdndcoaaGreatDoorTie
import Derived.JoinedOf
import Derived.LaidMore
import Derived.LaidSub
import Derived.Lay
import Derived.SevenTiedAt
import Derived.Lib.LaidU8
import Derived.Shelf.Vars
set_option linter.unusedSimpArgs false
set_option linter.unusedVariables false
namespace Go.Proofs.YteklodljdndcoaaGreatDoor
open Go Go.RowKit
set_option maxRecDepth 100000
set_option maxHeartbeats 2000000 in
theorem rin_pc (Y : YEnv) (σ : Sg) (n lo hi : Int) :
  PC Tryz.prog Y 62 [I n, I lo, I hi] σ (.bool (inR n lo hi)) (σ) := by
 refine PC_of_W Tryz.func62 rfl (by kernel_rfl) Tryz.ntmps62 (by simp) fun hcl hca => ?_
 refine W_seq fun kz1 kq1 => ?_
 refine W_region [0, 1, 2] fun R hR => ?_
 simp only [go_sem]
 refine hR _ _ (kq1 _ _ ?_); clear hR R; try clear kq1 kz1
 try simp only [go_sem]
 refine W_seq fun kz2 kq2 => ?_
 refine W_region [6] fun R hR => ?_
 simp only [go_sem]
 refine GWant_split (fun g1 => ?_) (fun g1 => ?_)
 ·try simp only [Bool.not_eq_true', Bool.not_eq_false'] at g1
  have n1 := g1; try simp only [nrm] at n1
  simp only [go_sem, g1]
  refine hR _ _ (kq2 _ _ ?_); clear hR R; try clear kq2 kz2
  try simp only [go_sem]
  refine W_ret ?_
  simp only [go_sem]
  refine ⟨.inr (by trivial), ?_⟩
  first | refine Fin_same hcl rfl (Wk_eq ?_ (by simp only [go_sem])) | refine Fin_self hcl rfl (Wk_eq ?_ (by simp only [go_sem]))
  try simp only [go_sem]
  all_goals
   simp only [inR]; first | rfl | (simp [*]; done) | (simp [*]; omega)
 ·try simp only [Bool.not_eq_true', Bool.not_eq_false'] at g1
  have n1 := g1; try simp only [nrm] at n1
  simp only [go_sem, g1]
  refine hR _ _ (kq2 _ _ ?_); clear hR R; try clear kq2 kz2
  try simp only [go_sem]
  refine W_ret ?_
  simp only [go_sem]
  refine ⟨.inr (by trivial), ?_⟩
  first | refine Fin_same hcl rfl (Wk_eq ?_ (by simp only [go_sem])) | refine Fin_self hcl rfl (Wk_eq ?_ (by simp only [go_sem]))
  try simp only [go_sem]
  all_goals
   simp only [inR]; first | rfl | (simp [*]; done) | (simp [*]; omega)
set_option maxHeartbeats 2000000 in
theorem rin6_pc (Y : YEnv) (σ : Sg) (n lo hi : Int) :
  PC Tryz.prog Y 87 [I n, I lo, I hi] σ (.bool (inR n lo hi)) (σ) := by
 refine PC_of_W Tryz.func87 rfl (by kernel_rfl) Tryz.ntmps87 (by simp) fun hcl hca => ?_
 refine W_seq fun kz1 kq1 => ?_
 refine W_region [0, 1, 2] fun R hR => ?_
 simp only [go_sem]
 refine hR _ _ (kq1 _ _ ?_); clear hR R; try clear kq1 kz1
 try simp only [go_sem]
 refine W_seq fun kz2 kq2 => ?_
 refine W_region [6] fun R hR => ?_
 simp only [go_sem]
 refine GWant_split (fun g1 => ?_) (fun g1 => ?_)
 ·try simp only [Bool.not_eq_true', Bool.not_eq_false'] at g1
  have n1 := g1; try simp only [nrm] at n1
  simp only [go_sem, g1]
  refine hR _ _ (kq2 _ _ ?_); clear hR R; try clear kq2 kz2
  try simp only [go_sem]
  refine W_ret ?_
  simp only [go_sem]
  refine ⟨.inr (by trivial), ?_⟩
  first | refine Fin_same hcl rfl (Wk_eq ?_ (by simp only [go_sem])) | refine Fin_self hcl rfl (Wk_eq ?_ (by simp only [go_sem]))
  try simp only [go_sem]
  all_goals
   simp only [inR]; first | rfl | (simp [*]; done) | (simp [*]; omega)
 ·try simp only [Bool.not_eq_true', Bool.not_eq_false'] at g1
  have n1 := g1; try simp only [nrm] at n1
  simp only [go_sem, g1]
  refine hR _ _ (kq2 _ _ ?_); clear hR R; try clear kq2 kz2
  try simp only [go_sem]
  refine W_ret ?_
  simp only [go_sem]
  refine ⟨.inr (by trivial), ?_⟩
  first | refine Fin_same hcl rfl (Wk_eq ?_ (by simp only [go_sem])) | refine Fin_self hcl rfl (Wk_eq ?_ (by simp only [go_sem]))
  try simp only [go_sem]
  all_goals
   simp only [inR]; first | rfl | (simp [*]; done) | (simp [*]; omega)
set_option maxHeartbeats 2000000 in
theorem rother_pc (Y : YEnv) (σ : Sg) (s : Int × Int) (at' : Int) :
  PC Tryz.prog Y 50 [stPV s, I at'] σ (I (other s at')) (σ) := by
 refine PC_of_W Tryz.func50 rfl (by kernel_rfl) Tryz.ntmps50 (by simp) fun hcl hca => ?_
 refine W_seq fun kz1 kq1 => ?_
 refine W_region [1, 2] fun R hR => ?_
 simp only [go_sem]
 refine hR _ _ (kq1 _ _ ?_); clear hR R; try clear kq1 kz1
 try simp only [go_sem]
 refine W_seq fun kz2 kq2 => ?_
 refine W_seq fun kz3 kq3 => ?_
 refine W_region [2, 5] fun R hR => ?_
 simp only [go_sem]
 refine hR _ _ (kq3 _ _ ?_); clear hR R; try clear kq3 kz3
 try simp only [go_sem]
 refine W_block ?_
 refine W_seq fun kz4 kq4 => ?_
 refine W_region [2, 5, 6] fun R hR => ?_
 simp only [go_sem]
 refine hR _ _ (kq4 _ _ ?_); clear hR R; try clear kq4 kz4
 try simp only [go_sem]
 refine W_cond rfl (fun c1 => ?_) (fun c1 => ?_)
 ·
  try simp only [nrm] at c1
  refine W_seq fun kz5 kq5 => ?_
  refine W_region [4] fun R hR => ?_
  simp only [go_sem]
  refine hR _ _ (kq5 _ _ ?_); clear hR R; try clear kq5 kz5
  try simp only [go_sem]
  refine W_ret ?_
  simp only [go_sem]
  refine ⟨.inr (by trivial), ?_⟩
  first | refine Fin_same hcl rfl (Wk_eq ?_ (by simp only [go_sem])) | refine Fin_self hcl rfl (Wk_eq ?_ (by simp only [go_sem]))
  try simp only [go_sem]
  all_goals
   simp_all [other]
 ·
  try simp only [nrm] at c1
  refine W_seq fun kz6 kq6 => ?_
  refine W_region [2, 12] fun R hR => ?_
  simp only [go_sem]
  refine hR _ _ (kq6 _ _ ?_); clear hR R; try clear kq6 kz6
  try simp only [go_sem]
  refine W_cond rfl (fun c2 => ?_) (fun c2 => ?_)
  ·
   try simp only [nrm] at c2
   refine W_seq fun kz7 kq7 => ?_
   refine W_region [4] fun R hR => ?_
   simp only [go_sem]
   refine hR _ _ (kq7 _ _ ?_); clear hR R; try clear kq7 kz7
   try simp only [go_sem]
   refine W_ret ?_
   simp only [go_sem]
   refine ⟨.inr (by trivial), ?_⟩
   first | refine Fin_same hcl rfl (Wk_eq ?_ (by simp only [go_sem])) | refine Fin_self hcl rfl (Wk_eq ?_ (by simp only [go_sem]))
   try simp only [go_sem]
   all_goals
    simp_all [other]
  ·
   try simp only [nrm] at c2
   refine W_skip (kq2 _ _ ?_)
   refine W_seq fun kz8 kq8 => ?_
   refine W_region [4] fun R hR => ?_
   simp only [go_sem]
   refine hR _ _ (kq8 _ _ ?_); clear hR R; try clear kq8 kz8
   try simp only [go_sem]
   refine W_ret ?_
   simp only [go_sem]
   refine ⟨.inr (by trivial), ?_⟩
   first | refine Fin_same hcl rfl (Wk_eq ?_ (by simp only [go_sem])) | refine Fin_self hcl rfl (Wk_eq ?_ (by simp only [go_sem]))
   try simp only [go_sem]
   all_goals
    simp_all [other]
set_option maxHeartbeats 2000000 in
theorem rspan_pc (Y : YEnv) (σ : Sg) (lo hi m : Int) :
  PC Tryz.prog Y 106 [.agg [I lo, I hi], I m] σ (I (chkSpan lo hi m)) (σ) := by
 refine PC_of_W Tryz.func106 rfl (by kernel_rfl) Tryz.ntmps106 (by simp) fun hcl hca => ?_
 refine W_seq fun kz1 kq1 => ?_
 refine W_region [1, 2] fun R hR => ?_
 simp only [go_sem]
 refine hR _ _ (kq1 _ _ ?_); clear hR R; try clear kq1 kz1
 try simp only [go_sem]
 refine W_seq fun kz2 kq2 => ?_
 refine W_seq fun kz3 kq3 => ?_
 refine W_region [2, 16] fun R hR => ?_
 simp only [go_sem]
 refine GCall_of (rin6_pc Y _ lo 0 m) ?_
 simp only [go_sem]
 refine GWant_split (fun g1 => ?_) (fun g1 => ?_)
 ·try simp only [Bool.not_eq_true', Bool.not_eq_false'] at g1
  have n1 := g1; try simp only [nrm] at n1
  simp only [go_sem, g1]
  refine GCall_of (rin6_pc Y _ hi 0 m) ?_
  simp only [go_sem, g1]
  refine hR _ _ (kq3 _ _ ?_); clear hR R; try clear kq3 kz3
  try simp only [go_sem]
  refine W_cond rfl (fun c1 => ?_) (fun c1 => ?_)
  ·
   try simp only [nrm] at c1
   refine W_seq fun kz4 kq4 => ?_
   refine W_region [4] fun R hR => ?_
   simp only [go_sem]
   refine hR _ _ (kq4 _ _ ?_); clear hR R; try clear kq4 kz4
   try simp only [go_sem]
   refine W_ret ?_
   simp only [go_sem]
   refine ⟨.inr (by trivial), ?_⟩
   first | refine Fin_same hcl rfl (Wk_eq ?_ (by simp only [go_sem])) | refine Fin_self hcl rfl (Wk_eq ?_ (by simp only [go_sem]))
   try simp only [go_sem]
   all_goals
    first | rfl | (simp_all; done) | (simp_all; omega) | (simp only [chkSpan]; (repeat' split) <;> ((first | rfl | omega | (simp_all; done) | (simp_all; omega))))
  ·
   try simp only [nrm] at c1
   refine W_skip (kq2 _ _ ?_)
   refine W_seq fun kz5 kq5 => ?_
   refine W_seq fun kz6 kq6 => ?_
   refine W_region [21] fun R hR => ?_
   simp only [go_sem]
   refine hR _ _ (kq6 _ _ ?_); clear hR R; try clear kq6 kz6
   try simp only [go_sem]
   refine W_cond rfl (fun c2 => ?_) (fun c2 => ?_)
   ·
    try simp only [nrm] at c2
    refine W_seq fun kz7 kq7 => ?_
    refine W_region [4] fun R hR => ?_
    simp only [go_sem]
    refine hR _ _ (kq7 _ _ ?_); clear hR R; try clear kq7 kz7
    try simp only [go_sem]
    refine W_ret ?_
    simp only [go_sem]
    refine ⟨.inr (by trivial), ?_⟩
    first | refine Fin_same hcl rfl (Wk_eq ?_ (by simp only [go_sem])) | refine Fin_self hcl rfl (Wk_eq ?_ (by simp only [go_sem]))
    try simp only [go_sem]
    all_goals
     first | rfl | (simp_all; done) | (simp_all; omega) | (simp only [chkSpan]; (repeat' split) <;> ((first | rfl | omega | (simp_all; done) | (simp_all; omega))))
   ·
    try simp only [nrm] at c2
    refine W_skip (kq5 _ _ ?_)
    refine W_seq fun kz8 kq8 => ?_
    refine W_region [4] fun R hR => ?_
    simp only [go_sem]
    refine hR _ _ (kq8 _ _ ?_); clear hR R; try clear kq8 kz8
    try simp only [go_sem]
    refine W_ret ?_
    simp only [go_sem]
    refine ⟨.inr (by trivial), ?_⟩
    first | refine Fin_same hcl rfl (Wk_eq ?_ (by simp only [go_sem])) | refine Fin_self hcl rfl (Wk_eq ?_ (by simp only [go_sem]))
    try simp only [go_sem]
    all_goals
     first | rfl | (simp_all; done) | (simp_all; omega) | (simp only [chkSpan]; (repeat' split) <;> ((first | rfl | omega | (simp_all; done) | (simp_all; omega))))
 ·try simp only [Bool.not_eq_true', Bool.not_eq_false'] at g1
  have n1 := g1; try simp only [nrm] at n1
  simp only [go_sem, g1]
  refine hR _ _ (kq3 _ _ ?_); clear hR R; try clear kq3 kz3
  try simp only [go_sem]
  refine W_cond_true rfl ?_
  refine W_seq fun kz9 kq9 => ?_
  refine W_region [4] fun R hR => ?_
  simp only [go_sem]
  refine hR _ _ (kq9 _ _ ?_); clear hR R; try clear kq9 kz9
  try simp only [go_sem]
  refine W_ret ?_
  simp only [go_sem]
  refine ⟨.inr (by trivial), ?_⟩
  first | refine Fin_same hcl rfl (Wk_eq ?_ (by simp only [go_sem])) | refine Fin_self hcl rfl (Wk_eq ?_ (by simp only [go_sem]))
  try simp only [go_sem]
  all_goals
   first | rfl | (simp_all; done) | (simp_all; omega) | (simp only [chkSpan]; (repeat' split) <;> ((first | rfl | omega | (simp_all; done) | (simp_all; omega))))
set_option maxHeartbeats 2000000 in
theorem rgroup_pc (Y : YEnv) (σ : Sg) (t : Town) (g : Group) (hr : t.rooms.length < 2 ^ 50) (hs : t.streets.length < 2 ^ 50) (hp : g.path.length < 2 ^ 50) :
  PC Tryz.prog Y 88 [twPV t, grPV g] σ (I (chkGroup t g)) (σ) := by
 refine PC_of_W Tryz.func88 rfl (by kernel_rfl) Tryz.ntmps88 (by simp) fun hcl hca => ?_
 obtain ⟨res, hres⟩ : ∃ r, chkGroup t g = r := ⟨_, rfl⟩
 rw [hres]
 refine W_seq fun kz1 kq1 => ?_
 refine W_region [2, 3] fun R hR => ?_
 simp only [go_sem]
 refine hR _ _ (kq1 _ _ ?_); clear hR R; try clear kq1 kz1
 try simp only [go_sem]
 refine W_seq fun kz2 kq2 => ?_
 refine W_seq fun kz3 kq3 => ?_
 refine W_region [2, 3, 5] fun R hR => ?_
 simp only [go_sem]
 refine GCall_of (rspan_pc Y _ g.slo g.shi 1000000) ?_
 simp only [go_sem]
 refine hR _ _ (kq3 _ _ ?_); clear hR R; try clear kq3 kz3
 try simp only [go_sem]
 refine W_seq fun kz4 kq4 => ?_
 refine W_region [2, 3, 5, 13] fun R hR => ?_
 simp only [go_sem]
 refine hR _ _ (kq4 _ _ ?_); clear hR R; try clear kq4 kz4
 try simp only [go_sem]
 refine W_cond rfl (fun c1 => ?_) (fun c1 => ?_)
 ·
  try simp only [nrm] at c1
  refine W_seq fun kz5 kq5 => ?_
  refine W_region [4] fun R hR => ?_
  simp only [go_sem]
  refine hR _ _ (kq5 _ _ ?_); clear hR R; try clear kq5 kz5
  try simp only [go_sem]
  refine W_ret ?_
  simp only [go_sem]
  refine ⟨.inr (by trivial), ?_⟩
  first | refine Fin_same hcl rfl (Wk_eq ?_ (by simp only [go_sem])) | refine Fin_self hcl rfl (Wk_eq ?_ (by simp only [go_sem]))
  try simp only [go_sem]
  all_goals
   rw [← hres]; simp [chkGroup, *]
 ·
  try simp only [nrm] at c1
  refine W_skip (kq2 _ _ ?_)
  refine W_seq fun kz6 kq6 => ?_
  refine W_seq fun kz7 kq7 => ?_
  refine W_region [2, 3, 6] fun R hR => ?_
  simp only [go_sem]
  refine GCall_of (rspan_pc Y _ g.alo g.ahi 96) ?_
  simp only [go_sem]
  refine hR _ _ (kq7 _ _ ?_); clear hR R; try clear kq7 kz7
  try simp only [go_sem]
  refine W_seq fun kz8 kq8 => ?_
  refine W_region [2, 3, 6, 19] fun R hR => ?_
  simp only [go_sem]
  refine hR _ _ (kq8 _ _ ?_); clear hR R; try clear kq8 kz8
  try simp only [go_sem]
  refine W_cond rfl (fun c2 => ?_) (fun c2 => ?_)
  ·
   try simp only [nrm] at c2
   refine W_seq fun kz9 kq9 => ?_
   refine W_region [4] fun R hR => ?_
   simp only [go_sem]
   refine hR _ _ (kq9 _ _ ?_); clear hR R; try clear kq9 kz9
   try simp only [go_sem]
   refine W_ret ?_
   simp only [go_sem]
   refine ⟨.inr (by trivial), ?_⟩
   first | refine Fin_same hcl rfl (Wk_eq ?_ (by simp only [go_sem])) | refine Fin_self hcl rfl (Wk_eq ?_ (by simp only [go_sem]))
   try simp only [go_sem]
   all_goals
    rw [← hres]; simp [chkGroup, *]
  ·
   try simp only [nrm] at c2
   refine W_skip (kq6 _ _ ?_)
   refine W_seq fun kz10 kq10 => ?_
   refine W_seq fun kz11 kq11 => ?_
   refine W_region [2, 3, 24] fun R hR => ?_
   simp only [go_sem]
   refine GCall_of (rin6_pc Y _ g.stay 1 96) ?_
   simp only [go_sem]
   refine hR _ _ (kq11 _ _ ?_); clear hR R; try clear kq11 kz11
   try simp only [go_sem]
   refine W_cond rfl (fun c3 => ?_) (fun c3 => ?_)
   ·
    try simp only [nrm] at c3
    refine W_seq fun kz12 kq12 => ?_
    refine W_region [4] fun R hR => ?_
    simp only [go_sem]
    refine hR _ _ (kq12 _ _ ?_); clear hR R; try clear kq12 kz12
    try simp only [go_sem]
    refine W_ret ?_
    simp only [go_sem]
    refine ⟨.inr (by trivial), ?_⟩
    first | refine Fin_same hcl rfl (Wk_eq ?_ (by simp only [go_sem])) | refine Fin_self hcl rfl (Wk_eq ?_ (by simp only [go_sem]))
    try simp only [go_sem]
    all_goals
     rw [← hres]; simp [chkGroup, *]
   ·
    try simp only [nrm] at c3
    refine W_skip (kq10 _ _ ?_)
    refine W_seq fun kz13 kq13 => ?_
    refine W_seq fun kz14 kq14 => ?_
    refine W_region [2, 3, 32] fun R hR => ?_
    simp only [go_sem]
    try simp (disch := omega) only [wrapI]
    refine GCall_of (rin6_pc Y _ g.first 0 _) ?_
    simp only [go_sem]
    try simp (disch := omega) only [wrapI]
    refine hR _ _ (kq14 _ _ ?_); clear hR R; try clear kq14 kz14
    try simp only [go_sem]
    refine W_cond rfl (fun c4 => ?_) (fun c4 => ?_)
    ·
     try simp only [nrm] at c4
     refine W_seq fun kz15 kq15 => ?_
     refine W_region [4] fun R hR => ?_
     simp only [go_sem]
     refine hR _ _ (kq15 _ _ ?_); clear hR R; try clear kq15 kz15
     try simp only [go_sem]
     refine W_ret ?_
     simp only [go_sem]
     refine ⟨.inr (by trivial), ?_⟩
     first | refine Fin_same hcl rfl (Wk_eq ?_ (by simp only [go_sem])) | refine Fin_self hcl rfl (Wk_eq ?_ (by simp only [go_sem]))
     try simp only [go_sem]
     all_goals
      rw [← hres]; simp [chkGroup, *]
    ·
     try simp only [nrm] at c4
     refine W_skip (kq13 _ _ ?_)
     refine W_seq fun kz16 kq16 => ?_
     refine W_seq fun kz17 kq17 => ?_
     refine W_region [2, 3, 36] fun R hR => ?_
     simp only [go_sem]
     refine hR _ _ (kq17 _ _ ?_); clear hR R; try clear kq17 kz17
     try simp only [go_sem]
     refine W_cond rfl (fun c5 => ?_) (fun c5 => ?_)
     ·
      try simp only [nrm] at c5
      refine W_seq fun kz18 kq18 => ?_
      refine W_region [4] fun R hR => ?_
      simp only [go_sem]
      refine hR _ _ (kq18 _ _ ?_); clear hR R; try clear kq18 kz18
      try simp only [go_sem]
      refine W_ret ?_
      simp only [go_sem]
      refine ⟨.inr (by trivial), ?_⟩
      first | refine Fin_same hcl rfl (Wk_eq ?_ (by simp only [go_sem])) | refine Fin_self hcl rfl (Wk_eq ?_ (by simp only [go_sem]))
      try simp only [go_sem]
      all_goals
       rw [← hres]; have d5 : g.path.length > 12 := by omega
       simp [chkGroup, *]
     ·
      try simp only [nrm] at c5
      refine W_skip (kq16 _ _ ?_)
      refine W_seq fun kz19 kq19 => ?_
      refine W_region [2, 3, 7] fun R hR => ?_
      simp only [go_sem]
      refine hR _ _ (kq19 _ _ ?_); clear hR R; try clear kq19 kz19
      try simp only [go_sem]
      refine W_seq fun kz20 kq20 => ?_
      refine W_seq fun kz21 kq21 => ?_
      refine W_region [2, 3, 7, 8] fun R hR => ?_
      simp only [go_sem]
      refine hR _ _ (kq21 _ _ ?_); clear hR R; try clear kq21 kz21
      try simp only [go_sem]
      refine W_block ?_
      refine W_loopS (α := Nat × Int) (fun ⟨i, at'⟩ => [(7, I at'), (8, I i)]) (fun ⟨i, at'⟩ => i ≤ g.path.length ∧ res = chkPath t.streets (g.path.drop i) at') (fun ⟨i, at'⟩ => g.path.length - i) ((0, g.first)) rfl (⟨Nat.zero_le _, by rw [← hres]; have d5 : ¬ g.path.length > 12 := (by omega); simp [chkGroup, *]⟩) ?_
      rintro ⟨i, at'⟩ ⟨hi, hinv⟩
      refine W_seq fun kz22 kq22 => ?_
      refine W_seq fun kz23 kq23 => ?_
      refine W_region [2, 3, 7, 8, 43] fun R hR => ?_
      simp only [go_sem]
      refine hR _ _ (kq23 _ _ ?_); clear hR R; try clear kq23 kz23
      try simp only [go_sem]
      refine W_cond rfl (fun c6 => ?_) (fun c6 => ?_)
      ·
       try simp only [nrm] at c6
       have hi' : i < g.path.length := by first | assumption | omega
       obtain ⟨x, hx⟩ : ∃ x, g.path[i]? = some x := ⟨g.path[i], by simp [hi']⟩
       have hdrop : g.path.drop i = x :: g.path.drop (i + 1) := by
        rw [List.drop_eq_getElem_cons hi']; congr 1; exact (List.getElem?_eq_some_iff.1 hx).2
       rw [hdrop] at hinv
       simp only [chkPath] at hinv
       refine W_skip (kq22 _ _ ?_)
       refine W_seq fun kz24 kq24 => ?_
       refine W_block ?_
       refine W_seq fun kz25 kq25 => ?_
       refine W_seq fun kz26 kq26 => ?_
       refine W_draw [2, 3, 7, 8, 56] [0, 1, 2, 3, 4, 5, 6, 7, 8, 9, 10] [] [[], [0], [], [0, 1, 2], [0, 1, 2, 3], [], [5], [5, 6], [5, 6, 7], [0, 1, 2, 3, 4, 5, 6, 7, 8], [0, 1, 2, 3, 4, 5, 6, 7, 8, 9]] mixed (by kernel_rfl) fun R hR => ?_
       simp only [go_sem, hx]
       try simp (disch := omega) only [wrapI]
       refine GCall_of (rin6_pc Y _ x 0 _) ?_
       simp only [go_sem, hx]
       try simp (disch := omega) only [wrapI]
       refine hR _ _ (kq26 _ _ ?_); clear hR R; try clear kq26 kz26
       try simp only [go_sem, hx]
       refine W_cond rfl (fun c7 => ?_) (fun c7 => ?_)
       ·
        try simp only [nrm] at c7
        refine W_seq fun kz27 kq27 => ?_
        refine W_region [4] fun R hR => ?_
        simp only [go_sem, hx]
        refine hR _ _ (kq27 _ _ ?_); clear hR R; try clear kq27 kz27
        try simp only [go_sem, hx]
        refine W_ret ?_
        simp only [go_sem, hx]
        refine ⟨.inr (by trivial), ?_⟩
        first | refine Fin_same hcl rfl (Wk_eq ?_ (by simp only [go_sem])) | refine Fin_self hcl rfl (Wk_eq ?_ (by simp only [go_sem]))
        try simp only [go_sem]
        all_goals
         rw [hinv]; simp [c7]
       ·
        try simp only [nrm] at c7
        have hin : 0 ≤ x ∧ x ≤ (t.streets.length : Int) - 1 := by simpa [inR] using c7
        obtain ⟨n, rfl⟩ : ∃ n : Nat, x = (n : Int) := ⟨x.toNat, by omega⟩
        obtain ⟨s, hs'⟩ : ∃ s, t.streets[n]? = some s := ⟨t.streets[n]'(by omega), by simp⟩
        simp only [c7, Int.toNat_natCast, hs', Bool.not_true, Bool.false_eq_true, if_false] at hinv
        refine W_skip (kq25 _ _ ?_)
        refine W_seq fun kz28 kq28 => ?_
        refine W_draw [2, 3, 7, 8] [0, 1, 2, 3, 4, 5, 6, 7, 8, 9, 10, 11] [] [[], [0], [], [2], [], [2, 3, 4], [2, 3, 4, 5], [0, 1, 2, 3, 4, 5, 6], [0, 1, 2, 3, 4, 5, 6, 7], [], [0, 1, 2, 3, 4, 5, 6, 7, 8, 9], [0, 1, 2, 3, 4, 5, 6, 7, 8, 9, 10]] mixed (by kernel_rfl) fun R hR => ?_
        simp only [go_sem, hx, hs']
        refine GCall_of (rother_pc Y _ s at') ?_
        simp only [go_sem, hx, hs']
        refine hR _ _ (kq28 _ _ ?_); clear hR R; try clear kq28 kz28
        try simp only [go_sem, hx, hs']
        refine W_seq fun kz29 kq29 => ?_
        refine W_region [2, 3, 7, 8, 69] fun R hR => ?_
        simp only [go_sem, hx, hs']
        refine hR _ _ (kq29 _ _ ?_); clear hR R; try clear kq29 kz29
        try simp only [go_sem, hx, hs']
        refine W_cond rfl (fun c8 => ?_) (fun c8 => ?_)
        ·
         try simp only [nrm] at c8
         refine W_seq fun kz30 kq30 => ?_
         refine W_region [4] fun R hR => ?_
         simp only [go_sem, hx, hs']
         refine hR _ _ (kq30 _ _ ?_); clear hR R; try clear kq30 kz30
         try simp only [go_sem, hx, hs']
         refine W_ret ?_
         simp only [go_sem, hx, hs']
         refine ⟨.inr (by trivial), ?_⟩
         first | refine Fin_same hcl rfl (Wk_eq ?_ (by simp only [go_sem])) | refine Fin_self hcl rfl (Wk_eq ?_ (by simp only [go_sem]))
         try simp only [go_sem]
         all_goals
          rw [hinv, if_pos (by omega)]
        ·
         try simp only [nrm] at c8
         refine W_skip (kq24 _ _ ?_)
         refine W_region [2, 3, 7, 8] fun R hR => ?_
         simp only [go_sem, hx, hs']
         try simp (disch := omega) only [wrapI]
         refine hR _ _ ?_; clear hR R
         try simp only [go_sem, hx, hs']
         refine ⟨(i + 1, other s at'), ?_, by (try simp only []); omega, ?_⟩
         ·first | exact Weak.refl | exact Weak.eq (by first | rfl | (simp only [go_sem]; done) | (simp only [go_sem]; rfl) | (simp [go_sem]; done) | (simp [go_sem]; omega)) (by first | rfl | (simp only [go_sem]; done) | (simp [go_sem]; done))
         ·try dsimp only
          exact ⟨hi', by rw [hinv, if_neg (by omega)]⟩
      ·
       try simp only [nrm] at c6
       have hdrop : g.path.drop i = [] := List.drop_eq_nil_of_le (by omega)
       rw [hdrop] at hinv
       simp only [chkPath] at hinv
       refine W_exit ?_
       simp only [go_sem]
       refine kq20 _ _ ?_
       refine W_seq fun kz31 kq31 => ?_
       refine W_region [4] fun R hR => ?_
       simp only [go_sem]
       refine hR _ _ (kq31 _ _ ?_); clear hR R; try clear kq31 kz31
       try simp only [go_sem]
       refine W_ret ?_
       simp only [go_sem]
       refine ⟨.inr (by trivial), ?_⟩
       first | refine Fin_same hcl rfl (Wk_eq ?_ (by simp only [go_sem])) | refine Fin_self hcl rfl (Wk_eq ?_ (by simp only [go_sem]))
       try simp only [go_sem]
       all_goals
        rw [hinv]
set_option maxHeartbeats 2000000 in
theorem rtown_pc (Y : YEnv) (σ : Sg) (t : Town) (hr : t.rooms.length < 2 ^ 50) (hs : t.streets.length < 2 ^ 50) (hg : t.groups.length < 2 ^ 50) (hp : ∀ g, g ∈ t.groups → g.path.length < 2 ^ 50) :
  PC Tryz.prog Y 61 [twPV t] σ (I (chkTown t)) (σ) := by
 refine PC_of_W Tryz.func61 rfl (by kernel_rfl) Tryz.ntmps61 (by simp) fun hcl hca => ?_
 obtain ⟨res, hres⟩ : ∃ r, chkTown t = r := ⟨_, rfl⟩
 rw [hres]
 refine W_seq fun kz1 kq1 => ?_
 refine W_region [1] fun R hR => ?_
 simp only [go_sem]
 refine hR _ _ (kq1 _ _ ?_); clear hR R; try clear kq1 kz1
 try simp only [go_sem]
 refine W_seq fun kz2 kq2 => ?_
 refine W_seq fun kz3 kq3 => ?_
 refine W_region [1, 11] fun R hR => ?_
 simp only [go_sem]
 refine hR _ _ (kq3 _ _ ?_); clear hR R; try clear kq3 kz3
 try simp only [go_sem]
 refine W_cond rfl (fun c1 => ?_) (fun c1 => ?_)
 ·
  try simp only [nrm] at c1
  refine W_seq fun kz4 kq4 => ?_
  refine W_region [2] fun R hR => ?_
  simp only [go_sem]
  refine hR _ _ (kq4 _ _ ?_); clear hR R; try clear kq4 kz4
  try simp only [go_sem]
  refine W_ret ?_
  simp only [go_sem]
  refine ⟨.inr (by trivial), ?_⟩
  first | refine Fin_same hcl rfl (Wk_eq ?_ (by simp only [go_sem])) | refine Fin_self hcl rfl (Wk_eq ?_ (by simp only [go_sem]))
  try simp only [go_sem]
  all_goals
   rw [← hres]; have d1 : t.rooms.length = 0 := by omega
   simp [chkTown, d1]
 ·
  try simp only [nrm] at c1
  refine W_skip (kq2 _ _ ?_)
  refine W_seq fun kz5 kq5 => ?_
  refine W_seq fun kz6 kq6 => ?_
  refine W_region [1, 15] fun R hR => ?_
  simp only [go_sem]
  refine hR _ _ (kq6 _ _ ?_); clear hR R; try clear kq6 kz6
  try simp only [go_sem]
  refine W_cond rfl (fun c2 => ?_) (fun c2 => ?_)
  ·
   try simp only [nrm] at c2
   refine W_seq fun kz7 kq7 => ?_
   refine W_region [2] fun R hR => ?_
   simp only [go_sem]
   refine hR _ _ (kq7 _ _ ?_); clear hR R; try clear kq7 kz7
   try simp only [go_sem]
   refine W_ret ?_
   simp only [go_sem]
   refine ⟨.inr (by trivial), ?_⟩
   first | refine Fin_same hcl rfl (Wk_eq ?_ (by simp only [go_sem])) | refine Fin_self hcl rfl (Wk_eq ?_ (by simp only [go_sem]))
   try simp only [go_sem]
   all_goals
    rw [← hres]; have d2 : t.rooms.length > 12 := by omega
    have d1 : t.rooms.length ≠ 0 := by omega
    simp [chkTown, *]
  ·
   try simp only [nrm] at c2
   refine W_skip (kq5 _ _ ?_)
   refine W_seq fun kz8 kq8 => ?_
   refine W_seq fun kz9 kq9 => ?_
   refine W_region [1, 3] fun R hR => ?_
   simp only [go_sem]
   refine hR _ _ (kq9 _ _ ?_); clear hR R; try clear kq9 kz9
   try simp only [go_sem]
   refine W_block ?_
   refine W_loopS (α := Nat) (fun (i : Nat) => [(3, I i)]) (fun (i : Nat) => i ≤ t.rooms.length ∧ allIn 0 1000000 (t.rooms.take i) = true) (fun (i : Nat) => t.rooms.length - i) (0) rfl (⟨Nat.zero_le _, rfl⟩) ?_
   rintro i ⟨hi, hall⟩
   refine W_seq fun kz10 kq10 => ?_
   refine W_seq fun kz11 kq11 => ?_
   refine W_region [1, 3, 20] fun R hR => ?_
   simp only [go_sem]
   refine hR _ _ (kq11 _ _ ?_); clear hR R; try clear kq11 kz11
   try simp only [go_sem]
   refine W_cond rfl (fun c3 => ?_) (fun c3 => ?_)
   ·
    try simp only [nrm] at c3
    have hi' : i < t.rooms.length := by first | assumption | omega
    obtain ⟨x, hx⟩ : ∃ x, t.rooms[i]? = some x := ⟨t.rooms[i], by simp [hi']⟩
    have hdrop : t.rooms.drop i = x :: t.rooms.drop (i + 1) := by
     rw [List.drop_eq_getElem_cons hi']; congr 1; exact (List.getElem?_eq_some_iff.1 hx).2
    refine W_skip (kq10 _ _ ?_)
    refine W_seq fun kz12 kq12 => ?_
    refine W_block ?_
    refine W_seq fun kz13 kq13 => ?_
    refine W_region [1, 3, 29] fun R hR => ?_
    simp only [go_sem, hx]
    refine GCall_of (rin6_pc Y _ x 0 1000000) ?_
    simp only [go_sem, hx]
    refine hR _ _ (kq13 _ _ ?_); clear hR R; try clear kq13 kz13
    try simp only [go_sem, hx]
    refine W_cond rfl (fun c4 => ?_) (fun c4 => ?_)
    ·
     try simp only [nrm] at c4
     refine W_seq fun kz14 kq14 => ?_
     refine W_region [2] fun R hR => ?_
     simp only [go_sem, hx]
     refine hR _ _ (kq14 _ _ ?_); clear hR R; try clear kq14 kz14
     try simp only [go_sem, hx]
     refine W_ret ?_
     simp only [go_sem, hx]
     refine ⟨.inr (by trivial), ?_⟩
     first | refine Fin_same hcl rfl (Wk_eq ?_ (by simp only [go_sem])) | refine Fin_self hcl rfl (Wk_eq ?_ (by simp only [go_sem]))
     try simp only [go_sem]
     all_goals
      have hall : allIn 0 1000000 t.rooms = false := by
       rw [Bool.eq_false_iff]
       intro hh
       have := List.all_eq_true.1 hh x (List.mem_of_getElem? hx)
       rw [this] at c4; cases c4
      rw [← hres]; have d2 : ¬ t.rooms.length > 12 := by omega
      have d1 : t.rooms.length ≠ 0 := by omega
      simp [chkTown, *]
    ·
     try simp only [nrm] at c4
     refine W_skip (kq12 _ _ ?_)
     refine W_region [1, 3] fun R hR => ?_
     simp only [go_sem, hx]
     try simp (disch := omega) only [wrapI]
     refine hR _ _ ?_; clear hR R
     try simp only [go_sem, hx]
     refine ⟨i + 1, ?_, by (try simp only []); omega, ?_⟩
     ·first | exact Weak.refl | exact Weak.eq (by first | rfl | (simp only [go_sem]; done) | (simp only [go_sem]; rfl) | (simp [go_sem]; done) | (simp [go_sem]; omega)) (by first | rfl | (simp only [go_sem]; done) | (simp [go_sem]; done))
     ·try dsimp only
      refine ⟨hi', ?_⟩
      rw [List.take_add_one, hx]
      unfold allIn at hall ⊢
      rw [List.all_append, hall]
      simpa using c4
   ·
    try simp only [nrm] at c3
    have hie : i = t.rooms.length := by omega
    subst hie
    rw [List.take_length] at hall
    have d2 : ¬ t.rooms.length > 12 := by omega
    have d1 : t.rooms.length ≠ 0 := by omega
    refine W_exit ?_
    simp only [go_sem]
    refine kq8 _ _ ?_
    refine W_seq fun kz15 kq15 => ?_
    refine W_seq fun kz16 kq16 => ?_
    refine W_region [1, 33] fun R hR => ?_
    simp only [go_sem]
    refine hR _ _ (kq16 _ _ ?_); clear hR R; try clear kq16 kz16
    try simp only [go_sem]
    refine W_cond rfl (fun c5 => ?_) (fun c5 => ?_)
    ·
     try simp only [nrm] at c5
     refine W_seq fun kz17 kq17 => ?_
     refine W_region [2] fun R hR => ?_
     simp only [go_sem]
     refine hR _ _ (kq17 _ _ ?_); clear hR R; try clear kq17 kz17
     try simp only [go_sem]
     refine W_ret ?_
     simp only [go_sem]
     refine ⟨.inr (by trivial), ?_⟩
     first | refine Fin_same hcl rfl (Wk_eq ?_ (by simp only [go_sem])) | refine Fin_self hcl rfl (Wk_eq ?_ (by simp only [go_sem]))
     try simp only [go_sem]
     all_goals
      rw [← hres]; have d5 : t.streets.length > 12 := by omega
      simp [chkTown, *]
    ·
     try simp only [nrm] at c5
     refine W_skip (kq15 _ _ ?_)
     refine W_seq fun kz18 kq18 => ?_
     refine W_seq fun kz19 kq19 => ?_
     refine W_region [1, 4] fun R hR => ?_
     simp only [go_sem]
     refine hR _ _ (kq19 _ _ ?_); clear hR R; try clear kq19 kz19
     try simp only [go_sem]
     refine W_block ?_
     have hq : res = if chkStreets t.rooms.length t.streets ≠ 0 then chkStreets t.rooms.length t.streets else if !(inR t.steps 0 96) then 2 else if t.groups.length > 12 then 5 else chkGroups t t.groups := by
      have d5 : ¬ t.streets.length > 12 := by omega
      rw [← hres]; simp [chkTown, *]
     refine W_loopS (α := Nat) (fun (j : Nat) => [(4, I j)]) (fun (j : Nat) => j ≤ t.streets.length ∧ chkStreets t.rooms.length t.streets = chkStreets t.rooms.length (t.streets.drop j)) (fun (j : Nat) => t.streets.length - j) (0) rfl (⟨Nat.zero_le _, rfl⟩) ?_
     rintro j ⟨hi, hst⟩
     refine W_seq fun kz20 kq20 => ?_
     refine W_seq fun kz21 kq21 => ?_
     refine W_region [1, 4, 38] fun R hR => ?_
     simp only [go_sem]
     refine hR _ _ (kq21 _ _ ?_); clear hR R; try clear kq21 kz21
     try simp only [go_sem]
     refine W_cond rfl (fun c6 => ?_) (fun c6 => ?_)
     ·
      try simp only [nrm] at c6
      have hi' : j < t.streets.length := by first | assumption | omega
      obtain ⟨s, hx⟩ : ∃ s, t.streets[j]? = some s := ⟨t.streets[j], by simp [hi']⟩
      have hdrop : t.streets.drop j = s :: t.streets.drop (j + 1) := by
       rw [List.drop_eq_getElem_cons hi']; congr 1; exact (List.getElem?_eq_some_iff.1 hx).2
      rw [hdrop] at hst
      simp only [chkStreets] at hst
      refine W_skip (kq20 _ _ ?_)
      refine W_seq fun kz22 kq22 => ?_
      refine W_block ?_
      refine W_seq fun kz23 kq23 => ?_
      refine W_region [1, 4, 5] fun R hR => ?_
      simp only [go_sem, hx]
      refine hR _ _ (kq23 _ _ ?_); clear hR R; try clear kq23 kz23
      try simp only [go_sem, hx]
      refine W_seq fun kz24 kq24 => ?_
      refine W_seq fun kz25 kq25 => ?_
      refine W_region [1, 4, 5, 63] fun R hR => ?_
      simp only [go_sem, hx]
      try simp (disch := omega) only [wrapI]
      refine GCall_of (rin6_pc Y _ s.1 0 _) ?_
      simp only [go_sem, hx]
      refine GWant_split (fun g1 => ?_) (fun g1 => ?_)
      ·try simp only [Bool.not_eq_true', Bool.not_eq_false'] at g1
       have n1 := g1; try simp only [nrm] at n1
       simp only [go_sem, hx, g1]
       try simp (disch := omega) only [wrapI]
       refine GCall_of (rin6_pc Y _ s.2 0 _) ?_
       simp only [go_sem, hx, g1]
       try simp (disch := omega) only [wrapI]
       refine hR _ _ (kq25 _ _ ?_); clear hR R; try clear kq25 kz25
       try simp only [go_sem, hx]
       refine W_cond rfl (fun c7 => ?_) (fun c7 => ?_)
       ·
        try simp only [nrm] at c7
        refine W_seq fun kz26 kq26 => ?_
        refine W_region [2] fun R hR => ?_
        simp only [go_sem, hx]
        refine hR _ _ (kq26 _ _ ?_); clear hR R; try clear kq26 kz26
        try simp only [go_sem, hx]
        refine W_ret ?_
        simp only [go_sem, hx]
        refine ⟨.inr (by trivial), ?_⟩
        first | refine Fin_same hcl rfl (Wk_eq ?_ (by simp only [go_sem])) | refine Fin_self hcl rfl (Wk_eq ?_ (by simp only [go_sem]))
        try simp only [go_sem]
        all_goals
         rw [hq, hst]; simp [*]
       ·
        try simp only [nrm] at c7
        refine W_skip (kq24 _ _ ?_)
        refine W_seq fun kz27 kq27 => ?_
        refine W_region [1, 4, 68] fun R hR => ?_
        simp only [go_sem, hx]
        refine hR _ _ (kq27 _ _ ?_); clear hR R; try clear kq27 kz27
        try simp only [go_sem, hx]
        refine W_cond rfl (fun c8 => ?_) (fun c8 => ?_)
        ·
         try simp only [nrm] at c8
         refine W_seq fun kz28 kq28 => ?_
         refine W_region [2] fun R hR => ?_
         simp only [go_sem, hx]
         refine hR _ _ (kq28 _ _ ?_); clear hR R; try clear kq28 kz28
         try simp only [go_sem, hx]
         refine W_ret ?_
         simp only [go_sem, hx]
         refine ⟨.inr (by trivial), ?_⟩
         first | refine Fin_same hcl rfl (Wk_eq ?_ (by simp only [go_sem])) | refine Fin_self hcl rfl (Wk_eq ?_ (by simp only [go_sem]))
         try simp only [go_sem]
         all_goals
          rw [hq, hst]; simp [*]
        ·
         try simp only [nrm] at c8
         refine W_skip (kq22 _ _ ?_)
         refine W_region [1, 4] fun R hR => ?_
         simp only [go_sem, hx]
         try simp (disch := omega) only [wrapI]
         refine hR _ _ ?_; clear hR R
         try simp only [go_sem, hx]
         refine ⟨j + 1, ?_, by (try simp only []); omega, ?_⟩
         ·refine Weak.trans (Weak.cutX 1 0 (by omega) (by omega) hcl (by simp only [go_sem]) (by simp only [go_sem] <;> omega)) ?_
          simp only [go_sem]
          exact Weak.eq (by first | rfl | (simp only [go_sem]; done) | (simp only [go_sem]; rfl) | (simp [go_sem]; done) | (simp [go_sem]; omega)) (by first | rfl | (simp only [go_sem]; done) | (simp [go_sem]; done))
         ·try dsimp only
          exact ⟨hi', by rw [hst]; simp [*]⟩
      ·try simp only [Bool.not_eq_true', Bool.not_eq_false'] at g1
       have n1 := g1; try simp only [nrm] at n1
       simp only [go_sem, hx, g1]
       try simp (disch := omega) only [wrapI]
       refine hR _ _ (kq25 _ _ ?_); clear hR R; try clear kq25 kz25
       try simp only [go_sem, hx]
       refine W_cond_true rfl ?_
       refine W_seq fun kz29 kq29 => ?_
       refine W_region [2] fun R hR => ?_
       simp only [go_sem, hx]
       refine hR _ _ (kq29 _ _ ?_); clear hR R; try clear kq29 kz29
       try simp only [go_sem, hx]
       refine W_ret ?_
       simp only [go_sem, hx]
       refine ⟨.inr (by trivial), ?_⟩
       first | refine Fin_same hcl rfl (Wk_eq ?_ (by simp only [go_sem])) | refine Fin_self hcl rfl (Wk_eq ?_ (by simp only [go_sem]))
       try simp only [go_sem]
       all_goals
        rw [hq, hst]; simp [*]
     ·
      try simp only [nrm] at c6
      have hdrop : t.streets.drop j = [] := List.drop_eq_nil_of_le (by omega)
      rw [hdrop] at hst
      simp only [chkStreets] at hst
      rw [hst, if_neg (by simp)] at hq
      refine W_exit ?_
      simp only [go_sem]
      refine kq18 _ _ ?_
      refine W_seq fun kz30 kq30 => ?_
      refine W_seq fun kz31 kq31 => ?_
      refine W_region [1, 72] fun R hR => ?_
      simp only [go_sem]
      refine GCall_of (rin6_pc Y _ t.steps 0 96) ?_
      simp only [go_sem]
      refine hR _ _ (kq31 _ _ ?_); clear hR R; try clear kq31 kz31
      try simp only [go_sem]
      refine W_cond rfl (fun c9 => ?_) (fun c9 => ?_)
      ·
       try simp only [nrm] at c9
       refine W_seq fun kz32 kq32 => ?_
       refine W_region [2] fun R hR => ?_
       simp only [go_sem]
       refine hR _ _ (kq32 _ _ ?_); clear hR R; try clear kq32 kz32
       try simp only [go_sem]
       refine W_ret ?_
       simp only [go_sem]
       refine ⟨.inr (by trivial), ?_⟩
       first | refine Fin_same hcl rfl (Wk_eq ?_ (by simp only [go_sem])) | refine Fin_self hcl rfl (Wk_eq ?_ (by simp only [go_sem]))
       try simp only [go_sem]
       all_goals
        rw [hq]; simp [*]
      ·
       try simp only [nrm] at c9
       refine W_skip (kq30 _ _ ?_)
       refine W_seq fun kz33 kq33 => ?_
       refine W_seq fun kz34 kq34 => ?_
       refine W_region [1, 76] fun R hR => ?_
       simp only [go_sem]
       refine hR _ _ (kq34 _ _ ?_); clear hR R; try clear kq34 kz34
       try simp only [go_sem]
       refine W_cond rfl (fun c10 => ?_) (fun c10 => ?_)
       ·
        try simp only [nrm] at c10
        refine W_seq fun kz35 kq35 => ?_
        refine W_region [2] fun R hR => ?_
        simp only [go_sem]
        refine hR _ _ (kq35 _ _ ?_); clear hR R; try clear kq35 kz35
        try simp only [go_sem]
        refine W_ret ?_
        simp only [go_sem]
        refine ⟨.inr (by trivial), ?_⟩
        first | refine Fin_same hcl rfl (Wk_eq ?_ (by simp only [go_sem])) | refine Fin_self hcl rfl (Wk_eq ?_ (by simp only [go_sem]))
        try simp only [go_sem]
        all_goals
         rw [hq]; have d5 : t.groups.length > 12 := by omega
         simp [*]
       ·
        try simp only [nrm] at c10
        refine W_skip (kq33 _ _ ?_)
        refine W_seq fun kz36 kq36 => ?_
        refine W_seq fun kz37 kq37 => ?_
        refine W_region [1, 6] fun R hR => ?_
        simp only [go_sem]
        refine hR _ _ (kq37 _ _ ?_); clear hR R; try clear kq37 kz37
        try simp only [go_sem]
        refine W_block ?_
        refine W_loopS (α := Nat) (fun (k : Nat) => [(6, I k)]) (fun (k : Nat) => k ≤ t.groups.length ∧ res = chkGroups t (t.groups.drop k)) (fun (k : Nat) => t.groups.length - k) (0) rfl (⟨Nat.zero_le _, by have d6 : ¬ t.groups.length > 12 := (by omega); rw [hq]; simp [*]⟩) ?_
        rintro k ⟨hk, hgr⟩
        refine W_seq fun kz38 kq38 => ?_
        refine W_seq fun kz39 kq39 => ?_
        refine W_region [1, 6, 81] fun R hR => ?_
        simp only [go_sem]
        refine hR _ _ (kq39 _ _ ?_); clear hR R; try clear kq39 kz39
        try simp only [go_sem]
        refine W_cond rfl (fun c11 => ?_) (fun c11 => ?_)
        ·
         try simp only [nrm] at c11
         have hi' : k < t.groups.length := by first | assumption | omega
         obtain ⟨g, hx⟩ : ∃ g, t.groups[k]? = some g := ⟨t.groups[k], by simp [hi']⟩
         have hdrop : t.groups.drop k = g :: t.groups.drop (k + 1) := by
          rw [List.drop_eq_getElem_cons hi']; congr 1; exact (List.getElem?_eq_some_iff.1 hx).2
         rw [hdrop] at hgr
         simp only [chkGroups] at hgr
         refine W_skip (kq38 _ _ ?_)
         refine W_seq fun kz40 kq40 => ?_
         refine W_block ?_
         refine W_seq fun kz41 kq41 => ?_
         refine W_draw [1, 6, 7] [0, 1, 2, 3, 4, 5, 6, 7] [] [[], [], [1], [], [1, 2, 3], [1, 2, 3, 4], [0, 1, 2, 3, 4, 5], [0, 1, 2, 3, 4, 5, 6]] mixed (by kernel_rfl) fun R hR => ?_
         simp only [go_sem, hx]
         refine GCall_of (rgroup_pc Y _ t g hr hs (hp g (List.mem_of_getElem? hx))) ?_
         simp only [go_sem, hx]
         refine hR _ _ (kq41 _ _ ?_); clear hR R; try clear kq41 kz41
         try simp only [go_sem, hx]
         refine W_seq fun kz42 kq42 => ?_
         refine W_region [1, 6, 7, 92] fun R hR => ?_
         simp only [go_sem, hx]
         refine hR _ _ (kq42 _ _ ?_); clear hR R; try clear kq42 kz42
         try simp only [go_sem, hx]
         refine W_cond rfl (fun c12 => ?_) (fun c12 => ?_)
         ·
          try simp only [nrm] at c12
          refine W_seq fun kz43 kq43 => ?_
          refine W_region [2] fun R hR => ?_
          simp only [go_sem, hx]
          refine hR _ _ (kq43 _ _ ?_); clear hR R; try clear kq43 kz43
          try simp only [go_sem, hx]
          refine W_ret ?_
          simp only [go_sem, hx]
          refine ⟨.inr (by trivial), ?_⟩
          first | refine Fin_same hcl rfl (Wk_eq ?_ (by simp only [go_sem])) | refine Fin_self hcl rfl (Wk_eq ?_ (by simp only [go_sem]))
          try simp only [go_sem]
          all_goals
           rw [hgr]; simp [*]
         ·
          try simp only [nrm] at c12
          refine W_skip (kq40 _ _ ?_)
          refine W_region [1, 6] fun R hR => ?_
          simp only [go_sem, hx]
          try simp (disch := omega) only [wrapI]
          refine hR _ _ ?_; clear hR R
          try simp only [go_sem, hx]
          refine ⟨k + 1, ?_, by (try simp only []); omega, ?_⟩
          ·first | exact Weak.refl | exact Weak.eq (by first | rfl | (simp only [go_sem]; done) | (simp only [go_sem]; rfl) | (simp [go_sem]; done) | (simp [go_sem]; omega)) (by first | rfl | (simp only [go_sem]; done) | (simp [go_sem]; done))
          ·try dsimp only
           exact ⟨hi', by rw [hgr]; simp [*]⟩
        ·
         try simp only [nrm] at c11
         have hdrop : t.groups.drop k = [] := List.drop_eq_nil_of_le (by omega)
         rw [hdrop] at hgr
         simp only [chkGroups] at hgr
         refine W_exit ?_
         simp only [go_sem]
         refine kq36 _ _ ?_
         refine W_seq fun kz44 kq44 => ?_
         refine W_region [2] fun R hR => ?_
         simp only [go_sem]
         refine hR _ _ (kq44 _ _ ?_); clear hR R; try clear kq44 kz44
         try simp only [go_sem]
         refine W_ret ?_
         simp only [go_sem]
         refine ⟨.inr (by trivial), ?_⟩
         first | refine Fin_same hcl rfl (Wk_eq ?_ (by simp only [go_sem])) | refine Fin_self hcl rfl (Wk_eq ?_ (by simp only [go_sem]))
         try simp only [go_sem]
         all_goals
          rw [hgr]
end Go.Proofs.YteklodljdndcoaaGreatDoor
namespace Go.Proofs.YteklodljdndcoaaGreatDoor
open Go Go.RowKit
set_option maxRecDepth 100000
theorem any_take {q : Int → Bool} {l : List Int} {i : Nat} {x : Int} (h : l[i]? = some x) : (l.take (i + 1)).any q = ((l.take i).any q || q x) := by
  rw [List.take_add_one, h]; simp
theorem any_of {q : Int → Bool} {l : List Int} {i : Nat} {x : Int} (h : l[i]? = some x) (hq : q x = true) : l.any q = true :=
  List.any_eq_true.2 ⟨x, List.mem_of_getElem? h, hq⟩
theorem walkSq_ok (st : List (Int × Int)) : ∀ (l : List Int) (a : Int) (out : List Int), (walkSq st l a out).2 = 0 → (walkSq st l a out).1.length = out.length + l.length := by
  intro l
  induction l with
  | nil => intro a out _; simp [walkSq]
  | cons n r ih =>
    intro a out
    simp only [walkSq]
    split
    · simp
    · split
      · simp
      · rename_i s _
        split
        · intro h; have := ih s.2 (out ++ [s.2]) h; simp at this ⊢; omega
        · split
          · intro h; have := ih s.1 (out ++ [s.1]) h; simp at this ⊢; omega
          · simp
theorem sqs_ok {c : City} {b : Band} (h : (sqs c b).2 = 0) : (sqs c b).1.length = b.path.length + 1 := by
  unfold sqs at h ⊢
  split
  · simp_all
  · split
    · simp_all
    · rename_i h1 h2
      rw [if_neg h1, if_neg h2] at h
      have := walkSq_ok _ _ _ _ h
      simp at this; omega
set_option maxHeartbeats 2000000 in
theorem rcheck_pc (Y : YEnv) (σ : Sg) (ct : City) (hc : ct.Ok) :
  PC Tryz.prog Y 39 [ctPV ct] σ (I (chkCity ct)) (σ) := by
 refine PC_of_W Tryz.func39 rfl (by kernel_rfl) Tryz.ntmps39 (by simp) fun hcl hca => ?_
 have hsl := hc.hsl
 refine W_seq fun kz1 kq1 => ?_
 refine W_region [1] fun R hR => ?_
 simp only [go_sem]
 refine hR _ _ (kq1 _ _ ?_); clear hR R; try clear kq1 kz1
 try simp only [go_sem]
 refine W_seq fun kz2 kq2 => ?_
 refine W_seq fun kz3 kq3 => ?_
 refine W_region [1, 3] fun R hR => ?_
 simp only [go_sem]
 refine GCall_of (rtown_pc Y _ ct.town hc.hr hc.hs hc.hg hc.hp) ?_
 simp only [go_sem]
 refine hR _ _ (kq3 _ _ ?_); clear hR R; try clear kq3 kz3
 try simp only [go_sem]
 refine W_seq fun kz4 kq4 => ?_
 refine W_region [1, 3, 9] fun R hR => ?_
 simp only [go_sem]
 refine hR _ _ (kq4 _ _ ?_); clear hR R; try clear kq4 kz4
 try simp only [go_sem]
 refine W_cond rfl (fun c1 => ?_) (fun c1 => ?_)
 ·
  try simp only [nrm] at c1
  refine W_seq fun kz5 kq5 => ?_
  refine W_region [2] fun R hR => ?_
  simp only [go_sem]
  refine hR _ _ (kq5 _ _ ?_); clear hR R; try clear kq5 kz5
  try simp only [go_sem]
  refine W_ret ?_
  simp only [go_sem]
  refine ⟨.inr (by trivial), ?_⟩
  first | refine Fin_same hcl rfl (Wk_eq ?_ (by simp only [go_sem])) | refine Fin_self hcl rfl (Wk_eq ?_ (by simp only [go_sem]))
  try simp only [go_sem]
  all_goals
   simp [chkCity, *]
 ·
  try simp only [nrm] at c1
  refine W_skip (kq2 _ _ ?_)
  refine W_seq fun kz6 kq6 => ?_
  refine W_seq fun kz7 kq7 => ?_
  refine W_region [1, 14] fun R hR => ?_
  simp only [go_sem]
  refine GCall_of (rin_pc Y _ ct.brk 0 120) ?_
  simp only [go_sem]
  refine hR _ _ (kq7 _ _ ?_); clear hR R; try clear kq7 kz7
  try simp only [go_sem]
  refine W_cond rfl (fun c2 => ?_) (fun c2 => ?_)
  ·
   try simp only [nrm] at c2
   refine W_seq fun kz8 kq8 => ?_
   refine W_region [2] fun R hR => ?_
   simp only [go_sem]
   refine hR _ _ (kq8 _ _ ?_); clear hR R; try clear kq8 kz8
   try simp only [go_sem]
   refine W_ret ?_
   simp only [go_sem]
   refine ⟨.inr (by trivial), ?_⟩
   first | refine Fin_same hcl rfl (Wk_eq ?_ (by simp only [go_sem])) | refine Fin_self hcl rfl (Wk_eq ?_ (by simp only [go_sem]))
   try simp only [go_sem]
   all_goals
    simp [chkCity, *]
  ·
   try simp only [nrm] at c2
   refine W_skip (kq6 _ _ ?_)
   refine W_seq fun kz9 kq9 => ?_
   refine W_seq fun kz10 kq10 => ?_
   refine W_region [1, 22] fun R hR => ?_
   simp only [go_sem]
   refine hR _ _ (kq10 _ _ ?_); clear hR R; try clear kq10 kz10
   try simp only [go_sem]
   refine W_cond rfl (fun c3 => ?_) (fun c3 => ?_)
   ·
    try simp only [nrm] at c3
    refine W_seq fun kz11 kq11 => ?_
    refine W_region [2] fun R hR => ?_
    simp only [go_sem]
    refine hR _ _ (kq11 _ _ ?_); clear hR R; try clear kq11 kz11
    try simp only [go_sem]
    refine W_ret ?_
    simp only [go_sem]
    refine ⟨.inr (by trivial), ?_⟩
    first | refine Fin_same hcl rfl (Wk_eq ?_ (by simp only [go_sem])) | refine Fin_self hcl rfl (Wk_eq ?_ (by simp only [go_sem]))
    try simp only [go_sem]
    all_goals
     simp [chkCity, *]
   ·
    try simp only [nrm] at c3
    refine W_skip (kq9 _ _ ?_)
    refine W_seq fun kz12 kq12 => ?_
    refine W_seq fun kz13 kq13 => ?_
    refine W_region [1, 4] fun R hR => ?_
    simp only [go_sem]
    refine hR _ _ (kq13 _ _ ?_); clear hR R; try clear kq13 kz13
    try simp only [go_sem]
    refine W_block ?_
    refine W_loopS (α := Nat) (fun (i : Nat) => [(4, I i)]) (fun (i : Nat) => i ≤ ct.sleep.length ∧ (ct.sleep.take i).any (fun n => !(inR n 0 720)) = false) (fun (i : Nat) => ct.sleep.length - i) (0) rfl (⟨Nat.zero_le _, rfl⟩) ?_
    rintro i ⟨hi, hall⟩
    refine W_seq fun kz14 kq14 => ?_
    refine W_seq fun kz15 kq15 => ?_
    refine W_region [1, 4, 27] fun R hR => ?_
    simp only [go_sem]
    refine hR _ _ (kq15 _ _ ?_); clear hR R; try clear kq15 kz15
    try simp only [go_sem]
    refine W_cond rfl (fun c4 => ?_) (fun c4 => ?_)
    ·
     try simp only [nrm] at c4
     have hi' : i < ct.sleep.length := by first | assumption | omega
     obtain ⟨x, hx⟩ : ∃ x, ct.sleep[i]? = some x := ⟨ct.sleep[i], by simp [hi']⟩
     have hdrop : ct.sleep.drop i = x :: ct.sleep.drop (i + 1) := by
      rw [List.drop_eq_getElem_cons hi']; congr 1; exact (List.getElem?_eq_some_iff.1 hx).2
     refine W_skip (kq14 _ _ ?_)
     refine W_seq fun kz16 kq16 => ?_
     refine W_block ?_
     refine W_seq fun kz17 kq17 => ?_
     refine W_region [1, 4, 36] fun R hR => ?_
     simp only [go_sem, hx]
     refine GCall_of (rin_pc Y _ x 0 720) ?_
     simp only [go_sem, hx]
     refine hR _ _ (kq17 _ _ ?_); clear hR R; try clear kq17 kz17
     try simp only [go_sem, hx]
     refine W_cond rfl (fun c5 => ?_) (fun c5 => ?_)
     ·
      try simp only [nrm] at c5
      refine W_seq fun kz18 kq18 => ?_
      refine W_region [2] fun R hR => ?_
      simp only [go_sem, hx]
      refine hR _ _ (kq18 _ _ ?_); clear hR R; try clear kq18 kz18
      try simp only [go_sem, hx]
      refine W_ret ?_
      simp only [go_sem, hx]
      refine ⟨.inr (by trivial), ?_⟩
      first | refine Fin_same hcl rfl (Wk_eq ?_ (by simp only [go_sem])) | refine Fin_self hcl rfl (Wk_eq ?_ (by simp only [go_sem]))
      try simp only [go_sem]
      all_goals
       have hany : ct.sleep.any (fun n => !(inR n 0 720)) = true := any_of hx (by simp [c5])
       unfold chkCity
       rw [if_neg (by simp [c1]), if_neg (by simp [c2]), if_neg (by simp [c3]), if_pos hany]
     ·
      try simp only [nrm] at c5
      refine W_skip (kq16 _ _ ?_)
      refine W_region [1, 4] fun R hR => ?_
      simp only [go_sem, hx]
      try simp (disch := omega) only [wrapI]
      refine hR _ _ ?_; clear hR R
      try simp only [go_sem, hx]
      refine ⟨i + 1, ?_, by (try simp only []); omega, ?_⟩
      ·first | exact Weak.refl | exact Weak.eq (by first | rfl | (simp only [go_sem]; done) | (simp only [go_sem]; rfl) | (simp [go_sem]; done) | (simp [go_sem]; omega)) (by first | rfl | (simp only [go_sem]; done) | (simp [go_sem]; done))
      ·try dsimp only
       exact ⟨hi', by rw [any_take hx, hall, c5]; rfl⟩
    ·
     try simp only [nrm] at c4
     have hie : i = ct.sleep.length := by omega
     subst hie
     rw [List.take_length] at hall
     refine W_exit ?_
     simp only [go_sem]
     refine kq12 _ _ ?_
     refine W_seq fun kz19 kq19 => ?_
     refine W_region [2] fun R hR => ?_
     simp only [go_sem]
     refine hR _ _ (kq19 _ _ ?_); clear hR R; try clear kq19 kz19
     try simp only [go_sem]
     refine W_ret ?_
     simp only [go_sem]
     refine ⟨.inr (by trivial), ?_⟩
     first | refine Fin_same hcl rfl (Wk_eq ?_ (by simp only [go_sem])) | refine Fin_self hcl rfl (Wk_eq ?_ (by simp only [go_sem]))
     try simp only [go_sem]
     all_goals
      unfold chkCity
      rw [if_neg (by simp [c1]), if_neg (by simp [c2]), if_neg (by simp [c3]), if_neg (by rw [hall]; simp)]
set_option maxHeartbeats 2000000 in
theorem rsquares_pc (Y : YEnv) (σ : Sg) (ct : City) (b : Band) (hc : ct.Ok) (hb : b.path.length < 2 ^ 50) :
  PC Tryz.prog Y 75 [ctPV ct, bdPV b] σ (sqPV (sqs ct b)) (σ) := by
 refine PC_of_W Tryz.func75 rfl (by kernel_rfl) Tryz.ntmps75 (by simp) fun hcl hca => ?_
 have hr := hc.hr
 have hs := hc.hs
 obtain ⟨res, hres⟩ : ∃ r, sqs ct b = r := ⟨_, rfl⟩
 rw [hres]
 refine W_seq fun kz1 kq1 => ?_
 refine W_region [2, 3] fun R hR => ?_
 simp only [go_sem]
 refine hR _ _ (kq1 _ _ ?_); clear hR R; try clear kq1 kz1
 try simp only [go_sem]
 refine W_seq fun kz2 kq2 => ?_
 refine W_seq fun kz3 kq3 => ?_
 refine W_region [2, 3, 18] fun R hR => ?_
 simp only [go_sem]
 try simp (disch := omega) only [wrapI]
 refine GCall_of (rin_pc Y _ b.first 0 _) ?_
 simp only [go_sem]
 try simp (disch := omega) only [wrapI]
 refine hR _ _ (kq3 _ _ ?_); clear hR R; try clear kq3 kz3
 try simp only [go_sem]
 refine W_cond rfl (fun c1 => ?_) (fun c1 => ?_)
 ·
  try simp only [nrm] at c1
  refine W_seq fun kz4 kq4 => ?_
  refine W_region [4, 5] fun R hR => ?_
  simp only [go_sem]
  refine hR _ _ (kq4 _ _ ?_); clear hR R; try clear kq4 kz4
  try simp only [go_sem]
  refine W_ret ?_
  simp only [go_sem]
  refine ⟨.inr (by trivial), ?_⟩
  refine Fin_same hcl rfl (Wk.ro (by simp only [go_sem]) ?_)
  try simp only [go_sem]
  all_goals
   first | rfl | (simp_all; done) | (simp_all; omega) | (rw [← hres]; simp only [sqs]; (repeat' split) <;> ((first | rfl | omega | (simp_all; done) | (simp_all; omega))))
 ·
  try simp only [nrm] at c1
  refine W_skip (kq2 _ _ ?_)
  refine W_seq fun kz5 kq5 => ?_
  refine W_seq fun kz6 kq6 => ?_
  refine W_region [2, 3, 22] fun R hR => ?_
  simp only [go_sem]
  refine hR _ _ (kq6 _ _ ?_); clear hR R; try clear kq6 kz6
  try simp only [go_sem]
  refine W_cond rfl (fun c2 => ?_) (fun c2 => ?_)
  ·
   try simp only [nrm] at c2
   refine W_seq fun kz7 kq7 => ?_
   refine W_region [4, 5] fun R hR => ?_
   simp only [go_sem]
   refine hR _ _ (kq7 _ _ ?_); clear hR R; try clear kq7 kz7
   try simp only [go_sem]
   refine W_ret ?_
   simp only [go_sem]
   refine ⟨.inr (by trivial), ?_⟩
   refine Fin_same hcl rfl (Wk.ro (by simp only [go_sem]) ?_)
   try simp only [go_sem]
   all_goals
    first | rfl | (simp_all; done) | (simp_all; omega) | (rw [← hres]; simp only [sqs]; (repeat' split) <;> ((first | rfl | omega | (simp_all; done) | (simp_all; omega))))
  ·
   try simp only [nrm] at c2
   refine W_skip (kq5 _ _ ?_)
   refine W_seq fun kz8 kq8 => ?_
   refine W_region [2, 3, 6] fun R hR => ?_
   simp only [go_sem]
   refine hR _ _ (kq8 _ _ ?_); clear hR R; try clear kq8 kz8
   try simp only [go_sem]
   refine W_seq fun kz9 kq9 => ?_
   refine W_region [2, 3, 6, 7] fun R hR => ?_
   simp only [go_sem]
   refine hR _ _ (kq9 _ _ ?_); clear hR R; try clear kq9 kz9
   try simp only [go_sem]
   refine W_seq fun kz10 kq10 => ?_
   refine W_seq fun kz11 kq11 => ?_
   refine W_region [2, 3, 6, 7, 8] fun R hR => ?_
   simp only [go_sem]
   refine hR _ _ (kq11 _ _ ?_); clear hR R; try clear kq11 kz11
   try simp only [go_sem]
   refine W_block ?_
   refine W_weak (Weak.room (t := 7) (es := 1) rfl (by simp)) ?_
   refine W_weak (Weak.keep [2, 3, 6, 7, 8]) ?_
   simp only [go_sem]
   refine W_loopT (α := Nat × Int × (List Int)) (fun ⟨i, at', out⟩ => [(6, I at'), (7, .isl (out.map I) (.tok σ.rooms.length out.length 1)), (8, I i)]) (fun ⟨i, at', out⟩ => σ.ext [some (ctCells ct), some (bdCells b)] [out.length]) (fun ⟨i, at', out⟩ => i ≤ b.path.length ∧ out.length = i + 1 ∧ res = walkSq ct.town.streets (b.path.drop i) at' out) (fun ⟨i, at', out⟩ => b.path.length - i) ((0, b.first, [b.first])) rfl (by first | rfl | (simp only [go_sem]; done) | (simp only [go_sem]; rfl)) (⟨Nat.zero_le _, rfl, by rw [← hres]; simp only [sqs]; simp [c1, c2]⟩) ?_
   rintro ⟨i, at', out⟩ ⟨hi, ho, hinv⟩
   refine W_seq fun kz12 kq12 => ?_
   refine W_seq fun kz13 kq13 => ?_
   refine W_region [2, 3, 6, 7, 8, 31] fun R hR => ?_
   simp only [go_sem]
   refine hR _ _ (kq13 _ _ ?_); clear hR R; try clear kq13 kz13
   try simp only [go_sem]
   refine W_cond rfl (fun c3 => ?_) (fun c3 => ?_)
   ·
    try simp only [nrm] at c3
    have hi' : i < b.path.length := by first | assumption | omega
    obtain ⟨x, hx⟩ : ∃ x, b.path[i]? = some x := ⟨b.path[i], by simp [hi']⟩
    have hdrop : b.path.drop i = x :: b.path.drop (i + 1) := by
     rw [List.drop_eq_getElem_cons hi']; congr 1; exact (List.getElem?_eq_some_iff.1 hx).2
    rw [hdrop] at hinv
    simp only [walkSq] at hinv
    refine W_skip (kq12 _ _ ?_)
    refine W_seq fun kz14 kq14 => ?_
    refine W_block ?_
    refine W_seq fun kz15 kq15 => ?_
    refine W_seq fun kz16 kq16 => ?_
    refine W_draw [2, 3, 6, 7, 8, 45] [0, 1, 2, 3, 4, 5, 6, 7, 8, 9, 10, 11] [] [[], [0], [], [0, 1, 2], [0, 1, 2, 3], [], [5], [5, 6], [5, 6, 7], [5, 6, 7, 8], [0, 1, 2, 3, 4, 5, 6, 7, 8, 9], [0, 1, 2, 3, 4, 5, 6, 7, 8, 9, 10]] mixed (by kernel_rfl) fun R hR => ?_
    simp only [go_sem, hx]
    try simp (disch := omega) only [wrapI]
    refine GCall_of (rin_pc Y _ x 0 _) ?_
    simp only [go_sem, hx]
    try simp (disch := omega) only [wrapI]
    try refine And.intro (by repeat' (first | refine And.intro ?_ ?_ | exact GOr_right (fun _ => by simp only [go_sem, hx]))) ?_
    refine hR _ _ (kq16 _ _ ?_); clear hR R; try clear kq16 kz16
    try simp only [go_sem, hx]
    refine W_cond rfl (fun c4 => ?_) (fun c4 => ?_)
    ·
     try simp only [nrm] at c4
     refine W_seq fun kz17 kq17 => ?_
     refine W_region [4, 5] fun R hR => ?_
     simp only [go_sem, hx]
     refine hR _ _ (kq17 _ _ ?_); clear hR R; try clear kq17 kz17
     try simp only [go_sem, hx]
     refine W_ret ?_
     simp only [go_sem, hx]
     refine ⟨.inr (by trivial), ?_⟩
     refine Fin_same hcl rfl (Wk.ro (by simp only [go_sem]) ?_)
     try simp only [go_sem]
     all_goals
      first | rfl | (simp_all; done) | (simp_all; omega) | (rw [← hres]; simp only [sqs]; (repeat' split) <;> ((first | rfl | omega | (simp_all; done) | (simp_all; omega))))
    ·
     try simp only [nrm] at c4
     have hin : 0 ≤ x ∧ x ≤ (ct.town.streets.length : Int) - 1 := by simpa [inR] using c4
     obtain ⟨n, rfl⟩ : ∃ n : Nat, x = (n : Int) := ⟨x.toNat, by omega⟩
     obtain ⟨s, hs'⟩ : ∃ s, ct.town.streets[n]? = some s := ⟨ct.town.streets[n]'(by omega), by simp⟩
     simp only [c4, Int.toNat_natCast, hs'] at hinv
     refine W_skip (kq15 _ _ ?_)
     refine W_seq fun kz18 kq18 => ?_
     refine W_seq fun kz19 kq19 => ?_
     refine W_draw [2, 3, 6, 7, 8, 9] [0, 1, 2, 3, 4, 5, 6, 7, 8, 9, 10, 11] [(0, 11), (1, 11), (2, 11), (3, 11), (4, 11), (5, 11), (6, 11), (7, 11), (8, 11), (9, 11)] [[], [0], [0, 1], [], [3], [], [3, 4, 5], [3, 4, 5, 6], [0, 1, 2, 3, 4, 5, 6, 7], [0, 1, 2, 3, 4, 5, 6, 7, 8], [], [0, 1, 2, 3, 4, 5, 6, 7, 8, 9, 10]] mixed (by kernel_rfl) fun R hR => ?_
     simp only [go_sem, hx, hs']
     try refine And.intro (by repeat' (first | refine And.intro ?_ ?_ | exact GOr_right (fun _ => by simp only [go_sem, hx, hs']))) ?_
     refine hR _ _ (kq19 _ _ ?_); clear hR R; try clear kq19 kz19
     try simp only [go_sem, hx, hs']
     refine W_seq fun kz20 kq20 => ?_
     refine W_region [2, 3, 7, 8, 9, 56] fun R hR => ?_
     simp only [go_sem, hx, hs']
     refine hR _ _ (kq20 _ _ ?_); clear hR R; try clear kq20 kz20
     try simp only [go_sem, hx, hs']
     refine W_block ?_
     refine W_seq fun kz21 kq21 => ?_
     refine W_region [2, 3, 7, 8, 9, 56, 57] fun R hR => ?_
     simp only [go_sem, hx, hs']
     refine hR _ _ (kq21 _ _ ?_); clear hR R; try clear kq21 kz21
     try simp only [go_sem, hx, hs']
     refine W_cond rfl (fun c5 => ?_) (fun c5 => ?_)
     ·
      try simp only [nrm] at c5
      refine W_region [2, 3, 6, 7, 8] fun R hR => ?_
      simp only [go_sem, hx, hs']
      refine hR _ _ (kq18 _ _ ?_); clear hR R; try clear kq18 kz18
      try simp only [go_sem, hx, hs']
      refine W_region [2, 3, 6, 7, 8] fun R hR => ?_
      simp only [go_sem, hx, hs']
      simp (disch := first | omega | (simp only [go_sem] <;> omega)) only [wrapI, appX_exact, appX_tok]
      try simp only [go_sem, hx, hs']
      refine hR _ _ (kq14 _ _ ?_); clear hR R; try clear kq14 kz14
      try simp only [go_sem, hx, hs']
      refine W_region [2, 3, 6, 7, 8] fun R hR => ?_
      simp only [go_sem, hx, hs']
      try simp (disch := omega) only [wrapI]
      refine hR _ _ ?_; clear hR R
      try simp only [go_sem, hx, hs']
      refine ⟨(i + 1, s.2, out ++ [s.2]), ?_, by (try simp only []); omega, ?_⟩
      ·refine Weak.trans (Weak.cutX 2 1 (by omega) (by omega) hcl (by simp only [go_sem]) (by simp only [go_sem] <;> omega)) ?_
       simp only [go_sem]
       exact Weak.eq (by first | rfl | (simp only [go_sem]; done) | (simp only [go_sem]; rfl) | (simp [go_sem]; done) | (simp [go_sem]; omega)) (by first | rfl | (simp only [go_sem]; done) | (simp [go_sem]; done))
      ·try dsimp only
       exact ⟨hi', by simp; omega, by simp_all⟩
     ·
      try simp only [nrm] at c5
      refine W_seq fun kz22 kq22 => ?_
      refine W_region [2, 3, 7, 8, 9, 63] fun R hR => ?_
      simp only [go_sem, hx, hs']
      refine hR _ _ (kq22 _ _ ?_); clear hR R; try clear kq22 kz22
      try simp only [go_sem, hx, hs']
      refine W_cond rfl (fun c6 => ?_) (fun c6 => ?_)
      ·
       try simp only [nrm] at c6
       refine W_region [2, 3, 6, 7, 8] fun R hR => ?_
       simp only [go_sem, hx, hs']
       refine hR _ _ (kq18 _ _ ?_); clear hR R; try clear kq18 kz18
       try simp only [go_sem, hx, hs']
       refine W_region [2, 3, 6, 7, 8] fun R hR => ?_
       simp only [go_sem, hx, hs']
       simp (disch := first | omega | (simp only [go_sem] <;> omega)) only [wrapI, appX_exact, appX_tok]
       try simp only [go_sem, hx, hs']
       refine hR _ _ (kq14 _ _ ?_); clear hR R; try clear kq14 kz14
       try simp only [go_sem, hx, hs']
       refine W_region [2, 3, 6, 7, 8] fun R hR => ?_
       simp only [go_sem, hx, hs']
       try simp (disch := omega) only [wrapI]
       refine hR _ _ ?_; clear hR R
       try simp only [go_sem, hx, hs']
       refine ⟨(i + 1, s.1, out ++ [s.1]), ?_, by (try simp only []); omega, ?_⟩
       ·refine Weak.trans (Weak.cutX 2 1 (by omega) (by omega) hcl (by simp only [go_sem]) (by simp only [go_sem] <;> omega)) ?_
        simp only [go_sem]
        exact Weak.eq (by first | rfl | (simp only [go_sem]; done) | (simp only [go_sem]; rfl) | (simp [go_sem]; done) | (simp [go_sem]; omega)) (by first | rfl | (simp only [go_sem]; done) | (simp [go_sem]; done))
       ·try dsimp only
        exact ⟨hi', by simp; omega, by simp_all⟩
      ·
       try simp only [nrm] at c6
       refine W_seq fun kz23 kq23 => ?_
       refine W_region [4, 5] fun R hR => ?_
       simp only [go_sem, hx, hs']
       refine hR _ _ (kq23 _ _ ?_); clear hR R; try clear kq23 kz23
       try simp only [go_sem, hx, hs']
       refine W_ret ?_
       simp only [go_sem, hx, hs']
       refine ⟨.inr (by trivial), ?_⟩
       refine Fin_same hcl rfl (Wk.ro (by simp only [go_sem]) ?_)
       try simp only [go_sem]
       all_goals
        first | rfl | (simp_all; done) | (simp_all; omega) | (rw [← hres]; simp only [sqs]; (repeat' split) <;> ((first | rfl | omega | (simp_all; done) | (simp_all; omega))))
   ·
    try simp only [nrm] at c3
    have hdrop : b.path.drop i = [] := List.drop_eq_nil_of_le (by omega)
    rw [hdrop] at hinv
    simp only [walkSq] at hinv
    refine W_exit ?_
    simp only [go_sem]
    refine kq10 _ _ ?_
    refine W_seq fun kz24 kq24 => ?_
    refine W_region [4, 5] fun R hR => ?_
    simp only [go_sem]
    refine hR _ _ (kq24 _ _ ?_); clear hR R; try clear kq24 kz24
    try simp only [go_sem]
    refine W_ret ?_
    simp only [go_sem]
    refine ⟨.inr (by trivial), ?_⟩
    refine Fin_same hcl rfl (Wk.ro (by simp only [go_sem]) ?_)
    try simp only [go_sem]
    all_goals
     first | rfl | (simp_all; done) | (simp_all; omega) | (rw [← hres]; simp only [sqs]; (repeat' split) <;> ((first | rfl | omega | (simp_all; done) | (simp_all; omega))))
set_option maxHeartbeats 2000000 in
theorem rcheckBand_pc (Y : YEnv) (σ : Sg) (ct : City) (b : Band) (hc : ct.Ok) (hb : b.path.length < 2 ^ 50) :
  PC Tryz.prog Y 54 [ctPV ct, bdPV b] σ (I (chkBand ct b)) (σ) := by
 refine PC_of_W Tryz.func54 rfl (by kernel_rfl) Tryz.ntmps54 (by simp) fun hcl hca => ?_
 refine W_seq fun kz1 kq1 => ?_
 refine W_region [2, 3] fun R hR => ?_
 simp only [go_sem]
 refine hR _ _ (kq1 _ _ ?_); clear hR R; try clear kq1 kz1
 try simp only [go_sem]
 refine W_seq fun kz2 kq2 => ?_
 refine W_region [3, 5, 6] fun R hR => ?_
 simp only [go_sem]
 refine GCall_of (rsquares_pc Y _ ct b hc hb) ?_
 simp only [go_sem]
 refine hR _ _ (kq2 _ _ ?_); clear hR R; try clear kq2 kz2
 try simp only [go_sem]
 refine W_seq fun kz3 kq3 => ?_
 refine W_seq fun kz4 kq4 => ?_
 refine W_region [3, 5, 6, 14] fun R hR => ?_
 simp only [go_sem]
 refine hR _ _ (kq4 _ _ ?_); clear hR R; try clear kq4 kz4
 try simp only [go_sem]
 refine W_cond rfl (fun c1 => ?_) (fun c1 => ?_)
 ·
  try simp only [nrm] at c1
  refine W_seq fun kz5 kq5 => ?_
  refine W_region [4] fun R hR => ?_
  simp only [go_sem]
  refine hR _ _ (kq5 _ _ ?_); clear hR R; try clear kq5 kz5
  try simp only [go_sem]
  refine W_ret ?_
  simp only [go_sem]
  refine ⟨.inr (by trivial), ?_⟩
  first | refine Fin_same hcl rfl (Wk_eq ?_ (by simp only [go_sem])) | refine Fin_self hcl rfl (Wk_eq ?_ (by simp only [go_sem]))
  try simp only [go_sem]
  all_goals
   simp [chkBand, timesOf, *]
 ·
  try simp only [nrm] at c1
  have hln := sqs_ok c1
  refine W_skip (kq3 _ _ ?_)
  refine W_seq fun kz6 kq6 => ?_
  refine W_seq fun kz7 kq7 => ?_
  refine W_region [3, 5, 27] fun R hR => ?_
  simp only [go_sem]
  refine GCall_of (rin_pc Y _ b.lo 0 720) ?_
  simp only [go_sem]
  refine GWant_split (fun g1 => ?_) (fun g1 => ?_)
  ·try simp only [Bool.not_eq_true', Bool.not_eq_false'] at g1
   have n1 := g1; try simp only [nrm] at n1
   simp only [go_sem, g1]
   refine GCall_of (rin_pc Y _ b.hi 0 720) ?_
   simp only [go_sem, g1]
   refine hR _ _ (kq7 _ _ ?_); clear hR R; try clear kq7 kz7
   try simp only [go_sem]
   refine W_cond rfl (fun c2 => ?_) (fun c2 => ?_)
   ·
    try simp only [nrm] at c2
    refine W_seq fun kz8 kq8 => ?_
    refine W_region [4] fun R hR => ?_
    simp only [go_sem]
    refine hR _ _ (kq8 _ _ ?_); clear hR R; try clear kq8 kz8
    try simp only [go_sem]
    refine W_ret ?_
    simp only [go_sem]
    refine ⟨.inr (by trivial), ?_⟩
    first | refine Fin_same hcl rfl (Wk_eq ?_ (by simp only [go_sem])) | refine Fin_self hcl rfl (Wk_eq ?_ (by simp only [go_sem]))
    try simp only [go_sem]
    all_goals
     simp [chkBand, timesOf, *]
   ·
    try simp only [nrm] at c2
    refine W_skip (kq6 _ _ ?_)
    refine W_seq fun kz9 kq9 => ?_
    refine W_seq fun kz10 kq10 => ?_
    refine W_region [3, 5, 34] fun R hR => ?_
    simp only [go_sem]
    refine hR _ _ (kq10 _ _ ?_); clear hR R; try clear kq10 kz10
    try simp only [go_sem]
    refine W_cond rfl (fun c3 => ?_) (fun c3 => ?_)
    ·
     try simp only [nrm] at c3
     refine W_seq fun kz11 kq11 => ?_
     refine W_region [4] fun R hR => ?_
     simp only [go_sem]
     refine hR _ _ (kq11 _ _ ?_); clear hR R; try clear kq11 kz11
     try simp only [go_sem]
     refine W_ret ?_
     simp only [go_sem]
     refine ⟨.inr (by trivial), ?_⟩
     first | refine Fin_same hcl rfl (Wk_eq ?_ (by simp only [go_sem])) | refine Fin_self hcl rfl (Wk_eq ?_ (by simp only [go_sem]))
     try simp only [go_sem]
     all_goals
      simp [chkBand, timesOf, *]
    ·
     try simp only [nrm] at c3
     refine W_skip (kq9 _ _ ?_)
     refine W_seq fun kz12 kq12 => ?_
     refine W_seq fun kz13 kq13 => ?_
     have d1 : inR b.lo 0 720 = true := by first | assumption | (simp_all; done)
     have d2 : inR b.hi 0 720 = true := by first | assumption | (simp_all; done)
     simp only [inR_true] at d1 d2
     refine W_region [3, 5, 54] fun R hR => ?_
     simp only [go_sem]
     refine GWant_split (fun g2 => ?_) (fun g2 => ?_)
     ·try simp only [Bool.not_eq_true', Bool.not_eq_false'] at g2
      have n2 := g2; try simp only [nrm] at n2
      try simp (disch := omega) only [wrapI] at n2
      simp only [go_sem, g2]
      try simp (disch := omega) only [wrapI]
      refine GCall_of (rin_pc Y _ b.stay 1 120) ?_
      simp only [go_sem, g2]
      refine GWant_split (fun g3 => ?_) (fun g3 => ?_)
      ·try simp only [Bool.not_eq_true', Bool.not_eq_false'] at g3
       have n3 := g3; try simp only [nrm] at n3
       try simp (disch := omega) only [wrapI] at n3
       simp only [go_sem, g2, g3]
       try simp (disch := omega) only [wrapI]
       refine GCall_of (rin_pc Y _ b.people 0 1000000) ?_
       simp only [go_sem, g2, g3]
       try simp (disch := omega) only [wrapI]
       refine hR _ _ (kq13 _ _ ?_); clear hR R; try clear kq13 kz13
       try simp only [go_sem]
       refine W_cond rfl (fun c4 => ?_) (fun c4 => ?_)
       ·
        try simp only [nrm] at c4
        refine W_seq fun kz14 kq14 => ?_
        refine W_region [4] fun R hR => ?_
        simp only [go_sem]
        refine hR _ _ (kq14 _ _ ?_); clear hR R; try clear kq14 kz14
        try simp only [go_sem]
        refine W_ret ?_
        simp only [go_sem]
        refine ⟨.inr (by trivial), ?_⟩
        first | refine Fin_same hcl rfl (Wk_eq ?_ (by simp only [go_sem])) | refine Fin_self hcl rfl (Wk_eq ?_ (by simp only [go_sem]))
        try simp only [go_sem]
        all_goals
         simp [chkBand, timesOf, *]
       ·
        try simp only [nrm] at c4
        refine W_skip (kq12 _ _ ?_)
        refine W_seq fun kz15 kq15 => ?_
        refine W_seq fun kz16 kq16 => ?_
        have d3 : inR b.stay 1 120 = true := by first | assumption | (simp_all; done)
        simp only [inR_true] at d3
        have d4 := mul_bd (a := b.stay) (b := (b.path.length : Int) + 1) (A := 120) (B := 2 ^ 51) (by omega) (by omega) (by omega) (by omega)
        have d5 : ((sqs ct b).1.length : Int) * b.stay = b.stay * ((b.path.length : Int) + 1) := by rw [hln, Int.mul_comm]; rfl
        refine W_region [64] fun R hR => ?_
        simp only [go_sem]
        try simp (disch := omega) only [wrapI]
        simp only [d5, wrapI (show -9223372036854775808 ≤ b.stay * ((b.path.length : Int) + 1) by omega) (by omega), wrapI (show -9223372036854775808 ≤ b.hi + b.stay * ((b.path.length : Int) + 1) by omega) (by omega)]
        refine hR _ _ (kq16 _ _ ?_); clear hR R; try clear kq16 kz16
        try simp only [go_sem]
        refine W_cond rfl (fun c5 => ?_) (fun c5 => ?_)
        ·
         try simp only [nrm] at c5
         refine W_seq fun kz17 kq17 => ?_
         refine W_region [4] fun R hR => ?_
         simp only [go_sem]
         refine hR _ _ (kq17 _ _ ?_); clear hR R; try clear kq17 kz17
         try simp only [go_sem]
         refine W_ret ?_
         simp only [go_sem]
         refine ⟨.inr (by trivial), ?_⟩
         first | refine Fin_same hcl rfl (Wk_eq ?_ (by simp only [go_sem])) | refine Fin_self hcl rfl (Wk_eq ?_ (by simp only [go_sem]))
         try simp only [go_sem]
         all_goals
          simp [chkBand, timesOf, *]
        ·
         try simp only [nrm] at c5
         refine W_skip (kq15 _ _ ?_)
         refine W_seq fun kz18 kq18 => ?_
         refine W_region [4] fun R hR => ?_
         simp only [go_sem]
         refine hR _ _ (kq18 _ _ ?_); clear hR R; try clear kq18 kz18
         try simp only [go_sem]
         refine W_ret ?_
         simp only [go_sem]
         refine ⟨.inr (by trivial), ?_⟩
         first | refine Fin_same hcl rfl (Wk_eq ?_ (by simp only [go_sem])) | refine Fin_self hcl rfl (Wk_eq ?_ (by simp only [go_sem]))
         try simp only [go_sem]
         all_goals
          simp [chkBand, timesOf, *]
      ·try simp only [Bool.not_eq_true', Bool.not_eq_false'] at g3
       have n3 := g3; try simp only [nrm] at n3
       try simp (disch := omega) only [wrapI] at n3
       simp only [go_sem, g2, g3]
       try simp (disch := omega) only [wrapI]
       refine hR _ _ (kq13 _ _ ?_); clear hR R; try clear kq13 kz13
       try simp only [go_sem]
       refine W_cond_true rfl ?_
       refine W_seq fun kz19 kq19 => ?_
       refine W_region [4] fun R hR => ?_
       simp only [go_sem]
       refine hR _ _ (kq19 _ _ ?_); clear hR R; try clear kq19 kz19
       try simp only [go_sem]
       refine W_ret ?_
       simp only [go_sem]
       refine ⟨.inr (by trivial), ?_⟩
       first | refine Fin_same hcl rfl (Wk_eq ?_ (by simp only [go_sem])) | refine Fin_self hcl rfl (Wk_eq ?_ (by simp only [go_sem]))
       try simp only [go_sem]
       all_goals
        simp [chkBand, timesOf, *]
     ·try simp only [Bool.not_eq_true', Bool.not_eq_false'] at g2
      have n2 := g2; try simp only [nrm] at n2
      try simp (disch := omega) only [wrapI] at n2
      simp only [go_sem, g2]
      try simp (disch := omega) only [wrapI]
      refine hR _ _ (kq13 _ _ ?_); clear hR R; try clear kq13 kz13
      try simp only [go_sem]
      refine W_cond_true rfl ?_
      refine W_seq fun kz20 kq20 => ?_
      refine W_region [4] fun R hR => ?_
      simp only [go_sem]
      refine hR _ _ (kq20 _ _ ?_); clear hR R; try clear kq20 kz20
      try simp only [go_sem]
      refine W_ret ?_
      simp only [go_sem]
      refine ⟨.inr (by trivial), ?_⟩
      first | refine Fin_same hcl rfl (Wk_eq ?_ (by simp only [go_sem])) | refine Fin_self hcl rfl (Wk_eq ?_ (by simp only [go_sem]))
      try simp only [go_sem]
      all_goals
       simp [chkBand, timesOf, *]
  ·try simp only [Bool.not_eq_true', Bool.not_eq_false'] at g1
   have n1 := g1; try simp only [nrm] at n1
   simp only [go_sem, g1]
   refine hR _ _ (kq7 _ _ ?_); clear hR R; try clear kq7 kz7
   try simp only [go_sem]
   refine W_cond_true rfl ?_
   refine W_seq fun kz21 kq21 => ?_
   refine W_region [4] fun R hR => ?_
   simp only [go_sem]
   refine hR _ _ (kq21 _ _ ?_); clear hR R; try clear kq21 kz21
   try simp only [go_sem]
   refine W_ret ?_
   simp only [go_sem]
   refine ⟨.inr (by trivial), ?_⟩
   first | refine Fin_same hcl rfl (Wk_eq ?_ (by simp only [go_sem])) | refine Fin_self hcl rfl (Wk_eq ?_ (by simp only [go_sem]))
   try simp only [go_sem]
   all_goals
    simp [chkBand, timesOf, *]
set_option maxHeartbeats 2000000 in
theorem rcheckBands_pc (Y : YEnv) (σ : Sg) (ct : City) (l : List Band) (hc : ct.Ok) (hl : BandsOk l) :
  PC Tryz.prog Y 33 [ctPV ct, bands l] σ (I (chkAll ct l)) (σ) := by
 refine PC_of_W Tryz.func33 rfl (by kernel_rfl) Tryz.ntmps33 (by simp) fun hcl hca => ?_
 have hl1 := hl.1
 have hl2 := hl.2
 obtain ⟨res, hres⟩ : ∃ r, chkAll ct l = r := ⟨_, rfl⟩
 rw [hres]
 refine W_seq fun kz1 kq1 => ?_
 refine W_region [1, 2] fun R hR => ?_
 simp only [go_sem]
 refine hR _ _ (kq1 _ _ ?_); clear hR R; try clear kq1 kz1
 try simp only [go_sem]
 refine W_seq fun kz2 kq2 => ?_
 refine W_seq fun kz3 kq3 => ?_
 refine W_region [1, 2, 5] fun R hR => ?_
 simp only [go_sem]
 refine GCall_of (rcheck_pc Y _ ct hc) ?_
 simp only [go_sem]
 refine hR _ _ (kq3 _ _ ?_); clear hR R; try clear kq3 kz3
 try simp only [go_sem]
 refine W_seq fun kz4 kq4 => ?_
 refine W_region [1, 2, 5, 11] fun R hR => ?_
 simp only [go_sem]
 refine hR _ _ (kq4 _ _ ?_); clear hR R; try clear kq4 kz4
 try simp only [go_sem]
 refine W_cond rfl (fun c1 => ?_) (fun c1 => ?_)
 ·
  try simp only [nrm] at c1
  refine W_seq fun kz5 kq5 => ?_
  refine W_region [4] fun R hR => ?_
  simp only [go_sem]
  refine hR _ _ (kq5 _ _ ?_); clear hR R; try clear kq5 kz5
  try simp only [go_sem]
  refine W_ret ?_
  simp only [go_sem]
  refine ⟨.inr (by trivial), ?_⟩
  first | refine Fin_same hcl rfl (Wk_eq ?_ (by simp only [go_sem])) | refine Fin_self hcl rfl (Wk_eq ?_ (by simp only [go_sem]))
  try simp only [go_sem]
  all_goals
   first | rfl | (simp_all; done) | (simp_all; omega) | (rw [← hres]; simp only [chkAll]; (repeat' split) <;> ((first | rfl | omega | (simp_all; done) | (simp_all; omega))))
 ·
  try simp only [nrm] at c1
  refine W_skip (kq2 _ _ ?_)
  refine W_seq fun kz6 kq6 => ?_
  refine W_seq fun kz7 kq7 => ?_
  refine W_region [1, 2, 15] fun R hR => ?_
  simp only [go_sem]
  refine hR _ _ (kq7 _ _ ?_); clear hR R; try clear kq7 kz7
  try simp only [go_sem]
  refine W_cond rfl (fun c2 => ?_) (fun c2 => ?_)
  ·
   try simp only [nrm] at c2
   refine W_seq fun kz8 kq8 => ?_
   refine W_region [4] fun R hR => ?_
   simp only [go_sem]
   refine hR _ _ (kq8 _ _ ?_); clear hR R; try clear kq8 kz8
   try simp only [go_sem]
   refine W_ret ?_
   simp only [go_sem]
   refine ⟨.inr (by trivial), ?_⟩
   first | refine Fin_same hcl rfl (Wk_eq ?_ (by simp only [go_sem])) | refine Fin_self hcl rfl (Wk_eq ?_ (by simp only [go_sem]))
   try simp only [go_sem]
   all_goals
    first | rfl | (simp_all; done) | (simp_all; omega) | (rw [← hres]; simp only [chkAll]; (repeat' split) <;> ((first | rfl | omega | (simp_all; done) | (simp_all; omega))))
  ·
   try simp only [nrm] at c2
   refine W_skip (kq6 _ _ ?_)
   refine W_seq fun kz9 kq9 => ?_
   refine W_seq fun kz10 kq10 => ?_
   refine W_region [1, 2, 6] fun R hR => ?_
   simp only [go_sem]
   refine hR _ _ (kq10 _ _ ?_); clear hR R; try clear kq10 kz10
   try simp only [go_sem]
   refine W_block ?_
   refine W_loopS (α := Nat) (fun (i : Nat) => [(6, I i)]) (fun (i : Nat) => i ≤ l.length ∧ res = chkBands ct (l.drop i)) (fun (i : Nat) => l.length - i) (0) rfl (⟨Nat.zero_le _, by rw [← hres]; simp [askedOf, chkAll, *]⟩) ?_
   rintro i ⟨hi, hinv⟩
   refine W_seq fun kz11 kq11 => ?_
   refine W_seq fun kz12 kq12 => ?_
   refine W_region [1, 2, 6, 19] fun R hR => ?_
   simp only [go_sem]
   refine hR _ _ (kq12 _ _ ?_); clear hR R; try clear kq12 kz12
   try simp only [go_sem]
   refine W_cond rfl (fun c3 => ?_) (fun c3 => ?_)
   ·
    try simp only [nrm] at c3
    have hi' : i < l.length := by first | assumption | omega
    obtain ⟨b, hx⟩ : ∃ b, l[i]? = some b := ⟨l[i], by simp [hi']⟩
    have hdrop : l.drop i = b :: l.drop (i + 1) := by
     rw [List.drop_eq_getElem_cons hi']; congr 1; exact (List.getElem?_eq_some_iff.1 hx).2
    have hbl : b ∈ l := List.mem_of_getElem? hx
    rw [hdrop] at hinv
    simp only [chkBands] at hinv
    refine W_skip (kq11 _ _ ?_)
    refine W_seq fun kz13 kq13 => ?_
    refine W_block ?_
    refine W_seq fun kz14 kq14 => ?_
    refine W_draw [1, 2, 6, 7] [0, 1, 2, 3, 4, 5, 6] [] [[], [], [], [1, 2], [1, 2, 3], [0, 1, 2, 3, 4], [0, 1, 2, 3, 4, 5]] mixed (by kernel_rfl) fun R hR => ?_
    simp only [go_sem, hx]
    refine GCall_of (rcheckBand_pc Y _ ct b hc (hl2 b hbl)) ?_
    simp only [go_sem, hx]
    try refine And.intro (by repeat' (first | refine And.intro ?_ ?_ | exact GOr_right (fun _ => by simp only [go_sem, hx]))) ?_
    refine hR _ _ (kq14 _ _ ?_); clear hR R; try clear kq14 kz14
    try simp only [go_sem, hx]
    refine W_seq fun kz15 kq15 => ?_
    refine W_region [1, 2, 6, 7, 29] fun R hR => ?_
    simp only [go_sem, hx]
    refine hR _ _ (kq15 _ _ ?_); clear hR R; try clear kq15 kz15
    try simp only [go_sem, hx]
    refine W_cond rfl (fun c4 => ?_) (fun c4 => ?_)
    ·
     try simp only [nrm] at c4
     refine W_seq fun kz16 kq16 => ?_
     refine W_region [4] fun R hR => ?_
     simp only [go_sem, hx]
     refine hR _ _ (kq16 _ _ ?_); clear hR R; try clear kq16 kz16
     try simp only [go_sem, hx]
     refine W_ret ?_
     simp only [go_sem, hx]
     refine ⟨.inr (by trivial), ?_⟩
     first | refine Fin_same hcl rfl (Wk_eq ?_ (by simp only [go_sem])) | refine Fin_self hcl rfl (Wk_eq ?_ (by simp only [go_sem]))
     try simp only [go_sem]
     all_goals
      first | rfl | (simp_all; done) | (simp_all; omega) | (rw [← hres]; simp only [chkAll]; (repeat' split) <;> ((first | rfl | omega | (simp_all; done) | (simp_all; omega))))
    ·
     try simp only [nrm] at c4
     refine W_skip (kq13 _ _ ?_)
     refine W_region [1, 2, 6] fun R hR => ?_
     simp only [go_sem, hx]
     try simp (disch := omega) only [wrapI]
     refine hR _ _ ?_; clear hR R
     try simp only [go_sem, hx]
     refine ⟨i + 1, ?_, by (try simp only []); omega, ?_⟩
     ·first | exact Weak.refl | exact Weak.eq (by first | rfl | (simp only [go_sem]; done) | (simp only [go_sem]; rfl) | (simp [go_sem]; done) | (simp [go_sem]; omega)) (by first | rfl | (simp only [go_sem]; done) | (simp [go_sem]; done))
     ·try dsimp only
      exact ⟨hi', by simp_all⟩
   ·
    try simp only [nrm] at c3
    have hdrop : l.drop i = [] := List.drop_eq_nil_of_le (by omega)
    rw [hdrop] at hinv
    simp only [chkBands] at hinv
    refine W_exit ?_
    simp only [go_sem]
    refine kq9 _ _ ?_
    refine W_seq fun kz17 kq17 => ?_
    refine W_region [4] fun R hR => ?_
    simp only [go_sem]
    refine hR _ _ (kq17 _ _ ?_); clear hR R; try clear kq17 kz17
    try simp only [go_sem]
    refine W_ret ?_
    simp only [go_sem]
    refine ⟨.inr (by trivial), ?_⟩
    first | refine Fin_same hcl rfl (Wk_eq ?_ (by simp only [go_sem])) | refine Fin_self hcl rfl (Wk_eq ?_ (by simp only [go_sem]))
    try simp only [go_sem]
    all_goals
     first | rfl | (simp_all; done) | (simp_all; omega) | (rw [← hres]; simp only [chkAll]; (repeat' split) <;> ((first | rfl | omega | (simp_all; done) | (simp_all; omega))))
end Go.Proofs.YteklodljdndcoaaGreatDoor
namespace Go.Proofs.YteklodljdndcoaaGreatDoor
open Go Go.RowKit
set_option maxRecDepth 100000
def wideB (c : City) (l : List Band) : Bool :=
  (c.town.groups.take 20).any (fun g => decide (20 < (g.path.length : Int))) || l.any (fun b => decide (15 < (b.path.length : Int))) || decide (20 < (c.town.rooms.length : Int)) || decide (20 < (c.town.streets.length : Int)) || decide (20 < (c.town.groups.length : Int)) ||
  decide (20 < (c.sleep.length : Int)) || decide (12 < (l.length : Int))
theorem any_take' {α : Type} {q : α → Bool} {l : List α} {i : Nat} {x : α} (h : l[i]? = some x) : (l.take (i + 1)).any q = ((l.take i).any q || q x) := by
  rw [List.take_add_one, h]; simp
theorem wide_not {c : City} {l : List Band} (h : wideB c l = false) : c.town.rooms.length ≤ 20 ∧ c.town.streets.length ≤ 20 ∧ c.town.groups.length ≤ 20 ∧ c.sleep.length ≤ 20 ∧ l.length ≤ 12 ∧ (∀ g, g ∈ c.town.groups → g.path.length ≤ 20) ∧ ∀ b, b ∈ l → b.path.length ≤ 15 := by
  unfold wideB at h
  simp only [Bool.or_eq_false_iff, decide_eq_false_iff_not] at h
  obtain ⟨⟨⟨⟨⟨⟨h1, h2⟩, h3⟩, h4⟩, h5⟩, h6⟩, h7⟩ := h
  refine ⟨by omega, by omega, by omega, by omega, by omega, fun g hg => ?_, fun b hb => ?_⟩
  · rw [List.take_of_length_le (by omega)] at h1
    have := List.any_eq_false.1 h1 g hg
    simp at this; omega
  · have := List.any_eq_false.1 h2 b hb
    simp at this; omega
set_option maxHeartbeats 2000000 in
theorem wide_pc (Y : YEnv) (σ : Sg) (c : City) (l : List Band) (hc : c.Ok) (hl : l.length < 2 ^ 50) :
  PC Tryz.prog Y 5 [ctPV c, bands l] σ (.bool (wideB c l)) (σ) := by
 refine PC_of_W Tryz.func5 rfl (by kernel_rfl) Tryz.ntmps5 (by simp) fun hcl hca => ?_
 have hg := hc.hg
 refine W_seq fun kz1 kq1 => ?_
 refine W_region [1, 2] fun R hR => ?_
 simp only [go_sem]
 refine hR _ _ (kq1 _ _ ?_); clear hR R; try clear kq1 kz1
 try simp only [go_sem]
 refine W_seq fun kz2 kq2 => ?_
 refine W_seq fun kz3 kq3 => ?_
 refine W_region [1, 2, 5] fun R hR => ?_
 simp only [go_sem]
 refine hR _ _ (kq3 _ _ ?_); clear hR R; try clear kq3 kz3
 try simp only [go_sem]
 refine W_block ?_
 refine W_loopS (α := Nat) (fun (i : Nat) => [(5, I i)]) (fun (i : Nat) => i ≤ c.town.groups.length ∧ i ≤ 20 ∧ (c.town.groups.take i).any (fun g => decide (20 < (g.path.length : Int))) = false) (fun (i : Nat) => c.town.groups.length - i) (0) rfl (⟨Nat.zero_le _, by omega, rfl⟩) ?_
 rintro i ⟨hi, hi20, ha⟩
 refine W_seq fun kz4 kq4 => ?_
 refine W_seq fun kz5 kq5 => ?_
 refine W_regionJ [1, 2, 5, 16] [(16, .bool (decide (i < c.town.groups.length) && decide (i < 20)))] ?_ fun R hR => ?_
 ·refine kq5 _ _ ?_
  simp only [go_sem]
  refine W_cond rfl (fun c1 => ?_) (fun c1 => ?_)
  ·
   try simp only [nrm] at c1
   simp only [Bool.and_eq_true, decide_eq_true_eq] at c1
   have hi' : i < c.town.groups.length := c1.1
   obtain ⟨g, hx⟩ : ∃ g, c.town.groups[i]? = some g := ⟨c.town.groups[i], by simp⟩
   refine W_skip (kq4 _ _ ?_)
   refine W_seq fun kz6 kq6 => ?_
   refine W_block ?_
   refine W_seq fun kz7 kq7 => ?_
   refine W_region [1, 2, 5, 27] fun R hR => ?_
   simp only [go_sem, hx]
   refine hR _ _ (kq7 _ _ ?_); clear hR R; try clear kq7 kz7
   try simp only [go_sem, hx]
   refine W_cond rfl (fun c2 => ?_) (fun c2 => ?_)
   ·
    try simp only [nrm] at c2
    refine W_seq fun kz8 kq8 => ?_
    refine W_region [4] fun R hR => ?_
    simp only [go_sem, hx]
    refine hR _ _ (kq8 _ _ ?_); clear hR R; try clear kq8 kz8
    try simp only [go_sem, hx]
    refine W_ret ?_
    simp only [go_sem, hx]
    refine ⟨.inr (by trivial), ?_⟩
    first | refine Fin_same hcl rfl (Wk_eq ?_ (by simp only [go_sem])) | refine Fin_self hcl rfl (Wk_eq ?_ (by simp only [go_sem]))
    try simp only [go_sem]
    all_goals
     have hga : (c.town.groups.take 20).any (fun g => decide (20 < (g.path.length : Int))) = true := List.any_eq_true.2 ⟨g, List.mem_of_getElem? (i := i) (by rw [List.getElem?_take_of_lt (by omega)]; exact hx), by simp [c2]⟩
     simp only [wideB, hga, Bool.true_or]
   ·
    try simp only [nrm] at c2
    refine W_skip (kq6 _ _ ?_)
    refine W_region [1, 2, 5] fun R hR => ?_
    simp only [go_sem, hx]
    try simp (disch := omega) only [wrapI]
    refine hR _ _ ?_; clear hR R
    try simp only [go_sem, hx]
    refine ⟨i + 1, ?_, by (try simp only []); omega, ?_⟩
    ·first | exact Weak.refl | exact Weak.eq (by first | rfl | (simp only [go_sem]; done) | (simp only [go_sem]; rfl) | (simp [go_sem]; done) | (simp [go_sem]; omega)) (by first | rfl | (simp only [go_sem]; done) | (simp [go_sem]; done))
    ·try dsimp only
     exact ⟨by omega, by omega, by rw [any_take' hx, ha]; simp [c2]⟩
  ·
   try simp only [nrm] at c1
   have hga : (c.town.groups.take 20).any (fun g => decide (20 < (g.path.length : Int))) = false := by
    simp only [Bool.and_eq_false_iff, decide_eq_false_iff_not] at c1
    by_cases h20 : i = 20
    ·subst h20; exact ha
    ·rw [List.take_of_length_le (by omega)] at ha ⊢; exact ha
   refine W_exit ?_
   simp only [go_sem]
   refine kq2 _ _ ?_
   refine W_seq fun kz9 kq9 => ?_
   refine W_seq fun kz10 kq10 => ?_
   refine W_region [1, 2, 6] fun R hR => ?_
   simp only [go_sem]
   refine hR _ _ (kq10 _ _ ?_); clear hR R; try clear kq10 kz10
   try simp only [go_sem]
   refine W_block ?_
   refine W_loopS (α := Nat) (fun (j : Nat) => [(6, I j)]) (fun (j : Nat) => j ≤ l.length ∧ (l.take j).any (fun b => decide (15 < (b.path.length : Int))) = false) (fun (j : Nat) => l.length - j) (0) rfl (⟨Nat.zero_le _, rfl⟩) ?_
   rintro j ⟨hj, hb⟩
   refine W_seq fun kz11 kq11 => ?_
   refine W_seq fun kz12 kq12 => ?_
   refine W_region [1, 2, 6, 31] fun R hR => ?_
   simp only [go_sem]
   refine hR _ _ (kq12 _ _ ?_); clear hR R; try clear kq12 kz12
   try simp only [go_sem]
   refine W_cond rfl (fun c3 => ?_) (fun c3 => ?_)
   ·
    try simp only [nrm] at c3
    have hi' : j < l.length := by first | assumption | omega
    obtain ⟨b, hx⟩ : ∃ b, l[j]? = some b := ⟨l[j], by simp [hi']⟩
    have hdrop : l.drop j = b :: l.drop (j + 1) := by
     rw [List.drop_eq_getElem_cons hi']; congr 1; exact (List.getElem?_eq_some_iff.1 hx).2
    refine W_skip (kq11 _ _ ?_)
    refine W_seq fun kz13 kq13 => ?_
    refine W_block ?_
    refine W_seq fun kz14 kq14 => ?_
    refine W_region [1, 2, 6, 40] fun R hR => ?_
    simp only [go_sem, hx]
    refine hR _ _ (kq14 _ _ ?_); clear hR R; try clear kq14 kz14
    try simp only [go_sem, hx]
    refine W_cond rfl (fun c4 => ?_) (fun c4 => ?_)
    ·
     try simp only [nrm] at c4
     refine W_seq fun kz15 kq15 => ?_
     refine W_region [4] fun R hR => ?_
     simp only [go_sem, hx]
     refine hR _ _ (kq15 _ _ ?_); clear hR R; try clear kq15 kz15
     try simp only [go_sem, hx]
     refine W_ret ?_
     simp only [go_sem, hx]
     refine ⟨.inr (by trivial), ?_⟩
     first | refine Fin_same hcl rfl (Wk_eq ?_ (by simp only [go_sem])) | refine Fin_self hcl rfl (Wk_eq ?_ (by simp only [go_sem]))
     try simp only [go_sem]
     all_goals
      have hba : l.any (fun b => decide (15 < (b.path.length : Int))) = true := List.any_eq_true.2 ⟨b, List.mem_of_getElem? hx, by simp [c4]⟩
      simp only [wideB, hba, Bool.true_or, Bool.or_true]
    ·
     try simp only [nrm] at c4
     refine W_skip (kq13 _ _ ?_)
     refine W_region [1, 2, 6] fun R hR => ?_
     simp only [go_sem, hx]
     try simp (disch := omega) only [wrapI]
     refine hR _ _ ?_; clear hR R
     try simp only [go_sem, hx]
     refine ⟨j + 1, ?_, by (try simp only []); omega, ?_⟩
     ·first | exact Weak.refl | exact Weak.eq (by first | rfl | (simp only [go_sem]; done) | (simp only [go_sem]; rfl) | (simp [go_sem]; done) | (simp [go_sem]; omega)) (by first | rfl | (simp only [go_sem]; done) | (simp [go_sem]; done))
     ·try dsimp only
      exact ⟨hi', by rw [any_take' hx, hb]; simp [c4]⟩
   ·
    try simp only [nrm] at c3
    have hje : j = l.length := by omega
    subst hje
    rw [List.take_length] at hb
    refine W_exit ?_
    simp only [go_sem]
    refine kq9 _ _ ?_
    refine W_seq fun kz16 kq16 => ?_
    refine W_region [4] fun R hR => ?_
    simp only [go_sem]
    refine GWant_split (fun g1 => ?_) (fun g1 => ?_)
    ·try simp only [Bool.not_eq_true', Bool.not_eq_false'] at g1
     have n1 := g1; try simp only [nrm] at n1
     simp only [go_sem, g1]
     refine GWant_split (fun g2 => ?_) (fun g2 => ?_)
     ·try simp only [Bool.not_eq_true', Bool.not_eq_false'] at g2
      have n2 := g2; try simp only [nrm] at n2
      simp only [go_sem, g1, g2]
      refine GWant_split (fun g3 => ?_) (fun g3 => ?_)
      ·try simp only [Bool.not_eq_true', Bool.not_eq_false'] at g3
       have n3 := g3; try simp only [nrm] at n3
       simp only [go_sem, g1, g2, g3]
       refine GWant_split (fun g4 => ?_) (fun g4 => ?_)
       ·try simp only [Bool.not_eq_true', Bool.not_eq_false'] at g4
        have n4 := g4; try simp only [nrm] at n4
        simp only [go_sem, g1, g2, g3, g4]
        refine hR _ _ (kq16 _ _ ?_); clear hR R; try clear kq16 kz16
        try simp only [go_sem]
        refine W_ret ?_
        simp only [go_sem]
        refine ⟨.inr (by trivial), ?_⟩
        first | refine Fin_same hcl rfl (Wk_eq ?_ (by simp only [go_sem])) | refine Fin_self hcl rfl (Wk_eq ?_ (by simp only [go_sem]))
        try simp only [go_sem]
        all_goals
         simp only [wideB, hga, hb]; simp [*]
       ·try simp only [Bool.not_eq_true', Bool.not_eq_false'] at g4
        have n4 := g4; try simp only [nrm] at n4
        simp only [go_sem, g1, g2, g3, g4]
        refine hR _ _ (kq16 _ _ ?_); clear hR R; try clear kq16 kz16
        try simp only [go_sem]
        refine W_ret ?_
        simp only [go_sem]
        refine ⟨.inr (by trivial), ?_⟩
        first | refine Fin_same hcl rfl (Wk_eq ?_ (by simp only [go_sem])) | refine Fin_self hcl rfl (Wk_eq ?_ (by simp only [go_sem]))
        try simp only [go_sem]
        all_goals
         simp only [wideB, hga, hb]; simp [*]
      ·try simp only [Bool.not_eq_true', Bool.not_eq_false'] at g3
       have n3 := g3; try simp only [nrm] at n3
       simp only [go_sem, g1, g2, g3]
       refine hR _ _ (kq16 _ _ ?_); clear hR R; try clear kq16 kz16
       try simp only [go_sem]
       refine W_ret ?_
       simp only [go_sem]
       refine ⟨.inr (by trivial), ?_⟩
       first | refine Fin_same hcl rfl (Wk_eq ?_ (by simp only [go_sem])) | refine Fin_self hcl rfl (Wk_eq ?_ (by simp only [go_sem]))
       try simp only [go_sem]
       all_goals
        simp only [wideB, hga, hb]; simp [*]
     ·try simp only [Bool.not_eq_true', Bool.not_eq_false'] at g2
      have n2 := g2; try simp only [nrm] at n2
      simp only [go_sem, g1, g2]
      refine hR _ _ (kq16 _ _ ?_); clear hR R; try clear kq16 kz16
      try simp only [go_sem]
      refine W_ret ?_
      simp only [go_sem]
      refine ⟨.inr (by trivial), ?_⟩
      first | refine Fin_same hcl rfl (Wk_eq ?_ (by simp only [go_sem])) | refine Fin_self hcl rfl (Wk_eq ?_ (by simp only [go_sem]))
      try simp only [go_sem]
      all_goals
       simp only [wideB, hga, hb]; simp [*]
    ·try simp only [Bool.not_eq_true', Bool.not_eq_false'] at g1
     have n1 := g1; try simp only [nrm] at n1
     simp only [go_sem, g1]
     refine hR _ _ (kq16 _ _ ?_); clear hR R; try clear kq16 kz16
     try simp only [go_sem]
     refine W_ret ?_
     simp only [go_sem]
     refine ⟨.inr (by trivial), ?_⟩
     first | refine Fin_same hcl rfl (Wk_eq ?_ (by simp only [go_sem])) | refine Fin_self hcl rfl (Wk_eq ?_ (by simp only [go_sem]))
     try simp only [go_sem]
     all_goals
      simp only [wideB, hga, hb]; simp [*]
 ·simp only [go_sem]
  refine GWant_split (fun g5 => ?_) (fun g5 => ?_)
  ·try simp only [Bool.not_eq_true', Bool.not_eq_false'] at g5
   have n5 := g5; try simp only [nrm] at n5
   simp only [go_sem, g5]
   refine hR _ ?_
   try simp only [go_sem]
   all_goals
    first | rfl | (simp [*]; done) | (simp [*]; omega)
  ·try simp only [Bool.not_eq_true', Bool.not_eq_false'] at g5
   have n5 := g5; try simp only [nrm] at n5
   simp only [go_sem, g5]
   refine hR _ ?_
   try simp only [go_sem]
   all_goals
    first | rfl | (simp [*]; done) | (simp [*]; omega)
end Go.Proofs.YteklodljdndcoaaGreatDoor
namespace Go.Proofs.YteklodljdndcoaaGreatDoor
open Go Go.RowKit
set_option maxRecDepth 100000
/-- Small enough that it can be copied. -/
structure City.Small (c : City) : Prop where
  hr : c.town.rooms.length < 2 ^ 40
  hs : c.town.streets.length < 2 ^ 40
  hg : c.town.groups.length < 2 ^ 40
  hp : ∀ g, g ∈ c.town.groups → g.path.length < 2 ^ 40
  hsl : c.sleep.length < 2 ^ 40
end Go.Proofs.YteklodljdndcoaaGreatDoor
namespace Go.Proofs.YteklodljdndcoaaGreatDoor
open Go Go.RowKit
set_option maxRecDepth 100000
attribute [go_sem] Sg.ext_nil
theorem EqInts_self (Y : YEnv) (σ : Sg) (xs : List Int) (o o2 : Own) (hx : xs.length < 2 ^ 50) : PC Tryz.prog Y 42 [intsO o xs, intsO o2 xs] σ (.bool true) σ :=
  PC.val (EqInts_pc Y σ xs xs o o2 hx) (by simp)
set_option maxHeartbeats 2000000 in
theorem EqBands_pc (Y : YEnv) (σ : Sg) (l : List Band) (hl : BandsOk l) :
  PC Tryz.prog Y 15 [bands l, bands l] σ (.bool true) (σ) := by
 refine PC_of_W Tryz.func15 rfl (by kernel_rfl) Tryz.ntmps15 (by simp) fun hcl hca => ?_
 have hl1 := hl.1
 have hl2 := hl.2
 refine W_seq fun kz1 kq1 => ?_
 refine W_region [0, 1] fun R hR => ?_
 simp only [go_sem]
 refine hR _ _ (kq1 _ _ ?_); clear hR R; try clear kq1 kz1
 try simp only [go_sem]
 refine W_seq fun kz2 kq2 => ?_
 refine W_seq fun kz3 kq3 => ?_
 refine W_region [0, 1, 12] fun R hR => ?_
 simp only [go_sem]
 refine hR _ _ (kq3 _ _ ?_); clear hR R; try clear kq3 kz3
 try simp only [go_sem]
 refine W_cond rfl (fun c1 => ?_) (fun c1 => ?_)
 ·
  try simp only [nrm] at c1
  exfalso
  simp at c1
 ·
  try simp only [nrm] at c1
  refine W_skip (kq2 _ _ ?_)
  refine W_seq fun kz4 kq4 => ?_
  refine W_seq fun kz5 kq5 => ?_
  refine W_region [0, 1, 5] fun R hR => ?_
  simp only [go_sem]
  refine hR _ _ (kq5 _ _ ?_); clear hR R; try clear kq5 kz5
  try simp only [go_sem]
  refine W_block ?_
  refine W_loopS (α := Nat) (fun (i : Nat) => [(5, I i)]) (fun (i : Nat) => i ≤ l.length) (fun (i : Nat) => l.length - i) (0) rfl (Nat.zero_le _) ?_
  rintro i hi
  refine W_seq fun kz6 kq6 => ?_
  refine W_seq fun kz7 kq7 => ?_
  refine W_region [0, 1, 5, 16] fun R hR => ?_
  simp only [go_sem]
  refine hR _ _ (kq7 _ _ ?_); clear hR R; try clear kq7 kz7
  try simp only [go_sem]
  refine W_cond rfl (fun c2 => ?_) (fun c2 => ?_)
  ·
   try simp only [nrm] at c2
   have hi' : i < l.length := by first | assumption | omega
   obtain ⟨b, hx⟩ : ∃ b, l[i]? = some b := ⟨l[i], by simp [hi']⟩
   have hdrop : l.drop i = b :: l.drop (i + 1) := by
    rw [List.drop_eq_getElem_cons hi']; congr 1; exact (List.getElem?_eq_some_iff.1 hx).2
   refine W_skip (kq6 _ _ ?_)
   refine W_seq fun kz8 kq8 => ?_
   refine W_block ?_
   refine W_seq fun kz9 kq9 => ?_
   refine W_draw [0, 1, 5, 6, 7] [0, 1, 2, 3, 4, 5, 6, 7, 8, 9, 10, 11] [(0, 9), (0, 10), (1, 9), (1, 10), (2, 9), (2, 10), (3, 9), (3, 10), (4, 9), (4, 10), (4, 11), (5, 9), (5, 10), (5, 11), (6, 9), (6, 10), (6, 11), (7, 9), (7, 10), (7, 11)] [[], [], [0, 1], [0, 1, 2], [], [], [4, 5], [4, 5, 6], [], [], [0, 1, 2, 3, 8, 9], [0, 1, 2, 3, 4, 5, 6, 7, 8, 9, 10]] mixed (by kernel_rfl) fun R hR => ?_
   simp only [go_sem, hx]
   try refine And.intro (by repeat' (first | refine And.intro ?_ ?_ | exact GOr_right (fun _ => by simp only [go_sem, hx]))) ?_
   refine hR _ _ (kq9 _ _ ?_); clear hR R; try clear kq9 kz9
   try simp only [go_sem, hx]
   refine W_seq fun kz10 kq10 => ?_
   refine W_region [0, 1, 5, 60] fun R hR => ?_
   simp only [go_sem, hx]
   refine GCall_of (EqInts_self Y _ b.path .ro .ro (hl2 b (List.mem_of_getElem? hx))) ?_
   simp only [go_sem, hx]
   refine hR _ _ (kq10 _ _ ?_); clear hR R; try clear kq10 kz10
   try simp only [go_sem, hx]
   refine W_cond rfl (fun c3 => ?_) (fun c3 => ?_)
   ·
    try simp only [nrm] at c3
    exfalso
    simp at c3
   ·
    try simp only [nrm] at c3
    refine W_skip (kq8 _ _ ?_)
    refine W_region [0, 1, 5] fun R hR => ?_
    simp only [go_sem, hx]
    try simp (disch := omega) only [wrapI]
    refine hR _ _ ?_; clear hR R
    try simp only [go_sem, hx]
    refine ⟨i + 1, ?_, by (try simp only []); omega, ?_⟩
    ·refine Weak.trans (Weak.cutX 0 0 (by omega) (by omega) hcl (by simp only [go_sem] <;> omega) (by simp only [go_sem] <;> omega)) ?_
     simp only [go_sem]
     exact Weak.eq (by first | rfl | (simp only [go_sem]; done) | (simp only [go_sem]; rfl) | (simp [go_sem]; done) | (simp [go_sem]; omega)) (by first | rfl | (simp only [go_sem]; done) | (simp [go_sem]; done))
    ·try dsimp only
     exact hi'
  ·
   try simp only [nrm] at c2
   refine W_exit ?_
   simp only [go_sem]
   refine kq4 _ _ ?_
   refine W_seq fun kz11 kq11 => ?_
   refine W_region [4] fun R hR => ?_
   simp only [go_sem]
   refine hR _ _ (kq11 _ _ ?_); clear hR R; try clear kq11 kz11
   try simp only [go_sem]
   refine W_ret ?_
   simp only [go_sem]
   refine ⟨.inr (by trivial), ?_⟩
   first | refine Fin_same hcl rfl (Wk_eq ?_ (by simp only [go_sem])) | refine Fin_self hcl rfl (Wk_eq ?_ (by simp only [go_sem]))
   try simp only [go_sem]
   all_goals
    first | rfl | (simp_all; done) | (simp_all; omega)
end Go.Proofs.YteklodljdndcoaaGreatDoor
namespace Go.Proofs.YteklodljdndcoaaGreatDoor
open Go Go.RowKit
set_option maxRecDepth 100000
/-- What depends on the drum's beat, and the beat behind it. -/
abbrev D (α : Type) := Int → α × Int
def dret {α : Type} (a : α) : D α := fun b => (a, b)
def dbind {α β : Type} (m : D α) (f : α → D β) : D β := fun b => f (m b).1 (m b).2
def Holds {α : Type} (m : D α) (R : α → Prop) : Prop := ∀ b, R (m b).1
theorem Holds.ret {α : Type} {a : α} {R : α → Prop} (h : R a) : Holds (dret a) R := fun _ => h
theorem Holds.bind {α β : Type} {m : D α} {f : α → D β} {R : α → Prop} {S : β → Prop} (h : Holds m R) (k : ∀ a, R a → Holds (f a) S) : Holds (dbind m f) S := fun b => k _ (h b) _
def xorU (a b : Int) : Int := match arith .xor .u64 a b with | some (.int _ n) => n | _ => 0
def hitB (b : Int) : Int := IntKind.u64.wrap (IntKind.u64.wrap (b * 15074714826142052245) + 11400714819323198485)
def hitM (x : Int) : Int := IntKind.u64.wrap (xorU x (x.fdiv 4294967296) * 15760922415973212899)
def hitX (b : Int) : Int := xorU (hitM (hitM (hitB b))) ((hitM (hitM (hitB b))).fdiv 4294967296)
theorem wrapU_bd (n : Int) : 0 ≤ IntKind.u64.wrap n ∧ IntKind.u64.wrap n ≤ 18446744073709551615 := by
  have h : IntKind.u64.wrap n = n % 18446744073709551616 := rfl
  rw [h]; omega
theorem hitX_bd (b : Int) : 0 ≤ hitX b ∧ hitX b ≤ 18446744073709551615 := wrapU_bd _
def roll (n : Int) : D Int := fun b => if n < 2 then (0, b) else ((hitX b / 2) % n, hitB b)
def mid (lo hi : Int) : D Int := fun b => (lo + (roll (hi - lo + 1) b).1, (roll (hi - lo + 1) b).2)
def anyOf (l : List Int) : D Int := fun b => ((l[(roll l.length b).1.toNat]?).getD 0, (roll l.length b).2)
theorem roll_bd (n : Int) : Holds (roll n) fun r => 0 ≤ r ∧ r < max n 1 := by
  intro b
  unfold roll
  have := hitX_bd b
  by_cases h : n < 2
  · rw [if_pos h]; simp only []; omega
  · rw [if_neg h]
    have h1 := Int.emod_nonneg (hitX b / 2) (show n ≠ 0 by omega)
    have h2 := Int.emod_lt_of_pos (hitX b / 2) (show 0 < n by omega)
    simp only []; omega
theorem mid_bd (lo hi : Int) (h : lo ≤ hi) : Holds (mid lo hi) fun r => lo ≤ r ∧ r ≤ hi := by
  intro b
  have := roll_bd (hi - lo + 1) b
  simp only [mid] at *
  omega
theorem anyOf_mem (l : List Int) (h : l ≠ []) : Holds (anyOf l) fun r => r ∈ l := by
  intro b
  have := roll_bd l.length b
  simp only [anyOf] at *
  have hl : 0 < l.length := by cases l with | nil => exact absurd rfl h | cons => simp
  have hlt : (roll (l.length : Int) b).1.toNat < l.length := by omega
  rw [List.getElem?_eq_getElem hlt]
  exact List.getElem_mem hlt
set_option maxHeartbeats 2000000 in
theorem hit_pc (Y : YEnv) (σ : Sg) (d : Nat) (b : Int) (hd : σ.store[d]? = some (some [.int .u64 b])) :
  PC Tryz.prog Y 23 [.ptr d 0] σ (.int .u64 (hitX b)) (σ.setVar d [.int .u64 (hitB b)]) := by
 refine PC_of_W Tryz.func23 rfl (by kernel_rfl) Tryz.ntmps23 (by simp) fun hcl hca => ?_
 have hlt := lt_of_get hd
 refine W_seq fun kz1 kq1 => ?_
 refine W_region [0] fun R hR => ?_
 simp only [go_sem, ldS_at hd, stX_at hd, ldS_sv hlt, stX_sv hlt, sv_ext hlt, sv_ext_sv hlt]
 refine hR _ _ (kq1 _ _ ?_); clear hR R; try clear kq1 kz1
 try simp only [go_sem, ldS_at hd, stX_at hd, ldS_sv hlt, stX_sv hlt, sv_ext hlt, sv_ext_sv hlt]
 refine W_seq fun kz2 kq2 => ?_
 refine W_region [0] fun R hR => ?_
 simp only [go_sem, ldS_at hd, stX_at hd, ldS_sv hlt, stX_sv hlt, sv_ext hlt, sv_ext_sv hlt]
 try simp (disch := omega) only [wrapI, wrapU]
 refine hR _ _ (kq2 _ _ ?_); clear hR R; try clear kq2 kz2
 try simp only [go_sem, ldS_at hd, stX_at hd, ldS_sv hlt, stX_sv hlt, sv_ext hlt, sv_ext_sv hlt]
 refine W_seq fun kz3 kq3 => ?_
 refine W_region [3] fun R hR => ?_
 simp only [go_sem, ldS_at hd, stX_at hd, ldS_sv hlt, stX_sv hlt, sv_ext hlt, sv_ext_sv hlt]
 refine hR _ _ (kq3 _ _ ?_); clear hR R; try clear kq3 kz3
 try simp only [go_sem, ldS_at hd, stX_at hd, ldS_sv hlt, stX_sv hlt, sv_ext hlt, sv_ext_sv hlt]
 refine W_seq fun kz4 kq4 => ?_
 refine W_region [3] fun R hR => ?_
 simp only [go_sem, ldS_at hd, stX_at hd, ldS_sv hlt, stX_sv hlt, sv_ext hlt, sv_ext_sv hlt]
 try simp (disch := omega) only [wrapI, wrapU]
 refine hR _ _ (kq4 _ _ ?_); clear hR R; try clear kq4 kz4
 try simp only [go_sem, ldS_at hd, stX_at hd, ldS_sv hlt, stX_sv hlt, sv_ext hlt, sv_ext_sv hlt]
 refine W_seq fun kz5 kq5 => ?_
 refine W_region [3] fun R hR => ?_
 simp only [go_sem, ldS_at hd, stX_at hd, ldS_sv hlt, stX_sv hlt, sv_ext hlt, sv_ext_sv hlt]
 try simp (disch := omega) only [wrapI, wrapU]
 refine hR _ _ (kq5 _ _ ?_); clear hR R; try clear kq5 kz5
 try simp only [go_sem, ldS_at hd, stX_at hd, ldS_sv hlt, stX_sv hlt, sv_ext hlt, sv_ext_sv hlt]
 refine W_seq fun kz6 kq6 => ?_
 refine W_region [2] fun R hR => ?_
 simp only [go_sem, ldS_at hd, stX_at hd, ldS_sv hlt, stX_sv hlt, sv_ext hlt, sv_ext_sv hlt]
 refine hR _ _ (kq6 _ _ ?_); clear hR R; try clear kq6 kz6
 try simp only [go_sem, ldS_at hd, stX_at hd, ldS_sv hlt, stX_sv hlt, sv_ext hlt, sv_ext_sv hlt]
 refine W_ret ?_
 simp only [go_sem, ldS_at hd, stX_at hd, ldS_sv hlt, stX_sv hlt, sv_ext hlt, sv_ext_sv hlt]
 refine ⟨.inr (by trivial), ?_⟩
 first | refine Fin_set hcl (by simp only [go_sem]) rfl (Wk_eq ?_ (by simp only [go_sem])) | refine Fin_set0 hcl (by simp only [go_sem]) rfl (Wk_eq ?_ (by simp only [go_sem]))
 try simp only [go_sem]
 all_goals
  simp only [hitX, hitM, hitB, xorU, go_sem]; simp (disch := omega) only [wrapU]
set_option maxHeartbeats 2000000 in
theorem Roll_lo (Y : YEnv) (σ : Sg) (d : Nat) (n : Int) (hn : n < 2) :
  PC Tryz.prog Y 26 [.ptr d 0, I n] σ (I 0) (σ) := by
 refine PC_of_W Tryz.func26 rfl (by kernel_rfl) Tryz.ntmps26 (by simp) fun hcl hca => ?_
 refine W_seq fun kz1 kq1 => ?_
 refine W_region [0, 1] fun R hR => ?_
 simp only [go_sem]
 refine hR _ _ (kq1 _ _ ?_); clear hR R; try clear kq1 kz1
 try simp only [go_sem]
 refine W_seq fun kz2 kq2 => ?_
 refine W_seq fun kz3 kq3 => ?_
 refine W_region [0, 1, 6] fun R hR => ?_
 simp only [go_sem]
 refine hR _ _ (kq3 _ _ ?_); clear hR R; try clear kq3 kz3
 try simp only [go_sem]
 refine W_cond rfl (fun c1 => ?_) (fun c1 => ?_)
 ·
  try simp only [nrm] at c1
  refine W_seq fun kz4 kq4 => ?_
  refine W_region [4] fun R hR => ?_
  simp only [go_sem]
  refine hR _ _ (kq4 _ _ ?_); clear hR R; try clear kq4 kz4
  try simp only [go_sem]
  refine W_ret ?_
  simp only [go_sem]
  refine ⟨.inr (by trivial), ?_⟩
  first | refine Fin_same hcl rfl (Wk_eq ?_ (by simp only [go_sem])) | refine Fin_self hcl rfl (Wk_eq ?_ (by simp only [go_sem]))
  try simp only [go_sem]
  all_goals
   first | rfl | (simp_all; done) | (simp_all; omega)
 ·
  try simp only [nrm] at c1
  exfalso
  omega
set_option maxHeartbeats 2000000 in
theorem Roll_hi (Y : YEnv) (σ : Sg) (d : Nat) (b : Int) (hd : σ.store[d]? = some (some [.int .u64 b])) (n : Int) (hn : 2 ≤ n) (hn2 : n < 2 ^ 62) :
  PC Tryz.prog Y 26 [.ptr d 0, I n] σ (I ((hitX b / 2) % n)) (σ.setVar d [.int .u64 (hitB b)]) := by
 refine PC_of_W Tryz.func26 rfl (by kernel_rfl) Tryz.ntmps26 (by simp) fun hcl hca => ?_
 have hlt := lt_of_get hd
 have hb := hitX_bd b
 have e1 : (hitX b).fdiv 2 = hitX b / 2 := Int.fdiv_eq_ediv_of_nonneg _ (by omega)
 have e2 : (hitX b / 2).tmod n = (hitX b / 2) % n := Int.tmod_eq_emod_of_nonneg (by omega)
 have h1 := Int.emod_nonneg (hitX b / 2) (show n ≠ 0 by omega)
 have h2 := Int.emod_lt_of_pos (hitX b / 2) (show 0 < n by omega)
 have e3 : ¬ n = 0 := by omega
 have e4 : IntKind.u64.wrap n = n := wrapU (by omega) (by omega)
 refine W_seq fun kz1 kq1 => ?_
 refine W_region [0, 1] fun R hR => ?_
 simp only [go_sem, ldS_at hd, stX_at hd, ldS_sv hlt, stX_sv hlt, sv_ext hlt, sv_ext_sv hlt]
 refine hR _ _ (kq1 _ _ ?_); clear hR R; try clear kq1 kz1
 try simp only [go_sem, ldS_at hd, stX_at hd, ldS_sv hlt, stX_sv hlt, sv_ext hlt, sv_ext_sv hlt]
 refine W_seq fun kz2 kq2 => ?_
 refine W_seq fun kz3 kq3 => ?_
 refine W_region [0, 1, 6] fun R hR => ?_
 simp only [go_sem, ldS_at hd, stX_at hd, ldS_sv hlt, stX_sv hlt, sv_ext hlt, sv_ext_sv hlt]
 refine hR _ _ (kq3 _ _ ?_); clear hR R; try clear kq3 kz3
 try simp only [go_sem, ldS_at hd, stX_at hd, ldS_sv hlt, stX_sv hlt, sv_ext hlt, sv_ext_sv hlt]
 refine W_cond rfl (fun c1 => ?_) (fun c1 => ?_)
 ·
  try simp only [nrm] at c1
  exfalso
  omega
 ·
  try simp only [nrm] at c1
  refine W_skip (kq2 _ _ ?_)
  refine W_seq fun kz4 kq4 => ?_
  refine W_region [4] fun R hR => ?_
  simp only [go_sem, ldS_at hd, stX_at hd, ldS_sv hlt, stX_sv hlt, sv_ext hlt, sv_ext_sv hlt, e4, e1, e2, e3]
  refine GCall_of (hit_pc Y _ d b hd) ?_
  simp only [go_sem, ldS_at hd, stX_at hd, ldS_sv hlt, stX_sv hlt, sv_ext hlt, sv_ext_sv hlt, e4, e1, e2, e3]
  try simp (disch := omega) only [wrapI, wrapU]
  refine hR _ _ (kq4 _ _ ?_); clear hR R; try clear kq4 kz4
  try simp only [go_sem, ldS_at hd, stX_at hd, ldS_sv hlt, stX_sv hlt, sv_ext hlt, sv_ext_sv hlt]
  refine W_ret ?_
  simp only [go_sem, ldS_at hd, stX_at hd, ldS_sv hlt, stX_sv hlt, sv_ext hlt, sv_ext_sv hlt]
  refine ⟨.inr (by trivial), ?_⟩
  first | refine Fin_set hcl (by simp only [go_sem]) rfl (Wk_eq ?_ (by simp only [go_sem])) | refine Fin_set0 hcl (by simp only [go_sem]) rfl (Wk_eq ?_ (by simp only [go_sem]))
  try simp only [go_sem]
  all_goals
   first | rfl | (simp_all; done) | (simp_all; omega)
theorem Roll_pc (Y : YEnv) (σ : Sg) (d : Nat) (b : Int) (hd : σ.store[d]? = some (some [.int .u64 b])) (n : Int) (hn2 : n < 2 ^ 62) : PC Tryz.prog Y 26 [.ptr d 0, I n] σ (I (roll n b).1) (σ.setVar d [.int .u64 (roll n b).2]) := by
  unfold roll
  by_cases h : n < 2
  · rw [if_pos h]; simp only []; rw [sv_self hd]; exact Roll_lo Y σ d n h
  · rw [if_neg h]; exact Roll_hi Y σ d b hd n (by omega) hn2
set_option maxHeartbeats 2000000 in
theorem Mid_pc (Y : YEnv) (σ : Sg) (d : Nat) (b : Int) (hd : σ.store[d]? = some (some [.int .u64 b])) (lo hi : Int) (h1 : -2 ^ 60 ≤ lo) (h2 : lo ≤ 2 ^ 60) (h3 : -2 ^ 60 ≤ hi) (h4 : hi ≤ 2 ^ 60) :
  PC Tryz.prog Y 27 [.ptr d 0, I lo, I hi] σ (I (mid lo hi b).1) (σ.setVar d [.int .u64 (mid lo hi b).2]) := by
 refine PC_of_W Tryz.func27 rfl (by kernel_rfl) Tryz.ntmps27 (by simp) fun hcl hca => ?_
 have hlt := lt_of_get hd
 have hr := roll_bd (hi - lo + 1) b
 simp only [] at hr
 refine W_seq fun kz1 kq1 => ?_
 refine W_region [0, 1, 2] fun R hR => ?_
 simp only [go_sem, ldS_at hd, stX_at hd, ldS_sv hlt, stX_sv hlt, sv_ext hlt, sv_ext_sv hlt]
 refine hR _ _ (kq1 _ _ ?_); clear hR R; try clear kq1 kz1
 try simp only [go_sem, ldS_at hd, stX_at hd, ldS_sv hlt, stX_sv hlt, sv_ext hlt, sv_ext_sv hlt]
 refine W_seq fun kz2 kq2 => ?_
 refine W_region [6] fun R hR => ?_
 simp only [go_sem, ldS_at hd, stX_at hd, ldS_sv hlt, stX_sv hlt, sv_ext hlt, sv_ext_sv hlt]
 try simp (disch := omega) only [wrapI, wrapU]
 refine GCall_of (Roll_pc Y _ d b (by first | exact hd | exact sv_get hlt | exact get_svx hlt | exact get_extx hd) _ (by omega)) ?_
 simp only [go_sem, ldS_at hd, stX_at hd, ldS_sv hlt, stX_sv hlt, sv_ext hlt, sv_ext_sv hlt]
 try simp (disch := omega) only [wrapI, wrapU]
 refine hR _ _ (kq2 _ _ ?_); clear hR R; try clear kq2 kz2
 try simp only [go_sem, ldS_at hd, stX_at hd, ldS_sv hlt, stX_sv hlt, sv_ext hlt, sv_ext_sv hlt]
 refine W_ret ?_
 simp only [go_sem, ldS_at hd, stX_at hd, ldS_sv hlt, stX_sv hlt, sv_ext hlt, sv_ext_sv hlt]
 refine ⟨.inr (by trivial), ?_⟩
 first | refine Fin_set hcl (by simp only [go_sem]) rfl (Wk_eq ?_ (by simp only [go_sem])) | refine Fin_set0 hcl (by simp only [go_sem]) rfl (Wk_eq ?_ (by simp only [go_sem]))
 try simp only [go_sem]
 all_goals
  first | rfl | (simp_all; done) | (simp_all; omega)
set_option maxHeartbeats 2000000 in
theorem Any_pc (Y : YEnv) (σ : Sg) (d : Nat) (b : Int) (hd : σ.store[d]? = some (some [.int .u64 b])) (l : List Int) (hl : l ≠ []) (hl2 : l.length < 2 ^ 50) :
  PC Tryz.prog Y 25 [.ptr d 0, .isl (l.map I) .exact] σ (I (anyOf l b).1) (σ.setVar d [.int .u64 (anyOf l b).2]) := by
 refine PC_of_W Tryz.func25 rfl (by kernel_rfl) Tryz.ntmps25 (by simp) fun hcl hca => ?_
 have hlt := lt_of_get hd
 have hr := roll_bd l.length b
 simp only [] at hr
 have hl0 : 0 < l.length := by cases l with | nil => exact absurd rfl hl | cons => simp
 have hlt2 : (roll (l.length : Int) b).1.toNat < l.length := by omega
 obtain ⟨x, hx⟩ : ∃ x, l[(roll (l.length : Int) b).1.toNat]? = some x := ⟨_, List.getElem?_eq_getElem hlt2⟩
 have hnn := hr.1
 refine W_seq fun kz1 kq1 => ?_
 refine W_region [0, 1] fun R hR => ?_
 simp only [go_sem, ldS_at hd, stX_at hd, ldS_sv hlt, stX_sv hlt, sv_ext hlt, sv_ext_sv hlt]
 refine hR _ _ (kq1 _ _ ?_); clear hR R; try clear kq1 kz1
 try simp only [go_sem, ldS_at hd, stX_at hd, ldS_sv hlt, stX_sv hlt, sv_ext hlt, sv_ext_sv hlt]
 refine W_seq fun kz2 kq2 => ?_
 refine W_seq fun kz3 kq3 => ?_
 refine W_region [0, 1, 7] fun R hR => ?_
 simp only [go_sem, ldS_at hd, stX_at hd, ldS_sv hlt, stX_sv hlt, sv_ext hlt, sv_ext_sv hlt]
 refine hR _ _ (kq3 _ _ ?_); clear hR R; try clear kq3 kz3
 try simp only [go_sem, ldS_at hd, stX_at hd, ldS_sv hlt, stX_sv hlt, sv_ext hlt, sv_ext_sv hlt]
 refine W_cond rfl (fun c1 => ?_) (fun c1 => ?_)
 ·
  try simp only [nrm] at c1
  exfalso
  omega
 ·
  try simp only [nrm] at c1
  refine W_skip (kq2 _ _ ?_)
  refine W_seq fun kz4 kq4 => ?_
  refine W_region [4] fun R hR => ?_
  simp only [go_sem, ldS_at hd, stX_at hd, ldS_sv hlt, stX_sv hlt, sv_ext hlt, sv_ext_sv hlt, hnn, hx]
  refine GCall_of (Roll_pc Y _ d b (by first | exact hd | exact sv_get hlt | exact get_svx hlt | exact get_extx hd) _ (by omega)) ?_
  simp only [go_sem, ldS_at hd, stX_at hd, ldS_sv hlt, stX_sv hlt, sv_ext hlt, sv_ext_sv hlt, hnn, hx]
  refine hR _ _ (kq4 _ _ ?_); clear hR R; try clear kq4 kz4
  try simp only [go_sem, ldS_at hd, stX_at hd, ldS_sv hlt, stX_sv hlt, sv_ext hlt, sv_ext_sv hlt]
  refine W_ret ?_
  simp only [go_sem, ldS_at hd, stX_at hd, ldS_sv hlt, stX_sv hlt, sv_ext hlt, sv_ext_sv hlt]
  refine ⟨.inr (by trivial), ?_⟩
  first | refine Fin_set hcl (by simp only [go_sem]) rfl (Wk_eq ?_ (by simp only [go_sem])) | refine Fin_set0 hcl (by simp only [go_sem]) rfl (Wk_eq ?_ (by simp only [go_sem]))
  try simp only [go_sem]
  all_goals
   simp only [anyOf, hx, Option.getD_some]
end Go.Proofs.YteklodljdndcoaaGreatDoor
namespace Go.Proofs.YteklodljdndcoaaGreatDoor
open Go Go.RowKit
set_option maxRecDepth 100000
def drumB : List Int → Int → Int
  | [], b => b
  | x :: r, b => drumB r (hitB (xorU b (IntKind.u64.wrap x)))
def fit (x n : Int) : Int := if n < 2 then 0 else if x.tmod n < 0 then x.tmod n + n else x.tmod n
theorem fit_bd (x n : Int) : 0 ≤ fit x n ∧ fit x n < max n 1 := by
  unfold fit
  split
  · omega
  · have h1 := Int.tmod_lt_of_pos x (show 0 < n by omega)
    have h2 := Int.lt_tmod_of_pos x (show 0 < n by omega)
    split <;> omega
def spanOf (lo hi : Int) : D (Int × Int) := dbind (mid lo hi) fun n => dbind (roll 3) fun k =>
  if k = 0 then dret (n, n) else if k = 1 then dbind (mid n (min hi (n + 3))) fun m => dret (n, m) else dbind (mid n hi) fun m => dret (n, m)
theorem spanOf_bd (lo hi : Int) (h : lo ≤ hi) : Holds (spanOf lo hi) fun s => lo ≤ s.1 ∧ s.1 ≤ s.2 ∧ s.2 ≤ hi := by
  unfold spanOf
  refine (mid_bd lo hi h).bind fun n hn => ?_
  refine (roll_bd 3).bind fun k _ => ?_
  split
  · exact .ret (by simp only []; omega)
  · split
    · refine (mid_bd n (min hi (n + 3)) (by omega)).bind fun m hm => .ret (by simp only []; omega)
    · refine (mid_bd n hi (by omega)).bind fun m hm => .ret (by simp only []; omega)
set_option maxHeartbeats 2000000 in
theorem Fit_pc (Y : YEnv) (σ : Sg) (x n : Int) (hn : n < 2 ^ 60) (h1 : -2 ^ 60 ≤ x) (h2 : x ≤ 2 ^ 60) :
  PC Tryz.prog Y 35 [I x, I n] σ (I (fit x n)) (σ) := by
 refine PC_of_W Tryz.func35 rfl (by kernel_rfl) Tryz.ntmps35 (by simp) fun hcl hca => ?_
 refine W_seq fun kz1 kq1 => ?_
 refine W_region [0, 1] fun R hR => ?_
 simp only [go_sem]
 refine hR _ _ (kq1 _ _ ?_); clear hR R; try clear kq1 kz1
 try simp only [go_sem]
 refine W_seq fun kz2 kq2 => ?_
 refine W_seq fun kz3 kq3 => ?_
 refine W_region [0, 1, 6] fun R hR => ?_
 simp only [go_sem]
 refine hR _ _ (kq3 _ _ ?_); clear hR R; try clear kq3 kz3
 try simp only [go_sem]
 refine W_cond rfl (fun c1 => ?_) (fun c1 => ?_)
 ·
  try simp only [nrm] at c1
  refine W_seq fun kz4 kq4 => ?_
  refine W_region [4] fun R hR => ?_
  simp only [go_sem]
  refine hR _ _ (kq4 _ _ ?_); clear hR R; try clear kq4 kz4
  try simp only [go_sem]
  refine W_ret ?_
  simp only [go_sem]
  refine ⟨.inr (by trivial), ?_⟩
  first | refine Fin_same hcl rfl (Wk_eq ?_ (by simp only [go_sem])) | refine Fin_self hcl rfl (Wk_eq ?_ (by simp only [go_sem]))
  try simp only [go_sem]
  all_goals
   simp [fit, *]
 ·
  try simp only [nrm] at c1
  refine W_skip (kq2 _ _ ?_)
  refine W_seq fun kz5 kq5 => ?_
  have hn0 : ¬ n = 0 := by omega
  have t1 := Int.tmod_lt_of_pos x (show 0 < n by omega)
  have t2 := Int.lt_tmod_of_pos x (show 0 < n by omega)
  refine W_region [0, 1] fun R hR => ?_
  simp only [go_sem, hn0]
  try simp (disch := omega) only [wrapI, wrapU]
  refine hR _ _ (kq5 _ _ ?_); clear hR R; try clear kq5 kz5
  try simp only [go_sem]
  refine W_seq fun kz6 kq6 => ?_
  refine W_seq fun kz7 kq7 => ?_
  refine W_region [0, 1, 11] fun R hR => ?_
  simp only [go_sem]
  refine hR _ _ (kq7 _ _ ?_); clear hR R; try clear kq7 kz7
  try simp only [go_sem]
  refine W_cond rfl (fun c2 => ?_) (fun c2 => ?_)
  ·
   try simp only [nrm] at c2
   refine W_region [0] fun R hR => ?_
   simp only [go_sem]
   try simp (disch := omega) only [wrapI, wrapU]
   refine hR _ _ (kq6 _ _ ?_); clear hR R; try clear kq6 kz6
   try simp only [go_sem]
   refine W_seq fun kz8 kq8 => ?_
   refine W_region [4] fun R hR => ?_
   simp only [go_sem]
   refine hR _ _ (kq8 _ _ ?_); clear hR R; try clear kq8 kz8
   try simp only [go_sem]
   refine W_ret ?_
   simp only [go_sem]
   refine ⟨.inr (by trivial), ?_⟩
   first | refine Fin_same hcl rfl (Wk_eq ?_ (by simp only [go_sem])) | refine Fin_self hcl rfl (Wk_eq ?_ (by simp only [go_sem]))
   try simp only [go_sem]
   all_goals
    simp [fit, *]
  ·
   try simp only [nrm] at c2
   refine W_skip (kq6 _ _ ?_)
   refine W_seq fun kz9 kq9 => ?_
   refine W_region [4] fun R hR => ?_
   simp only [go_sem]
   refine hR _ _ (kq9 _ _ ?_); clear hR R; try clear kq9 kz9
   try simp only [go_sem]
   refine W_ret ?_
   simp only [go_sem]
   refine ⟨.inr (by trivial), ?_⟩
   first | refine Fin_same hcl rfl (Wk_eq ?_ (by simp only [go_sem])) | refine Fin_self hcl rfl (Wk_eq ?_ (by simp only [go_sem]))
   try simp only [go_sem]
   all_goals
    simp [fit, *]
set_option maxHeartbeats 2000000 in
theorem DrumOf_pc (Y : YEnv) (σ : Sg) (nums : List Int) (hl : nums.length < 2 ^ 60) :
  PC Tryz.prog Y 7 [ints nums] σ (.ptr σ.store.length 0) (σ.ext [some [.int .u64 (drumB nums 2685821657736338717)]] []) := by
 refine PC_of_W Tryz.func7 rfl (by kernel_rfl) Tryz.ntmps7 (by simp) fun hcl hca => ?_
 refine W_seq fun kz1 kq1 => ?_
 refine W_region [0] fun R hR => ?_
 simp only [go_sem]
 refine hR _ _ (kq1 _ _ ?_); clear hR R; try clear kq1 kz1
 try simp only [go_sem]
 refine W_seq fun kz2 kq2 => ?_
 refine W_region [0, 3] fun R hR => ?_
 simp only [go_sem]
 refine hR _ _ (kq2 _ _ ?_); clear hR R; try clear kq2 kz2
 try simp only [go_sem]
 refine W_seq fun kz3 kq3 => ?_
 refine W_seq fun kz4 kq4 => ?_
 refine W_region [0, 3, 4] fun R hR => ?_
 simp only [go_sem]
 refine hR _ _ (kq4 _ _ ?_); clear hR R; try clear kq4 kz4
 try simp only [go_sem]
 refine W_block ?_
 refine W_loopT (α := Nat × Int) (fun ⟨i, b⟩ => [(4, I i)]) (fun ⟨i, b⟩ => σ.ext [some [.int .u64 b]] []) (fun ⟨i, b⟩ => i ≤ nums.length ∧ drumB nums 2685821657736338717 = drumB (nums.drop i) b) (fun ⟨i, b⟩ => nums.length - i) ((0, 2685821657736338717)) rfl (by first | rfl | (simp only [go_sem]; done) | (simp only [go_sem]; rfl)) (⟨Nat.zero_le _, rfl⟩) ?_
 rintro ⟨i, b⟩ ⟨hi, hb⟩
 refine W_seq fun kz5 kq5 => ?_
 refine W_seq fun kz6 kq6 => ?_
 refine W_region [0, 3, 4, 10] fun R hR => ?_
 simp only [go_sem]
 refine hR _ _ (kq6 _ _ ?_); clear hR R; try clear kq6 kz6
 try simp only [go_sem]
 refine W_cond rfl (fun c1 => ?_) (fun c1 => ?_)
 ·
  try simp only [nrm] at c1
  have hi' : i < nums.length := by first | assumption | omega
  obtain ⟨x, hx⟩ : ∃ x, nums[i]? = some x := ⟨nums[i], by simp [hi']⟩
  have hdrop : nums.drop i = x :: nums.drop (i + 1) := by
   rw [List.drop_eq_getElem_cons hi']; congr 1; exact (List.getElem?_eq_some_iff.1 hx).2
  rw [hdrop] at hb
  simp only [drumB] at hb
  refine W_skip (kq5 _ _ ?_)
  refine W_seq fun kz7 kq7 => ?_
  refine W_block ?_
  refine W_seq fun kz8 kq8 => ?_
  refine W_draw [0, 3, 4] [0, 1, 2, 3, 4, 5, 6, 7, 8, 9, 10, 11, 12, 13] [] [[], [], [1], [1, 2], [1, 2, 3], [], [], [5, 6], [5, 6, 7], [5, 6, 7, 8], [1, 2, 3, 4, 5, 6, 7, 8, 9], [0, 1, 2, 3, 4, 5, 6, 7, 8, 9, 10], [0, 1, 2, 3, 4, 5, 6, 7, 8, 9, 10, 11], [0, 1, 2, 3, 4, 5, 6, 7, 8, 9, 10, 11, 12]] mixed (by kernel_rfl) fun R hR => ?_
  simp only [go_sem, hx]
  try simp (disch := omega) only [wrapI, wrapU]
  try refine And.intro (by repeat' (first | refine And.intro ?_ ?_ | exact GOr_right (fun _ => by simp only [go_sem, hx]))) ?_
  refine hR _ _ (kq8 _ _ ?_); clear hR R; try clear kq8 kz8
  try simp only [go_sem, hx]
  refine W_region [0, 3, 4] fun R hR => ?_
  simp only [go_sem, hx]
  refine GCall_of (hit_pc Y _ _ _ (Sg.get_ext0 _ _ _ _)) ?_
  simp only [go_sem, hx]
  refine hR _ _ (kq7 _ _ ?_); clear hR R; try clear kq7 kz7
  try simp only [go_sem, hx]
  refine W_region [0, 3, 4] fun R hR => ?_
  simp only [go_sem, hx]
  try simp (disch := omega) only [wrapI, wrapU]
  refine hR _ _ ?_; clear hR R
  try simp only [go_sem, hx]
  refine ⟨(i + 1, hitB (xorU b (IntKind.u64.wrap x))), ?_, by (try simp only []); omega, ?_⟩
  ·exact Weak.eq (by rfl) (by simp only [xorU, go_sem]; simp (disch := omega) only [wrapU])
  ·try dsimp only
   exact ⟨hi', hb⟩
 ·
  try simp only [nrm] at c1
  have hdrop : nums.drop i = [] := List.drop_eq_nil_of_le (by omega)
  rw [hdrop] at hb
  simp only [drumB] at hb
  refine W_exit ?_
  simp only [go_sem]
  refine kq3 _ _ ?_
  refine W_seq fun kz9 kq9 => ?_
  refine W_region [2] fun R hR => ?_
  simp only [go_sem]
  refine hR _ _ (kq9 _ _ ?_); clear hR R; try clear kq9 kz9
  try simp only [go_sem]
  refine W_ret ?_
  simp only [go_sem]
  refine ⟨.inr (by trivial), ?_⟩
  rw [hb]; exact Fin_ext 1 0 hcl rfl (Wk_eq rfl (by simp only [go_sem] <;> omega)) (by show CleanLs _ _ _ _; simp only [go_sem])
  try simp only [go_sem]
  all_goals
   skip
set_option maxHeartbeats 2000000 in
theorem Span_pc (Y : YEnv) (σ : Sg) (d : Nat) (b : Int) (hd : σ.store[d]? = some (some [.int .u64 b])) (lo hi : Int) (h0 : lo ≤ hi) (h1 : -2 ^ 50 ≤ lo) (h2 : lo ≤ 2 ^ 50) (h3 : -2 ^ 50 ≤ hi) (h4 : hi ≤ 2 ^ 50) :
  PC Tryz.prog Y 49 [.ptr d 0, I lo, I hi] σ (.agg [I (spanOf lo hi b).1.1, I (spanOf lo hi b).1.2]) (σ.setVar d [.int .u64 (spanOf lo hi b).2]) := by
 refine PC_of_W Tryz.func49 rfl (by kernel_rfl) Tryz.ntmps49 (by simp) fun hcl hca => ?_
 have hlt := lt_of_get hd
 obtain ⟨n, hn⟩ : ∃ n, (mid lo hi b).1 = n := ⟨_, rfl⟩
 have nb := mid_bd lo hi h0 b
 simp only [hn] at nb
 obtain ⟨b1, hb1⟩ : ∃ n, (mid lo hi b).2 = n := ⟨_, rfl⟩
 obtain ⟨k, hk⟩ : ∃ n, (roll 3 b1).1 = n := ⟨_, rfl⟩
 obtain ⟨b2, hb2⟩ : ∃ n, (roll 3 b1).2 = n := ⟨_, rfl⟩
 have e1 : ∀ {α : Type} (f : Int → D α), dbind (mid lo hi) f b = f n b1 := fun f => by simp only [dbind, hn, hb1]
 have e2 : ∀ {α : Type} (f : Int → D α), dbind (roll 3) f b1 = f k b2 := fun f => by simp only [dbind, hk, hb2]
 simp only [spanOf, e1, e2]
 refine W_seq fun kz1 kq1 => ?_
 refine W_region [0, 1, 2, 6] fun R hR => ?_
 simp only [go_sem, ldS_at hd, stX_at hd, ldS_sv hlt, stX_sv hlt, sv_ext hlt, sv_ext_sv hlt, hn, hb1, hk, hb2]
 refine hR _ _ (kq1 _ _ ?_); clear hR R; try clear kq1 kz1
 try simp only [go_sem, ldS_at hd, stX_at hd, ldS_sv hlt, stX_sv hlt, sv_ext hlt, sv_ext_sv hlt, hn, hb1, hk, hb2]
 refine W_seq fun kz2 kq2 => ?_
 refine W_region [0, 2, 6, 7] fun R hR => ?_
 simp only [go_sem, ldS_at hd, stX_at hd, ldS_sv hlt, stX_sv hlt, sv_ext hlt, sv_ext_sv hlt, hn, hb1, hk, hb2]
 refine GCall_of (Mid_pc Y _ d b (by first | exact hd | exact sv_get hlt | exact get_svx hlt | exact get_extx hd) lo hi (by omega) (by omega) (by omega) (by omega)) ?_
 simp only [go_sem, ldS_at hd, stX_at hd, ldS_sv hlt, stX_sv hlt, sv_ext hlt, sv_ext_sv hlt, hn, hb1, hk, hb2]
 refine hR _ _ (kq2 _ _ ?_); clear hR R; try clear kq2 kz2
 try simp only [go_sem, ldS_at hd, stX_at hd, ldS_sv hlt, stX_sv hlt, sv_ext hlt, sv_ext_sv hlt, hn, hb1, hk, hb2]
 refine W_seq fun kz3 kq3 => ?_
 refine W_seq fun kz4 kq4 => ?_
 refine W_region [0, 2, 6, 7, 13] fun R hR => ?_
 simp only [go_sem, ldS_at hd, stX_at hd, ldS_sv hlt, stX_sv hlt, sv_ext hlt, sv_ext_sv hlt, hn, hb1, hk, hb2]
 refine GCall_of (Roll_pc Y _ d b1 (by first | exact hd | exact sv_get hlt | exact get_svx hlt | exact get_extx hd) 3 (by omega)) ?_
 simp only [go_sem, ldS_at hd, stX_at hd, ldS_sv hlt, stX_sv hlt, sv_ext hlt, sv_ext_sv hlt, hn, hb1, hk, hb2]
 refine hR _ _ (kq4 _ _ ?_); clear hR R; try clear kq4 kz4
 try simp only [go_sem, ldS_at hd, stX_at hd, ldS_sv hlt, stX_sv hlt, sv_ext hlt, sv_ext_sv hlt, hn, hb1, hk, hb2]
 refine W_block ?_
 refine W_seq fun kz5 kq5 => ?_
 refine W_region [0, 2, 6, 7, 13, 14] fun R hR => ?_
 simp only [go_sem, ldS_at hd, stX_at hd, ldS_sv hlt, stX_sv hlt, sv_ext hlt, sv_ext_sv hlt, hn, hb1, hk, hb2]
 refine hR _ _ (kq5 _ _ ?_); clear hR R; try clear kq5 kz5
 try simp only [go_sem, ldS_at hd, stX_at hd, ldS_sv hlt, stX_sv hlt, sv_ext hlt, sv_ext_sv hlt, hn, hb1, hk, hb2]
 refine W_cond rfl (fun c1 => ?_) (fun c1 => ?_)
 ·
  try simp only [nrm] at c1
  refine W_seq fun kz6 kq6 => ?_
  refine W_region [6] fun R hR => ?_
  simp only [go_sem, ldS_at hd, stX_at hd, ldS_sv hlt, stX_sv hlt, sv_ext hlt, sv_ext_sv hlt, hn, hb1, hk, hb2]
  refine hR _ _ (kq6 _ _ ?_); clear hR R; try clear kq6 kz6
  try simp only [go_sem, ldS_at hd, stX_at hd, ldS_sv hlt, stX_sv hlt, sv_ext hlt, sv_ext_sv hlt, hn, hb1, hk, hb2]
  refine W_ret ?_
  simp only [go_sem, ldS_at hd, stX_at hd, ldS_sv hlt, stX_sv hlt, sv_ext hlt, sv_ext_sv hlt, hn, hb1, hk, hb2]
  refine ⟨.inr (by trivial), ?_⟩
  rw [if_pos c1]; refine Fin_set hcl (by simp only [go_sem]) (by show resPV Tryz.prog _ _ [.cell 6 49] = some _; simp only [resPV, go_sem]; rfl) (Wk_eq ?_ (by simp only [go_sem]))
  try simp only [go_sem]
  all_goals
   rfl
 ·
  try simp only [nrm] at c1
  refine W_seq fun kz7 kq7 => ?_
  refine W_region [0, 2, 6, 7, 19] fun R hR => ?_
  simp only [go_sem, ldS_at hd, stX_at hd, ldS_sv hlt, stX_sv hlt, sv_ext hlt, sv_ext_sv hlt, hn, hb1, hk, hb2]
  refine hR _ _ (kq7 _ _ ?_); clear hR R; try clear kq7 kz7
  try simp only [go_sem, ldS_at hd, stX_at hd, ldS_sv hlt, stX_sv hlt, sv_ext hlt, sv_ext_sv hlt, hn, hb1, hk, hb2]
  refine W_cond rfl (fun c2 => ?_) (fun c2 => ?_)
  ·
   try simp only [nrm] at c2
   refine W_seq fun kz8 kq8 => ?_
   refine W_region [6] fun R hR => ?_
   simp only [go_sem, ldS_at hd, stX_at hd, ldS_sv hlt, stX_sv hlt, sv_ext hlt, sv_ext_sv hlt, hn, hb1, hk, hb2]
   try simp (disch := omega) only [wrapI, wrapU]
   refine GCall_of (Mid_pc Y _ d b2 (by first | exact hd | exact sv_get hlt | exact get_svx hlt | exact get_extx hd) n _ (by omega) (by omega) (by omega) (by omega)) ?_
   simp only [go_sem, ldS_at hd, stX_at hd, ldS_sv hlt, stX_sv hlt, sv_ext hlt, sv_ext_sv hlt, hn, hb1, hk, hb2]
   try simp (disch := omega) only [wrapI, wrapU]
   refine hR _ _ (kq8 _ _ ?_); clear hR R; try clear kq8 kz8
   try simp only [go_sem, ldS_at hd, stX_at hd, ldS_sv hlt, stX_sv hlt, sv_ext hlt, sv_ext_sv hlt, hn, hb1, hk, hb2]
   refine W_ret ?_
   simp only [go_sem, ldS_at hd, stX_at hd, ldS_sv hlt, stX_sv hlt, sv_ext hlt, sv_ext_sv hlt, hn, hb1, hk, hb2]
   refine ⟨.inr (by trivial), ?_⟩
   rw [if_neg c1, if_pos c2]; refine Fin_set hcl (by simp only [go_sem]) (by show resPV Tryz.prog _ _ [.cell 6 49] = some _; simp only [resPV, go_sem]; rfl) (Wk_eq ?_ (by simp only [go_sem]))
   try simp only [go_sem]
   all_goals
    rfl
  ·
   try simp only [nrm] at c2
   refine W_skip (kq3 _ _ ?_)
   refine W_seq fun kz9 kq9 => ?_
   refine W_region [6] fun R hR => ?_
   simp only [go_sem, ldS_at hd, stX_at hd, ldS_sv hlt, stX_sv hlt, sv_ext hlt, sv_ext_sv hlt, hn, hb1, hk, hb2]
   refine GCall_of (Mid_pc Y _ d b2 (by first | exact hd | exact sv_get hlt | exact get_svx hlt | exact get_extx hd) n hi (by omega) (by omega) (by omega) (by omega)) ?_
   simp only [go_sem, ldS_at hd, stX_at hd, ldS_sv hlt, stX_sv hlt, sv_ext hlt, sv_ext_sv hlt, hn, hb1, hk, hb2]
   refine hR _ _ (kq9 _ _ ?_); clear hR R; try clear kq9 kz9
   try simp only [go_sem, ldS_at hd, stX_at hd, ldS_sv hlt, stX_sv hlt, sv_ext hlt, sv_ext_sv hlt, hn, hb1, hk, hb2]
   refine W_ret ?_
   simp only [go_sem, ldS_at hd, stX_at hd, ldS_sv hlt, stX_sv hlt, sv_ext hlt, sv_ext_sv hlt, hn, hb1, hk, hb2]
   refine ⟨.inr (by trivial), ?_⟩
   rw [if_neg c1, if_neg c2]; refine Fin_set hcl (by simp only [go_sem]) (by show resPV Tryz.prog _ _ [.cell 6 49] = some _; simp only [resPV, go_sem]; rfl) (Wk_eq ?_ (by simp only [go_sem]))
   try simp only [go_sem]
   all_goals
    rfl
end Go.Proofs.YteklodljdndcoaaGreatDoor
namespace Go.Proofs.YteklodljdndcoaaGreatDoor
open Go Go.RowKit
set_option maxRecDepth 100000
def pathD (sts : List (Int × Int)) (g : Group) : Nat → Int → List Int → D Group
  | 0, _, acc => dret { g with path := acc }
  | k + 1, at', acc => dbind (roll sts.length) fun s => if 0 ≤ other ((sts[s.toNat]?).getD (0, 0)) at' then pathD sts g k (other ((sts[s.toNat]?).getD (0, 0)) at') (acc ++ [s]) else pathD sts g k at' acc
def groupD (n : Int) (sts : List (Int × Int)) : D Group := dbind (anyOf [30, 90]) fun x => dbind (spanOf 0 x) fun sz => dbind (anyOf [0, 4]) fun y => dbind (spanOf 0 y) fun a => dbind (mid 1 4) fun stay => dbind (roll n) fun f => dbind (roll 5) fun k =>
  pathD sts ⟨sz.1, sz.2, a.1, a.2, stay, f, []⟩ (if 0 < sts.length then k.toNat else 0) f []
def townC (steps n : Int) (rooms : List Int) (sts : List (Int × Int)) : Nat → List Group → D Town
  | 0, acc => dret ⟨rooms, sts, acc, steps⟩
  | k + 1, acc => dbind (groupD n sts) fun g => townC steps n rooms sts k (acc ++ [g])
def townB (gr steps n : Int) (rooms : List Int) : Nat → List (Int × Int) → D Town
  | 0, acc => dbind (roll (gr + 1)) fun g => townC steps n rooms acc g.toNat []
  | k + 1, acc => dbind (roll n) fun a => dbind (mid 1 (n - 1)) fun m => townB gr steps n rooms k (acc ++ [(a, fit (a + m) n)])
def townA (st gr steps n : Int) : Nat → List Int → D Town
  | 0, acc => dbind (roll (st + 1)) fun m => townB gr steps n acc (if 1 < n then m.toNat else 0) []
  | k + 1, acc => dbind (roll 60) fun x => dbind (roll 150) fun y => dbind (anyOf [x, y, 500]) fun z => townA st gr steps n k (acc ++ [z])
def townD (sq st gr : Int) : D Town := dbind (anyOf [4, 11]) fun x => dbind (roll x) fun steps => dbind (mid 1 sq) fun n => townA st gr steps n n.toNat []
theorem mem2 {a b r : Int} (h : r ∈ [a, b]) : r = a ∨ r = b := by simpa using h
theorem mem3 {a b c r : Int} (h : r ∈ [a, b, c]) : r = a ∨ r = b ∨ r = c := by simpa using h
set_option maxHeartbeats 4000000 in
theorem TownOf_pc (Y : YEnv) (σ : Sg) (d : Nat) (b : Int) (hd : σ.store[d]? = some (some [.int .u64 b])) (sq st gr : Int) (hs1 : 1 ≤ sq) (hs2 : sq ≤ 1000) (ht1 : 0 ≤ st) (ht2 : st ≤ 1000) (hg1 : 0 ≤ gr) (hg2 : gr ≤ 1000) :
  PC Tryz.prog Y 24 [.ptr d 0, I sq, I st, I gr] σ (twPV (townD sq st gr b).1) (σ.setVar d [.int .u64 (townD sq st gr b).2]) := by
 refine PC_of_W Tryz.func24 rfl (by kernel_rfl) Tryz.ntmps24 (by simp) fun hcl hca => ?_
 have hlt := lt_of_get hd
 obtain ⟨res, hres⟩ : ∃ r, townD sq st gr b = r := ⟨_, rfl⟩
 rw [hres]
 obtain ⟨x0, hx0⟩ : ∃ zz, (anyOf [4, 11] b).1 = zz := ⟨_, rfl⟩
 obtain ⟨b1, hb1⟩ : ∃ zz, (anyOf [4, 11] b).2 = zz := ⟨_, rfl⟩
 have dx0 := anyOf_mem [4, 11] (by simp) b
 simp only [hx0] at dx0
 obtain ⟨steps, hsteps⟩ : ∃ zz, (roll x0 b1).1 = zz := ⟨_, rfl⟩
 obtain ⟨b2, hb2⟩ : ∃ zz, (roll x0 b1).2 = zz := ⟨_, rfl⟩
 have dsteps := roll_bd x0 b1
 simp only [hsteps] at dsteps
 obtain ⟨n, hn⟩ : ∃ zz, (mid 1 sq b2).1 = zz := ⟨_, rfl⟩
 obtain ⟨b3, hb3⟩ : ∃ zz, (mid 1 sq b2).2 = zz := ⟨_, rfl⟩
 have dn := mid_bd 1 sq hs1 b2
 simp only [hn] at dn
 have dx1 := mem2 dx0
 simp only [townD, dbind, hx0, hb1, hsteps, hb2, hn, hb3] at hres
 have hnn : n - ((n.toNat : Nat) : Int) = 0 := by omega
 refine W_seq fun kz1 kq1 => ?_
 refine W_region [0, 1, 2, 3, 8] fun R hR => ?_
 simp only [go_sem, ldS_at hd, stX_at hd, ldS_sv hlt, stX_sv hlt, sv_ext hlt, sv_ext_sv hlt, hx0, hb1, hsteps, hb2, hn, hb3]
 refine hR _ _ (kq1 _ _ ?_); clear hR R; try clear kq1 kz1
 try simp only [go_sem, ldS_at hd, stX_at hd, ldS_sv hlt, stX_sv hlt, sv_ext hlt, sv_ext_sv hlt, hx0, hb1, hsteps, hb2, hn, hb3]
 refine W_seq fun kz2 kq2 => ?_
 refine W_region [0, 1, 2, 3, 8, 9] fun R hR => ?_
 simp only [go_sem, ldS_at hd, stX_at hd, ldS_sv hlt, stX_sv hlt, sv_ext hlt, sv_ext_sv hlt, hx0, hb1, hsteps, hb2, hn, hb3]
 refine GCall_of (Any_pc Y _ d b (by first | exact hd | exact sv_get hlt | exact get_svx hlt | exact get_extx hd) [4, 11] (by simp) (by simp)) ?_
 simp only [go_sem, ldS_at hd, stX_at hd, ldS_sv hlt, stX_sv hlt, sv_ext hlt, sv_ext_sv hlt, hx0, hb1, hsteps, hb2, hn, hb3]
 refine GCall_of (Roll_pc Y _ d b1 (by first | exact hd | exact sv_get hlt | exact get_svx hlt | exact get_extx hd) x0 (by omega)) ?_
 simp only [go_sem, ldS_at hd, stX_at hd, ldS_sv hlt, stX_sv hlt, sv_ext hlt, sv_ext_sv hlt, hx0, hb1, hsteps, hb2, hn, hb3]
 refine hR _ _ (kq2 _ _ ?_); clear hR R; try clear kq2 kz2
 try simp only [go_sem, ldS_at hd, stX_at hd, ldS_sv hlt, stX_sv hlt, sv_ext hlt, sv_ext_sv hlt, hx0, hb1, hsteps, hb2, hn, hb3]
 refine W_seq fun kz3 kq3 => ?_
 refine W_region [0, 2, 3, 8, 9, 10] fun R hR => ?_
 simp only [go_sem, ldS_at hd, stX_at hd, ldS_sv hlt, stX_sv hlt, sv_ext hlt, sv_ext_sv hlt, hx0, hb1, hsteps, hb2, hn, hb3]
 refine GCall_of (Mid_pc Y _ d b2 (by first | exact hd | exact sv_get hlt | exact get_svx hlt | exact get_extx hd) 1 sq (by omega) (by omega) (by omega) (by omega)) ?_
 simp only [go_sem, ldS_at hd, stX_at hd, ldS_sv hlt, stX_sv hlt, sv_ext hlt, sv_ext_sv hlt, hx0, hb1, hsteps, hb2, hn, hb3]
 refine hR _ _ (kq3 _ _ ?_); clear hR R; try clear kq3 kz3
 try simp only [go_sem, ldS_at hd, stX_at hd, ldS_sv hlt, stX_sv hlt, sv_ext hlt, sv_ext_sv hlt, hx0, hb1, hsteps, hb2, hn, hb3]
 refine W_seq fun kz4 kq4 => ?_
 refine W_seq fun kz5 kq5 => ?_
 refine W_region [0, 2, 3, 8, 9, 10, 11] fun R hR => ?_
 simp only [go_sem, ldS_at hd, stX_at hd, ldS_sv hlt, stX_sv hlt, sv_ext hlt, sv_ext_sv hlt, hx0, hb1, hsteps, hb2, hn, hb3]
 refine hR _ _ (kq5 _ _ ?_); clear hR R; try clear kq5 kz5
 try simp only [go_sem, ldS_at hd, stX_at hd, ldS_sv hlt, stX_sv hlt, sv_ext hlt, sv_ext_sv hlt, hx0, hb1, hsteps, hb2, hn, hb3]
 refine W_block ?_
 refine W_weak (Weak.roomSV (j := 1) (off := 0) (es := 1) rfl rfl (by simp)) ?_
 simp only [go_sem, ldS_at hd, stX_at hd, ldS_sv hlt, stX_sv hlt, sv_ext hlt, sv_ext_sv hlt, hx0, hb1, hsteps, hb2, hn, hb3]
 refine W_loopT (α := Nat × (List Int) × Int) (fun ⟨k, acc, b⟩ => [(11, I (n - (k : Int)))]) (fun ⟨k, acc, b⟩ => (σ.setVar d [.int .u64 b]).ext [some [.isl [] .exact, .isl [] .exact, .isl [] .exact, I 0], some [.isl (acc.map I) (.tok σ.rooms.length acc.length 1), .isl [] .exact, .isl [] .exact, I steps]] [acc.length]) (fun ⟨k, acc, b⟩ => (k : Int) ≤ n ∧ acc.length + k ≤ 2000 ∧ res = townA st gr steps n k acc b) (fun ⟨k, acc, b⟩ => k) ((n.toNat, [], b3)) (by simp only [go_sem, hnn]) (by first | rfl | (simp only [go_sem]; done) | (simp only [go_sem]; rfl)) (⟨by (try dsimp only); omega, by (try dsimp only); simp; omega, hres.symm⟩) ?_
 rintro ⟨k, acc, b⟩ ⟨hk, hal, hinv⟩
 refine W_seq fun kz6 kq6 => ?_
 refine W_seq fun kz7 kq7 => ?_
 refine W_region [0, 2, 3, 8, 9, 10, 11, 31] fun R hR => ?_
 simp only [go_sem, ldS_at hd, stX_at hd, ldS_sv hlt, stX_sv hlt, sv_ext hlt, sv_ext_sv hlt, hx0, hb1, hsteps, hb2, hn, hb3]
 refine hR _ _ (kq7 _ _ ?_); clear hR R; try clear kq7 kz7
 try simp only [go_sem, ldS_at hd, stX_at hd, ldS_sv hlt, stX_sv hlt, sv_ext hlt, sv_ext_sv hlt, hx0, hb1, hsteps, hb2, hn, hb3]
 refine W_cond rfl (fun c1 => ?_) (fun c1 => ?_)
 ·
  try simp only [nrm] at c1
  obtain ⟨k, rfl⟩ : ∃ j, k = j + 1 := ⟨k - 1, by omega⟩
  obtain ⟨x, hx⟩ : ∃ zz, (roll 60 b).1 = zz := ⟨_, rfl⟩
  obtain ⟨b4, hb4⟩ : ∃ zz, (roll 60 b).2 = zz := ⟨_, rfl⟩
  have dx := roll_bd 60 b
  simp only [hx] at dx
  obtain ⟨y, hy⟩ : ∃ zz, (roll 150 b4).1 = zz := ⟨_, rfl⟩
  obtain ⟨b5, hb5⟩ : ∃ zz, (roll 150 b4).2 = zz := ⟨_, rfl⟩
  have dy := roll_bd 150 b4
  simp only [hy] at dy
  obtain ⟨z, hz⟩ : ∃ zz, (anyOf [x, y, 500] b5).1 = zz := ⟨_, rfl⟩
  obtain ⟨b6, hb6⟩ : ∃ zz, (anyOf [x, y, 500] b5).2 = zz := ⟨_, rfl⟩
  have dz := anyOf_mem [x, y, 500] (by simp) b5
  simp only [hz] at dz
  simp only [townA, dbind, hx, hb4, hy, hb5, hz, hb6] at hinv
  refine W_skip (kq6 _ _ ?_)
  refine W_seq fun kz8 kq8 => ?_
  refine W_block ?_
  refine W_draw [0, 2, 3, 8, 9, 10, 11] [0, 1, 2, 3, 4, 5, 6, 7, 8, 9, 10, 11, 12] [(0, 6), (0, 8), (0, 10), (1, 6), (1, 8), (1, 10), (2, 6), (2, 8), (5, 4)] [[], [0], [], [], [3], [], [3, 4, 5], [3, 4, 5, 6], [2, 3, 4, 5, 6, 7], [2, 3, 4, 5, 6, 7, 8], [0, 1, 2, 3, 4, 5, 6, 7, 8, 9], [0, 1, 2, 3, 4, 5, 6, 7, 8, 9, 10], [0, 1, 2, 3, 4, 5, 6, 7, 8, 9, 10, 11]] mixed (by kernel_rfl) fun R hR => ?_
  simp only [go_sem, ldS_at hd, stX_at hd, ldS_sv hlt, stX_sv hlt, sv_ext hlt, sv_ext_sv hlt, hx0, hb1, hsteps, hb2, hn, hb3, hx, hb4, hy, hb5, hz, hb6]
  refine GCall_of (Roll_pc Y _ d b (by first | exact hd | exact sv_get hlt | exact get_svx hlt | exact get_extx hd) 60 (by omega)) ?_
  simp only [go_sem, ldS_at hd, stX_at hd, ldS_sv hlt, stX_sv hlt, sv_ext hlt, sv_ext_sv hlt, hx0, hb1, hsteps, hb2, hn, hb3, hx, hb4, hy, hb5, hz, hb6]
  refine GCall_of (Roll_pc Y _ d b4 (by first | exact hd | exact sv_get hlt | exact get_svx hlt | exact get_extx hd) 150 (by omega)) ?_
  simp only [go_sem, ldS_at hd, stX_at hd, ldS_sv hlt, stX_sv hlt, sv_ext hlt, sv_ext_sv hlt, hx0, hb1, hsteps, hb2, hn, hb3, hx, hb4, hy, hb5, hz, hb6]
  refine GCall_of (Any_pc Y _ d b5 (by first | exact hd | exact sv_get hlt | exact get_svx hlt | exact get_extx hd) [x, y, 500] (by simp) (by simp)) ?_
  simp only [go_sem, ldS_at hd, stX_at hd, ldS_sv hlt, stX_sv hlt, sv_ext hlt, sv_ext_sv hlt, hx0, hb1, hsteps, hb2, hn, hb3, hx, hb4, hy, hb5, hz, hb6]
  simp (disch := first | omega | (simp only [go_sem] <;> omega)) only [wrapI, wrapU, appX_exact, appX_tok]
  try simp only [go_sem, ldS_at hd, stX_at hd, ldS_sv hlt, stX_sv hlt, sv_ext hlt, sv_ext_sv hlt, hx0, hb1, hsteps, hb2, hn, hb3, hx, hb4, hy, hb5, hz, hb6]
  try refine And.intro (by repeat' (first | refine And.intro ?_ ?_ | exact GOr_right (fun _ => by simp only [go_sem, ldS_at hd, stX_at hd, ldS_sv hlt, stX_sv hlt, sv_ext hlt, sv_ext_sv hlt, hx0, hb1, hsteps, hb2, hn, hb3, hx, hb4, hy, hb5, hz, hb6]))) ?_
  refine hR _ _ (kq8 _ _ ?_); clear hR R; try clear kq8 kz8
  try simp only [go_sem, ldS_at hd, stX_at hd, ldS_sv hlt, stX_sv hlt, sv_ext hlt, sv_ext_sv hlt, hx0, hb1, hsteps, hb2, hn, hb3, hx, hb4, hy, hb5, hz, hb6]
  refine W_region [0, 2, 3, 8, 9, 10, 11] fun R hR => ?_
  simp only [go_sem, ldS_at hd, stX_at hd, ldS_sv hlt, stX_sv hlt, sv_ext hlt, sv_ext_sv hlt, hx0, hb1, hsteps, hb2, hn, hb3, hx, hb4, hy, hb5, hz, hb6]
  try simp (disch := omega) only [wrapI, wrapU]
  refine hR _ _ ?_; clear hR R
  try simp only [go_sem, ldS_at hd, stX_at hd, ldS_sv hlt, stX_sv hlt, sv_ext hlt, sv_ext_sv hlt, hx0, hb1, hsteps, hb2, hn, hb3, hx, hb4, hy, hb5, hz, hb6]
  refine ⟨(k, acc ++ [z], b6), ?_, by (try simp only []); omega, ?_⟩
  ·first | exact Weak.refl | exact Weak.eq (by first | rfl | (simp only [go_sem]; done) | (simp only [go_sem]; rfl) | (simp [go_sem]; done) | (simp [go_sem]; omega)) (by first | rfl | (simp only [go_sem]; done) | (simp [go_sem]; done))
  ·try dsimp only
   exact ⟨by omega, by simp; omega, hinv⟩
 ·
  try simp only [nrm] at c1
  obtain rfl : k = 0 := by omega
  obtain ⟨m1, hm1⟩ : ∃ zz, (roll (st + 1) b).1 = zz := ⟨_, rfl⟩
  obtain ⟨b7, hb7⟩ : ∃ zz, (roll (st + 1) b).2 = zz := ⟨_, rfl⟩
  have dm1 := roll_bd (st + 1) b
  simp only [hm1] at dm1
  simp only [townA, dbind, hm1, hb7] at hinv
  clear hres
  have hmt : ((m1.toNat : Nat) : Int) = m1 := by omega
  refine W_exit ?_
  simp only [go_sem, ldS_at hd, stX_at hd, ldS_sv hlt, stX_sv hlt, sv_ext hlt, sv_ext_sv hlt, hx0, hb1, hsteps, hb2, hn, hb3, hm1, hb7]
  refine kq4 _ _ ?_
  refine W_seq fun kz9 kq9 => ?_
  refine W_seq fun kz10 kq10 => ?_
  refine W_region [0, 3, 8, 9, 10, 12] fun R hR => ?_
  simp only [go_sem, ldS_at hd, stX_at hd, ldS_sv hlt, stX_sv hlt, sv_ext hlt, sv_ext_sv hlt, hx0, hb1, hsteps, hb2, hn, hb3, hm1, hb7]
  try simp (disch := omega) only [wrapI, wrapU]
  refine GCall_of (Roll_pc Y _ d b (by first | exact hd | exact sv_get hlt | exact get_svx hlt | exact get_extx hd) (st + 1) (by omega)) ?_
  simp only [go_sem, ldS_at hd, stX_at hd, ldS_sv hlt, stX_sv hlt, sv_ext hlt, sv_ext_sv hlt, hx0, hb1, hsteps, hb2, hn, hb3, hm1, hb7]
  try simp (disch := omega) only [wrapI, wrapU]
  refine hR _ _ (kq10 _ _ ?_); clear hR R; try clear kq10 kz10
  try simp only [go_sem, ldS_at hd, stX_at hd, ldS_sv hlt, stX_sv hlt, sv_ext hlt, sv_ext_sv hlt, hx0, hb1, hsteps, hb2, hn, hb3, hm1, hb7]
  refine W_block ?_
  refine W_weak (Weak.roomSV (j := 1) (off := 1) (es := 2) rfl rfl (by simp)) ?_
  simp only [go_sem, ldS_at hd, stX_at hd, ldS_sv hlt, stX_sv hlt, sv_ext hlt, sv_ext_sv hlt, hx0, hb1, hsteps, hb2, hn, hb3, hm1, hb7]
  refine W_loopT (α := Nat × (List (Int × Int)) × Int) (fun ⟨k, acs, b⟩ => [(12, I k)]) (fun ⟨k, acs, b⟩ => (σ.setVar d [.int .u64 b]).ext [some [.isl [] .exact, .isl [] .exact, .isl [] .exact, I 0], some [.isl (acc.map I) (.tok σ.rooms.length acc.length 1), .isl (acs.map stPV) (.tok (σ.rooms.length + 1) acs.length 2), .isl [] .exact, I steps]] [acc.length, acs.length]) (fun ⟨k, acs, b⟩ => acs.length + k ≤ 2000 ∧ res = townB gr steps n acc (if 1 < n then k else 0) acs b) (fun ⟨k, acs, b⟩ => k) ((m1.toNat, [], b7)) (by simp only [go_sem, hmt]) (by first | rfl | (simp only [go_sem]; done) | (simp only [go_sem]; rfl)) (⟨by (try dsimp only); simp; omega, hinv⟩) ?_
  rintro ⟨k, acs, b⟩ ⟨hal2, hinv⟩
  refine W_seq fun kz11 kq11 => ?_
  refine W_seq fun kz12 kq12 => ?_
  refine W_regionJ [0, 3, 8, 9, 10, 12, 55] [(55, .bool (decide (0 < (k : Int)) && decide (1 < n)))] ?_ fun R hR => ?_
  ·refine kq12 _ _ ?_
   simp only [go_sem, ldS_at hd, stX_at hd, ldS_sv hlt, stX_sv hlt, sv_ext hlt, sv_ext_sv hlt, hx0, hb1, hsteps, hb2, hn, hb3, hm1, hb7]
   refine W_cond rfl (fun c2 => ?_) (fun c2 => ?_)
   ·
    try simp only [nrm] at c2
    simp only [Bool.and_eq_true, decide_eq_true_eq] at c2
    obtain ⟨k, rfl⟩ : ∃ j, k = j + 1 := ⟨k - 1, by omega⟩
    rw [if_pos c2.2] at hinv
    obtain ⟨a0, ha0⟩ : ∃ zz, (roll n b).1 = zz := ⟨_, rfl⟩
    obtain ⟨b8, hb8⟩ : ∃ zz, (roll n b).2 = zz := ⟨_, rfl⟩
    have da0 := roll_bd n b
    simp only [ha0] at da0
    obtain ⟨m0, hm0⟩ : ∃ zz, (mid 1 (n - 1) b8).1 = zz := ⟨_, rfl⟩
    obtain ⟨b9, hb9⟩ : ∃ zz, (mid 1 (n - 1) b8).2 = zz := ⟨_, rfl⟩
    have dm0 := mid_bd 1 (n - 1) (by omega) b8
    simp only [hm0] at dm0
    have dft := fit_bd (a0 + m0) n
    simp only [townB, dbind, ha0, hb8, hm0, hb9] at hinv
    refine W_skip (kq11 _ _ ?_)
    refine W_seq fun kz13 kq13 => ?_
    refine W_block ?_
    refine W_seq fun kz14 kq14 => ?_
    refine W_region [0, 3, 8, 9, 10, 12, 13] fun R hR => ?_
    simp only [go_sem, ldS_at hd, stX_at hd, ldS_sv hlt, stX_sv hlt, sv_ext hlt, sv_ext_sv hlt, hx0, hb1, hsteps, hb2, hn, hb3, hm1, hb7, ha0, hb8, hm0, hb9]
    refine GCall_of (Roll_pc Y _ d b (by first | exact hd | exact sv_get hlt | exact get_svx hlt | exact get_extx hd) n (by omega)) ?_
    simp only [go_sem, ldS_at hd, stX_at hd, ldS_sv hlt, stX_sv hlt, sv_ext hlt, sv_ext_sv hlt, hx0, hb1, hsteps, hb2, hn, hb3, hm1, hb7, ha0, hb8, hm0, hb9]
    refine hR _ _ (kq14 _ _ ?_); clear hR R; try clear kq14 kz14
    try simp only [go_sem, ldS_at hd, stX_at hd, ldS_sv hlt, stX_sv hlt, sv_ext hlt, sv_ext_sv hlt, hx0, hb1, hsteps, hb2, hn, hb3, hm1, hb7, ha0, hb8, hm0, hb9]
    refine W_draw [0, 3, 8, 9, 10, 12] [0, 1, 2, 3, 4, 5, 6, 7, 8, 9, 10, 11, 12, 13, 14, 15] [(0, 10), (0, 13), (1, 10), (1, 13), (2, 10), (2, 13), (3, 10), (9, 7)] [[], [0], [], [], [], [], [5], [4, 5, 6], [3, 4, 5, 6, 7], [], [3, 4, 5, 6, 7, 8, 9], [2, 3, 4, 5, 6, 7, 8, 9, 10], [2, 3, 4, 5, 6, 7, 8, 9, 10, 11], [0, 1, 2, 3, 4, 5, 6, 7, 8, 9, 10, 11, 12], [0, 1, 2, 3, 4, 5, 6, 7, 8, 9, 10, 11, 12, 13], [0, 1, 2, 3, 4, 5, 6, 7, 8, 9, 10, 11, 12, 13, 14]] mixed (by kernel_rfl) fun R hR => ?_
    simp only [go_sem, ldS_at hd, stX_at hd, ldS_sv hlt, stX_sv hlt, sv_ext hlt, sv_ext_sv hlt, hx0, hb1, hsteps, hb2, hn, hb3, hm1, hb7, ha0, hb8, hm0, hb9]
    try simp (disch := omega) only [wrapI, wrapU]
    refine GCall_of (Mid_pc Y _ d b8 (by first | exact hd | exact sv_get hlt | exact get_svx hlt | exact get_extx hd) 1 (n - 1) (by omega) (by omega) (by omega) (by omega)) ?_
    simp only [go_sem, ldS_at hd, stX_at hd, ldS_sv hlt, stX_sv hlt, sv_ext hlt, sv_ext_sv hlt, hx0, hb1, hsteps, hb2, hn, hb3, hm1, hb7, ha0, hb8, hm0, hb9]
    try simp (disch := omega) only [wrapI, wrapU]
    refine GCall_of (Fit_pc Y _ (a0 + m0) n (by omega) (by omega) (by omega)) ?_
    simp only [go_sem, ldS_at hd, stX_at hd, ldS_sv hlt, stX_sv hlt, sv_ext hlt, sv_ext_sv hlt, hx0, hb1, hsteps, hb2, hn, hb3, hm1, hb7, ha0, hb8, hm0, hb9]
    simp (disch := first | omega | (simp only [go_sem] <;> omega)) only [wrapI, wrapU, appX_exact, appX_tok]
    try simp only [go_sem, ldS_at hd, stX_at hd, ldS_sv hlt, stX_sv hlt, sv_ext hlt, sv_ext_sv hlt, hx0, hb1, hsteps, hb2, hn, hb3, hm1, hb7, ha0, hb8, hm0, hb9]
    try refine And.intro (by repeat' (first | refine And.intro ?_ ?_ | exact GOr_right (fun _ => by simp only [go_sem, ldS_at hd, stX_at hd, ldS_sv hlt, stX_sv hlt, sv_ext hlt, sv_ext_sv hlt, hx0, hb1, hsteps, hb2, hn, hb3, hm1, hb7, ha0, hb8, hm0, hb9]))) ?_
    refine hR _ _ (kq13 _ _ ?_); clear hR R; try clear kq13 kz13
    try simp only [go_sem, ldS_at hd, stX_at hd, ldS_sv hlt, stX_sv hlt, sv_ext hlt, sv_ext_sv hlt, hx0, hb1, hsteps, hb2, hn, hb3, hm1, hb7, ha0, hb8, hm0, hb9]
    refine W_region [0, 3, 8, 9, 10, 12] fun R hR => ?_
    simp only [go_sem, ldS_at hd, stX_at hd, ldS_sv hlt, stX_sv hlt, sv_ext hlt, sv_ext_sv hlt, hx0, hb1, hsteps, hb2, hn, hb3, hm1, hb7, ha0, hb8, hm0, hb9]
    try simp (disch := omega) only [wrapI, wrapU]
    refine hR _ _ ?_; clear hR R
    try simp only [go_sem, ldS_at hd, stX_at hd, ldS_sv hlt, stX_sv hlt, sv_ext hlt, sv_ext_sv hlt, hx0, hb1, hsteps, hb2, hn, hb3, hm1, hb7, ha0, hb8, hm0, hb9]
    refine ⟨(k, acs ++ [(a0, fit (a0 + m0) n)], b9), ?_, by (try simp only []); omega, ?_⟩
    ·first | exact Weak.refl | exact Weak.eq (by first | rfl | (simp only [go_sem]; done) | (simp only [go_sem]; rfl) | (simp [go_sem]; done) | (simp [go_sem]; omega)) (by first | rfl | (simp only [go_sem]; done) | (simp [go_sem]; done))
    ·try dsimp only
     exact ⟨by simp; omega, by rw [if_pos c2.2]; exact hinv⟩
   ·
    try simp only [nrm] at c2
    simp only [Bool.and_eq_false_iff, decide_eq_false_iff_not] at c2
    have hz : (if 1 < n then k else 0) = 0 := by split <;> omega
    rw [hz] at hinv
    obtain ⟨gg, hgg⟩ : ∃ zz, (roll (gr + 1) b).1 = zz := ⟨_, rfl⟩
    obtain ⟨b10, hb10⟩ : ∃ zz, (roll (gr + 1) b).2 = zz := ⟨_, rfl⟩
    have dgg := roll_bd (gr + 1) b
    simp only [hgg] at dgg
    simp only [townB, dbind, hgg, hb10] at hinv
    have hgt : ((gg.toNat : Nat) : Int) = gg := by omega
    refine W_exit ?_
    simp only [go_sem, ldS_at hd, stX_at hd, ldS_sv hlt, stX_sv hlt, sv_ext hlt, sv_ext_sv hlt, hx0, hb1, hsteps, hb2, hn, hb3, hm1, hb7, hgg, hb10]
    refine kq9 _ _ ?_
    refine W_seq fun kz15 kq15 => ?_
    refine W_seq fun kz16 kq16 => ?_
    refine W_region [0, 8, 9, 10, 14] fun R hR => ?_
    simp only [go_sem, ldS_at hd, stX_at hd, ldS_sv hlt, stX_sv hlt, sv_ext hlt, sv_ext_sv hlt, hx0, hb1, hsteps, hb2, hn, hb3, hm1, hb7, hgg, hb10]
    try simp (disch := omega) only [wrapI, wrapU]
    refine GCall_of (Roll_pc Y _ d b (by first | exact hd | exact sv_get hlt | exact get_svx hlt | exact get_extx hd) (gr + 1) (by omega)) ?_
    simp only [go_sem, ldS_at hd, stX_at hd, ldS_sv hlt, stX_sv hlt, sv_ext hlt, sv_ext_sv hlt, hx0, hb1, hsteps, hb2, hn, hb3, hm1, hb7, hgg, hb10]
    try simp (disch := omega) only [wrapI, wrapU]
    refine hR _ _ (kq16 _ _ ?_); clear hR R; try clear kq16 kz16
    try simp only [go_sem, ldS_at hd, stX_at hd, ldS_sv hlt, stX_sv hlt, sv_ext hlt, sv_ext_sv hlt, hx0, hb1, hsteps, hb2, hn, hb3, hm1, hb7, hgg, hb10]
    refine W_block ?_
    refine W_weak (Weak.roomSV (j := 1) (off := 2) (es := 7) rfl rfl (by simp)) ?_
    simp only [go_sem, ldS_at hd, stX_at hd, ldS_sv hlt, stX_sv hlt, sv_ext hlt, sv_ext_sv hlt, hx0, hb1, hsteps, hb2, hn, hb3, hm1, hb7, hgg, hb10]
    refine W_loopT (α := Nat × (List Group) × Int) (fun ⟨k2, acg, b⟩ => [(14, I k2)]) (fun ⟨k2, acg, b⟩ => (σ.setVar d [.int .u64 b]).ext [some [.isl [] .exact, .isl [] .exact, .isl [] .exact, I 0], some [.isl (acc.map I) (.tok σ.rooms.length acc.length 1), .isl (acs.map stPV) (.tok (σ.rooms.length + 1) acs.length 2), .isl (acg.map grPV) (.tok (σ.rooms.length + 2) acg.length 7), I steps]] [acc.length, acs.length, acg.length]) (fun ⟨k2, acg, b⟩ => acg.length + k2 ≤ 2000 ∧ res = townC steps n acc acs k2 acg b) (fun ⟨k2, acg, b⟩ => k2) ((gg.toNat, [], b10)) (by simp only [go_sem, hgt]) (by first | rfl | (simp only [go_sem]; done) | (simp only [go_sem]; rfl)) (⟨by (try dsimp only); simp; omega, hinv⟩) ?_
    rintro ⟨k2, acg, b⟩ ⟨hal3, hinv⟩
    refine W_seq fun kz17 kq17 => ?_
    refine W_seq fun kz18 kq18 => ?_
    refine W_region [0, 8, 9, 10, 14, 81] fun R hR => ?_
    simp only [go_sem, ldS_at hd, stX_at hd, ldS_sv hlt, stX_sv hlt, sv_ext hlt, sv_ext_sv hlt, hx0, hb1, hsteps, hb2, hn, hb3, hm1, hb7, hgg, hb10]
    refine hR _ _ (kq18 _ _ ?_); clear hR R; try clear kq18 kz18
    try simp only [go_sem, ldS_at hd, stX_at hd, ldS_sv hlt, stX_sv hlt, sv_ext hlt, sv_ext_sv hlt, hx0, hb1, hsteps, hb2, hn, hb3, hm1, hb7, hgg, hb10]
    refine W_cond rfl (fun c3 => ?_) (fun c3 => ?_)
    ·
     try simp only [nrm] at c3
     obtain ⟨k2, rfl⟩ : ∃ j, k2 = j + 1 := ⟨k2 - 1, by omega⟩
     obtain ⟨gres, hgr⟩ : ∃ r, groupD n acs b = r := ⟨_, rfl⟩
     simp only [townC, dbind, hgr] at hinv
     obtain ⟨x2, hx2⟩ : ∃ zz, (anyOf [30, 90] b).1 = zz := ⟨_, rfl⟩
     obtain ⟨b11, hb11⟩ : ∃ zz, (anyOf [30, 90] b).2 = zz := ⟨_, rfl⟩
     have dx2 := anyOf_mem [30, 90] (by simp) b
     simp only [hx2] at dx2
     have dx2b := mem2 dx2
     obtain ⟨sz, hsz⟩ : ∃ zz, (spanOf 0 x2 b11).1 = zz := ⟨_, rfl⟩
     obtain ⟨b12, hb12⟩ : ∃ zz, (spanOf 0 x2 b11).2 = zz := ⟨_, rfl⟩
     have dsz := spanOf_bd 0 x2 (by omega) b11
     simp only [hsz] at dsz
     obtain ⟨x3, hx3⟩ : ∃ zz, (anyOf [0, 4] b12).1 = zz := ⟨_, rfl⟩
     obtain ⟨b13, hb13⟩ : ∃ zz, (anyOf [0, 4] b12).2 = zz := ⟨_, rfl⟩
     have dx3 := anyOf_mem [0, 4] (by simp) b12
     simp only [hx3] at dx3
     have dx3b := mem2 dx3
     obtain ⟨aa, haa⟩ : ∃ zz, (spanOf 0 x3 b13).1 = zz := ⟨_, rfl⟩
     obtain ⟨b14, hb14⟩ : ∃ zz, (spanOf 0 x3 b13).2 = zz := ⟨_, rfl⟩
     have daa := spanOf_bd 0 x3 (by omega) b13
     simp only [haa] at daa
     obtain ⟨stay, hstay⟩ : ∃ zz, (mid 1 4 b14).1 = zz := ⟨_, rfl⟩
     obtain ⟨b15, hb15⟩ : ∃ zz, (mid 1 4 b14).2 = zz := ⟨_, rfl⟩
     have dstay := mid_bd 1 4 (by omega) b14
     simp only [hstay] at dstay
     obtain ⟨fst, hfst⟩ : ∃ zz, (roll n b15).1 = zz := ⟨_, rfl⟩
     obtain ⟨b16, hb16⟩ : ∃ zz, (roll n b15).2 = zz := ⟨_, rfl⟩
     have dfst := roll_bd n b15
     simp only [hfst] at dfst
     obtain ⟨kk, hkk⟩ : ∃ zz, (roll 5 b16).1 = zz := ⟨_, rfl⟩
     obtain ⟨b17, hb17⟩ : ∃ zz, (roll 5 b16).2 = zz := ⟨_, rfl⟩
     have dkk := roll_bd 5 b16
     simp only [hkk] at dkk
     simp only [groupD, dbind, hx2, hb11, hsz, hb12, hx3, hb13, haa, hb14, hstay, hb15, hfst, hb16, hkk, hb17] at hgr
     have hkt : ((kk.toNat : Nat) : Int) = kk := by omega
     refine W_skip (kq17 _ _ ?_)
     refine W_seq fun kz19 kq19 => ?_
     refine W_block ?_
     refine W_seq fun kz20 kq20 => ?_
     refine W_region [0, 8, 9, 10, 14, 15] fun R hR => ?_
     simp only [go_sem, ldS_at hd, stX_at hd, ldS_sv hlt, stX_sv hlt, sv_ext hlt, sv_ext_sv hlt, hx0, hb1, hsteps, hb2, hn, hb3, hm1, hb7, hgg, hb10, hx2, hb11, hsz, hb12, hx3, hb13, haa, hb14, hstay, hb15, hfst, hb16, hkk, hb17]
     refine GCall_of (Any_pc Y _ d b (by first | exact hd | exact sv_get hlt | exact get_svx hlt | exact get_extx hd) [30, 90] (by simp) (by simp)) ?_
     simp only [go_sem, ldS_at hd, stX_at hd, ldS_sv hlt, stX_sv hlt, sv_ext hlt, sv_ext_sv hlt, hx0, hb1, hsteps, hb2, hn, hb3, hm1, hb7, hgg, hb10, hx2, hb11, hsz, hb12, hx3, hb13, haa, hb14, hstay, hb15, hfst, hb16, hkk, hb17]
     refine GCall_of (Span_pc Y _ d b11 (by first | exact hd | exact sv_get hlt | exact get_svx hlt | exact get_extx hd) 0 x2 (by omega) (by omega) (by omega) (by omega) (by omega)) ?_
     simp only [go_sem, ldS_at hd, stX_at hd, ldS_sv hlt, stX_sv hlt, sv_ext hlt, sv_ext_sv hlt, hx0, hb1, hsteps, hb2, hn, hb3, hm1, hb7, hgg, hb10, hx2, hb11, hsz, hb12, hx3, hb13, haa, hb14, hstay, hb15, hfst, hb16, hkk, hb17]
     refine GCall_of (Any_pc Y _ d b12 (by first | exact hd | exact sv_get hlt | exact get_svx hlt | exact get_extx hd) [0, 4] (by simp) (by simp)) ?_
     simp only [go_sem, ldS_at hd, stX_at hd, ldS_sv hlt, stX_sv hlt, sv_ext hlt, sv_ext_sv hlt, hx0, hb1, hsteps, hb2, hn, hb3, hm1, hb7, hgg, hb10, hx2, hb11, hsz, hb12, hx3, hb13, haa, hb14, hstay, hb15, hfst, hb16, hkk, hb17]
     refine GCall_of (Span_pc Y _ d b13 (by first | exact hd | exact sv_get hlt | exact get_svx hlt | exact get_extx hd) 0 x3 (by omega) (by omega) (by omega) (by omega) (by omega)) ?_
     simp only [go_sem, ldS_at hd, stX_at hd, ldS_sv hlt, stX_sv hlt, sv_ext hlt, sv_ext_sv hlt, hx0, hb1, hsteps, hb2, hn, hb3, hm1, hb7, hgg, hb10, hx2, hb11, hsz, hb12, hx3, hb13, haa, hb14, hstay, hb15, hfst, hb16, hkk, hb17]
     refine GCall_of (Mid_pc Y _ d b14 (by first | exact hd | exact sv_get hlt | exact get_svx hlt | exact get_extx hd) 1 4 (by omega) (by omega) (by omega) (by omega)) ?_
     simp only [go_sem, ldS_at hd, stX_at hd, ldS_sv hlt, stX_sv hlt, sv_ext hlt, sv_ext_sv hlt, hx0, hb1, hsteps, hb2, hn, hb3, hm1, hb7, hgg, hb10, hx2, hb11, hsz, hb12, hx3, hb13, haa, hb14, hstay, hb15, hfst, hb16, hkk, hb17]
     refine GCall_of (Roll_pc Y _ d b15 (by first | exact hd | exact sv_get hlt | exact get_svx hlt | exact get_extx hd) n (by omega)) ?_
     simp only [go_sem, ldS_at hd, stX_at hd, ldS_sv hlt, stX_sv hlt, sv_ext hlt, sv_ext_sv hlt, hx0, hb1, hsteps, hb2, hn, hb3, hm1, hb7, hgg, hb10, hx2, hb11, hsz, hb12, hx3, hb13, haa, hb14, hstay, hb15, hfst, hb16, hkk, hb17]
     refine hR _ _ (kq20 _ _ ?_); clear hR R; try clear kq20 kz20
     try simp only [go_sem, ldS_at hd, stX_at hd, ldS_sv hlt, stX_sv hlt, sv_ext hlt, sv_ext_sv hlt, hx0, hb1, hsteps, hb2, hn, hb3, hm1, hb7, hgg, hb10, hx2, hb11, hsz, hb12, hx3, hb13, haa, hb14, hstay, hb15, hfst, hb16, hkk, hb17]
     refine W_seq fun kz21 kq21 => ?_
     refine W_region [0, 8, 9, 10, 14, 15, 16] fun R hR => ?_
     simp only [go_sem, ldS_at hd, stX_at hd, ldS_sv hlt, stX_sv hlt, sv_ext hlt, sv_ext_sv hlt, hx0, hb1, hsteps, hb2, hn, hb3, hm1, hb7, hgg, hb10, hx2, hb11, hsz, hb12, hx3, hb13, haa, hb14, hstay, hb15, hfst, hb16, hkk, hb17]
     refine hR _ _ (kq21 _ _ ?_); clear hR R; try clear kq21 kz21
     try simp only [go_sem, ldS_at hd, stX_at hd, ldS_sv hlt, stX_sv hlt, sv_ext hlt, sv_ext_sv hlt, hx0, hb1, hsteps, hb2, hn, hb3, hm1, hb7, hgg, hb10, hx2, hb11, hsz, hb12, hx3, hb13, haa, hb14, hstay, hb15, hfst, hb16, hkk, hb17]
     refine W_seq fun kz22 kq22 => ?_
     refine W_seq fun kz23 kq23 => ?_
     refine W_region [0, 8, 9, 10, 14, 15, 16, 17] fun R hR => ?_
     simp only [go_sem, ldS_at hd, stX_at hd, ldS_sv hlt, stX_sv hlt, sv_ext hlt, sv_ext_sv hlt, hx0, hb1, hsteps, hb2, hn, hb3, hm1, hb7, hgg, hb10, hx2, hb11, hsz, hb12, hx3, hb13, haa, hb14, hstay, hb15, hfst, hb16, hkk, hb17]
     refine GCall_of (Roll_pc Y _ d b16 (by first | exact hd | exact sv_get hlt | exact get_svx hlt | exact get_extx hd) 5 (by omega)) ?_
     simp only [go_sem, ldS_at hd, stX_at hd, ldS_sv hlt, stX_sv hlt, sv_ext hlt, sv_ext_sv hlt, hx0, hb1, hsteps, hb2, hn, hb3, hm1, hb7, hgg, hb10, hx2, hb11, hsz, hb12, hx3, hb13, haa, hb14, hstay, hb15, hfst, hb16, hkk, hb17]
     refine hR _ _ (kq23 _ _ ?_); clear hR R; try clear kq23 kz23
     try simp only [go_sem, ldS_at hd, stX_at hd, ldS_sv hlt, stX_sv hlt, sv_ext hlt, sv_ext_sv hlt, hx0, hb1, hsteps, hb2, hn, hb3, hm1, hb7, hgg, hb10, hx2, hb11, hsz, hb12, hx3, hb13, haa, hb14, hstay, hb15, hfst, hb16, hkk, hb17]
     refine W_block ?_
     refine W_weak (Weak.roomSV (j := 2) (off := 6) (es := 1) rfl rfl (by simp)) ?_
     simp only [go_sem, ldS_at hd, stX_at hd, ldS_sv hlt, stX_sv hlt, sv_ext hlt, sv_ext_sv hlt, hx0, hb1, hsteps, hb2, hn, hb3, hm1, hb7, hgg, hb10, hx2, hb11, hsz, hb12, hx3, hb13, haa, hb14, hstay, hb15, hfst, hb16, hkk, hb17]
     refine W_loopT (α := Nat × Int × (List Int) × Int) (fun ⟨k3, at', acp, bp⟩ => [(16, I at'), (17, I k3)]) (fun ⟨k3, at', acp, bp⟩ => (σ.setVar d [.int .u64 bp]).ext [some [.isl [] .exact, .isl [] .exact, .isl [] .exact, I 0], some [.isl (acc.map I) (.tok σ.rooms.length acc.length 1), .isl (acs.map stPV) (.tok (σ.rooms.length + 1) acs.length 2), .isl (acg.map grPV) (.tok (σ.rooms.length + 2) acg.length 7), I steps], some [I sz.1, I sz.2, I aa.1, I aa.2, I stay, I fst, .isl (acp.map I) (.tok (σ.rooms.length + 3) acp.length 1)]] [acc.length, acs.length, acg.length, acp.length]) (fun ⟨k3, at', acp, bp⟩ => acp.length + k3 ≤ 100 ∧ gres = pathD acs ⟨sz.1, sz.2, aa.1, aa.2, stay, fst, []⟩ (if 0 < acs.length then k3 else 0) at' acp bp) (fun ⟨k3, at', acp, bp⟩ => k3) ((kk.toNat, fst, [], b17)) (by simp only [go_sem, hkt]) (by first | rfl | (simp only [go_sem]; done) | (simp only [go_sem]; rfl)) (⟨by (try dsimp only); simp; omega, hgr.symm⟩) ?_
     rintro ⟨k3, at', acp, bp⟩ ⟨hal4, hg3⟩
     refine W_seq fun kz24 kq24 => ?_
     refine W_seq fun kz25 kq25 => ?_
     refine W_regionJ [0, 8, 9, 10, 14, 15, 16, 17, 111] [(111, .bool (decide (0 < (k3 : Int)) && decide (0 < (acs.length : Int))))] ?_ fun R hR => ?_
     ·refine kq25 _ _ ?_
      simp only [go_sem, ldS_at hd, stX_at hd, ldS_sv hlt, stX_sv hlt, sv_ext hlt, sv_ext_sv hlt, hx0, hb1, hsteps, hb2, hn, hb3, hm1, hb7, hgg, hb10, hx2, hb11, hsz, hb12, hx3, hb13, haa, hb14, hstay, hb15, hfst, hb16, hkk, hb17]
      refine W_cond rfl (fun c4 => ?_) (fun c4 => ?_)
      ·
       try simp only [nrm] at c4
       simp only [Bool.and_eq_true, decide_eq_true_eq] at c4
       obtain ⟨k3, rfl⟩ : ∃ j, k3 = j + 1 := ⟨k3 - 1, by omega⟩
       have hap : 0 < acs.length := by omega
       rw [if_pos hap] at hg3
       obtain ⟨s0, hs0⟩ : ∃ zz, (roll acs.length bp).1 = zz := ⟨_, rfl⟩
       obtain ⟨b18, hb18⟩ : ∃ zz, (roll acs.length bp).2 = zz := ⟨_, rfl⟩
       have ds0 := roll_bd acs.length bp
       simp only [hs0] at ds0
       obtain ⟨s, hs⟩ : ∃ s, acs[s0.toNat]? = some s := ⟨acs[s0.toNat]'(by omega), by simp⟩
       have hs00 : 0 ≤ s0 := by omega
       simp only [pathD, dbind, hs0, hb18, hs, Option.getD_some] at hg3
       refine W_skip (kq24 _ _ ?_)
       refine W_seq fun kz26 kq26 => ?_
       refine W_block ?_
       refine W_seq fun kz27 kq27 => ?_
       refine W_region [0, 8, 9, 10, 14, 15, 16, 17, 18] fun R hR => ?_
       simp only [go_sem, ldS_at hd, stX_at hd, ldS_sv hlt, stX_sv hlt, sv_ext hlt, sv_ext_sv hlt, hx0, hb1, hsteps, hb2, hn, hb3, hm1, hb7, hgg, hb10, hx2, hb11, hsz, hb12, hx3, hb13, haa, hb14, hstay, hb15, hfst, hb16, hkk, hb17, hs0, hb18, hs, hs00]
       refine GCall_of (Roll_pc Y _ d bp (by first | exact hd | exact sv_get hlt | exact get_svx hlt | exact get_extx hd) acs.length (by omega)) ?_
       simp only [go_sem, ldS_at hd, stX_at hd, ldS_sv hlt, stX_sv hlt, sv_ext hlt, sv_ext_sv hlt, hx0, hb1, hsteps, hb2, hn, hb3, hm1, hb7, hgg, hb10, hx2, hb11, hsz, hb12, hx3, hb13, haa, hb14, hstay, hb15, hfst, hb16, hkk, hb17, hs0, hb18, hs, hs00]
       refine hR _ _ (kq27 _ _ ?_); clear hR R; try clear kq27 kz27
       try simp only [go_sem, ldS_at hd, stX_at hd, ldS_sv hlt, stX_sv hlt, sv_ext hlt, sv_ext_sv hlt, hx0, hb1, hsteps, hb2, hn, hb3, hm1, hb7, hgg, hb10, hx2, hb11, hsz, hb12, hx3, hb13, haa, hb14, hstay, hb15, hfst, hb16, hkk, hb17, hs0, hb18, hs, hs00]
       refine W_seq fun kz28 kq28 => ?_
       refine W_region [0, 8, 9, 10, 14, 15, 16, 17, 18, 19] fun R hR => ?_
       simp only [go_sem, ldS_at hd, stX_at hd, ldS_sv hlt, stX_sv hlt, sv_ext hlt, sv_ext_sv hlt, hx0, hb1, hsteps, hb2, hn, hb3, hm1, hb7, hgg, hb10, hx2, hb11, hsz, hb12, hx3, hb13, haa, hb14, hstay, hb15, hfst, hb16, hkk, hb17, hs0, hb18, hs, hs00]
       refine GCall_of (rother_pc Y _ s at') ?_
       simp only [go_sem, ldS_at hd, stX_at hd, ldS_sv hlt, stX_sv hlt, sv_ext hlt, sv_ext_sv hlt, hx0, hb1, hsteps, hb2, hn, hb3, hm1, hb7, hgg, hb10, hx2, hb11, hsz, hb12, hx3, hb13, haa, hb14, hstay, hb15, hfst, hb16, hkk, hb17, hs0, hb18, hs, hs00]
       refine hR _ _ (kq28 _ _ ?_); clear hR R; try clear kq28 kz28
       try simp only [go_sem, ldS_at hd, stX_at hd, ldS_sv hlt, stX_sv hlt, sv_ext hlt, sv_ext_sv hlt, hx0, hb1, hsteps, hb2, hn, hb3, hm1, hb7, hgg, hb10, hx2, hb11, hsz, hb12, hx3, hb13, haa, hb14, hstay, hb15, hfst, hb16, hkk, hb17, hs0, hb18, hs, hs00]
       refine W_seq fun kz29 kq29 => ?_
       refine W_region [0, 8, 9, 10, 14, 15, 16, 17, 18, 19, 127] fun R hR => ?_
       simp only [go_sem, ldS_at hd, stX_at hd, ldS_sv hlt, stX_sv hlt, sv_ext hlt, sv_ext_sv hlt, hx0, hb1, hsteps, hb2, hn, hb3, hm1, hb7, hgg, hb10, hx2, hb11, hsz, hb12, hx3, hb13, haa, hb14, hstay, hb15, hfst, hb16, hkk, hb17, hs0, hb18, hs, hs00]
       refine hR _ _ (kq29 _ _ ?_); clear hR R; try clear kq29 kz29
       try simp only [go_sem, ldS_at hd, stX_at hd, ldS_sv hlt, stX_sv hlt, sv_ext hlt, sv_ext_sv hlt, hx0, hb1, hsteps, hb2, hn, hb3, hm1, hb7, hgg, hb10, hx2, hb11, hsz, hb12, hx3, hb13, haa, hb14, hstay, hb15, hfst, hb16, hkk, hb17, hs0, hb18, hs, hs00]
       refine W_cond rfl (fun c5 => ?_) (fun c5 => ?_)
       ·
        try simp only [nrm] at c5
        refine W_region [0, 8, 9, 10, 14, 15, 16, 17] fun R hR => ?_
        simp only [go_sem, ldS_at hd, stX_at hd, ldS_sv hlt, stX_sv hlt, sv_ext hlt, sv_ext_sv hlt, hx0, hb1, hsteps, hb2, hn, hb3, hm1, hb7, hgg, hb10, hx2, hb11, hsz, hb12, hx3, hb13, haa, hb14, hstay, hb15, hfst, hb16, hkk, hb17, hs0, hb18, hs, hs00]
        simp (disch := first | omega | (simp only [go_sem] <;> omega)) only [wrapI, wrapU, appX_exact, appX_tok]
        try simp only [go_sem, ldS_at hd, stX_at hd, ldS_sv hlt, stX_sv hlt, sv_ext hlt, sv_ext_sv hlt, hx0, hb1, hsteps, hb2, hn, hb3, hm1, hb7, hgg, hb10, hx2, hb11, hsz, hb12, hx3, hb13, haa, hb14, hstay, hb15, hfst, hb16, hkk, hb17, hs0, hb18, hs, hs00]
        refine hR _ _ (kq26 _ _ ?_); clear hR R; try clear kq26 kz26
        try simp only [go_sem, ldS_at hd, stX_at hd, ldS_sv hlt, stX_sv hlt, sv_ext hlt, sv_ext_sv hlt, hx0, hb1, hsteps, hb2, hn, hb3, hm1, hb7, hgg, hb10, hx2, hb11, hsz, hb12, hx3, hb13, haa, hb14, hstay, hb15, hfst, hb16, hkk, hb17, hs0, hb18, hs, hs00]
        refine W_region [0, 8, 9, 10, 14, 15, 16, 17] fun R hR => ?_
        simp only [go_sem, ldS_at hd, stX_at hd, ldS_sv hlt, stX_sv hlt, sv_ext hlt, sv_ext_sv hlt, hx0, hb1, hsteps, hb2, hn, hb3, hm1, hb7, hgg, hb10, hx2, hb11, hsz, hb12, hx3, hb13, haa, hb14, hstay, hb15, hfst, hb16, hkk, hb17, hs0, hb18, hs, hs00]
        try simp (disch := omega) only [wrapI, wrapU]
        refine hR _ _ ?_; clear hR R
        try simp only [go_sem, ldS_at hd, stX_at hd, ldS_sv hlt, stX_sv hlt, sv_ext hlt, sv_ext_sv hlt, hx0, hb1, hsteps, hb2, hn, hb3, hm1, hb7, hgg, hb10, hx2, hb11, hsz, hb12, hx3, hb13, haa, hb14, hstay, hb15, hfst, hb16, hkk, hb17, hs0, hb18, hs, hs00]
        refine ⟨(k3, other s at', acp ++ [s0], b18), ?_, by (try simp only []); omega, ?_⟩
        ·first | exact Weak.refl | exact Weak.eq (by first | rfl | (simp only [go_sem]; done) | (simp only [go_sem]; rfl) | (simp [go_sem]; done) | (simp [go_sem]; omega)) (by first | rfl | (simp only [go_sem]; done) | (simp [go_sem]; done))
        ·try dsimp only
         refine ⟨by (try simp); omega, ?_⟩
         rw [if_pos hap, hg3]; first | rw [if_pos c5] | rw [if_neg c5]
       ·
        try simp only [nrm] at c5
        refine W_skip (kq26 _ _ ?_)
        refine W_region [0, 8, 9, 10, 14, 15, 16, 17] fun R hR => ?_
        simp only [go_sem, ldS_at hd, stX_at hd, ldS_sv hlt, stX_sv hlt, sv_ext hlt, sv_ext_sv hlt, hx0, hb1, hsteps, hb2, hn, hb3, hm1, hb7, hgg, hb10, hx2, hb11, hsz, hb12, hx3, hb13, haa, hb14, hstay, hb15, hfst, hb16, hkk, hb17, hs0, hb18, hs, hs00]
        try simp (disch := omega) only [wrapI, wrapU]
        refine hR _ _ ?_; clear hR R
        try simp only [go_sem, ldS_at hd, stX_at hd, ldS_sv hlt, stX_sv hlt, sv_ext hlt, sv_ext_sv hlt, hx0, hb1, hsteps, hb2, hn, hb3, hm1, hb7, hgg, hb10, hx2, hb11, hsz, hb12, hx3, hb13, haa, hb14, hstay, hb15, hfst, hb16, hkk, hb17, hs0, hb18, hs, hs00]
        refine ⟨(k3, at', acp, b18), ?_, by (try simp only []); omega, ?_⟩
        ·first | exact Weak.refl | exact Weak.eq (by first | rfl | (simp only [go_sem]; done) | (simp only [go_sem]; rfl) | (simp [go_sem]; done) | (simp [go_sem]; omega)) (by first | rfl | (simp only [go_sem]; done) | (simp [go_sem]; done))
        ·try dsimp only
         refine ⟨by (try simp); omega, ?_⟩
         rw [if_pos hap, hg3]; first | rw [if_pos c5] | rw [if_neg c5]
      ·
       try simp only [nrm] at c4
       simp only [Bool.and_eq_false_iff, decide_eq_false_iff_not] at c4
       have hz : (if 0 < acs.length then k3 else 0) = 0 := by split <;> omega
       rw [hz] at hg3
       simp only [pathD, dret] at hg3
       refine W_exit ?_
       simp only [go_sem, ldS_at hd, stX_at hd, ldS_sv hlt, stX_sv hlt, sv_ext hlt, sv_ext_sv hlt, hx0, hb1, hsteps, hb2, hn, hb3, hm1, hb7, hgg, hb10, hx2, hb11, hsz, hb12, hx3, hb13, haa, hb14, hstay, hb15, hfst, hb16, hkk, hb17]
       refine kq22 _ _ ?_
       refine W_weak (Weak.roSV (j := 2) (off := 6) rfl rfl) ?_
       simp only [go_sem]
       refine W_region [0, 8, 9, 10, 14] fun R hR => ?_
       simp only [go_sem, ldS_at hd, stX_at hd, ldS_sv hlt, stX_sv hlt, sv_ext hlt, sv_ext_sv hlt, hx0, hb1, hsteps, hb2, hn, hb3, hm1, hb7, hgg, hb10, hx2, hb11, hsz, hb12, hx3, hb13, haa, hb14, hstay, hb15, hfst, hb16, hkk, hb17]
       simp (disch := first | omega | (simp only [go_sem] <;> omega)) only [wrapI, wrapU, appX_exact, appX_tok]
       try simp only [go_sem, ldS_at hd, stX_at hd, ldS_sv hlt, stX_sv hlt, sv_ext hlt, sv_ext_sv hlt, hx0, hb1, hsteps, hb2, hn, hb3, hm1, hb7, hgg, hb10, hx2, hb11, hsz, hb12, hx3, hb13, haa, hb14, hstay, hb15, hfst, hb16, hkk, hb17]
       refine hR _ _ (kq19 _ _ ?_); clear hR R; try clear kq19 kz19
       try simp only [go_sem, ldS_at hd, stX_at hd, ldS_sv hlt, stX_sv hlt, sv_ext hlt, sv_ext_sv hlt, hx0, hb1, hsteps, hb2, hn, hb3, hm1, hb7, hgg, hb10, hx2, hb11, hsz, hb12, hx3, hb13, haa, hb14, hstay, hb15, hfst, hb16, hkk, hb17]
       refine W_region [0, 8, 9, 10, 14] fun R hR => ?_
       simp only [go_sem, ldS_at hd, stX_at hd, ldS_sv hlt, stX_sv hlt, sv_ext hlt, sv_ext_sv hlt, hx0, hb1, hsteps, hb2, hn, hb3, hm1, hb7, hgg, hb10, hx2, hb11, hsz, hb12, hx3, hb13, haa, hb14, hstay, hb15, hfst, hb16, hkk, hb17]
       try simp (disch := omega) only [wrapI, wrapU]
       refine hR _ _ ?_; clear hR R
       try simp only [go_sem, ldS_at hd, stX_at hd, ldS_sv hlt, stX_sv hlt, sv_ext hlt, sv_ext_sv hlt, hx0, hb1, hsteps, hb2, hn, hb3, hm1, hb7, hgg, hb10, hx2, hb11, hsz, hb12, hx3, hb13, haa, hb14, hstay, hb15, hfst, hb16, hkk, hb17]
       refine ⟨(k2, acg ++ [gres.1], bp), ?_, by (try simp only []); omega, ?_⟩
       ·refine Weak.trans (Weak.cutSV 2 3 (by omega) (by omega) hcl (by simp only [go_sem]) (by simp only [go_sem] <;> omega) (by simp only [go_sem] <;> omega)) ?_
        simp only [go_sem]
        rw [hg3]
        exact Weak.eq (by first | rfl | (simp only [go_sem]; done) | (simp [go_sem]; done) | (simp [go_sem]; omega)) (by first | rfl | (simp only [go_sem]; done) | (simp [go_sem]; done))
       ·try dsimp only
        refine ⟨by simp; omega, ?_⟩
        rw [hinv, hg3]
     ·simp only [go_sem, ldS_at hd, stX_at hd, ldS_sv hlt, stX_sv hlt, sv_ext hlt, sv_ext_sv hlt, hx0, hb1, hsteps, hb2, hn, hb3, hm1, hb7, hgg, hb10, hx2, hb11, hsz, hb12, hx3, hb13, haa, hb14, hstay, hb15, hfst, hb16, hkk, hb17]
      refine GWant_split (fun g1 => ?_) (fun g1 => ?_)
      ·try simp only [Bool.not_eq_true', Bool.not_eq_false'] at g1
       have n1 := g1; try simp only [nrm] at n1
       simp only [go_sem, ldS_at hd, stX_at hd, ldS_sv hlt, stX_sv hlt, sv_ext hlt, sv_ext_sv hlt, hx0, hb1, hsteps, hb2, hn, hb3, hm1, hb7, hgg, hb10, hx2, hb11, hsz, hb12, hx3, hb13, haa, hb14, hstay, hb15, hfst, hb16, hkk, hb17, g1]
       refine hR _ ?_
       try simp only [go_sem, ldS_at hd, stX_at hd, ldS_sv hlt, stX_sv hlt, sv_ext hlt, sv_ext_sv hlt, hx0, hb1, hsteps, hb2, hn, hb3, hm1, hb7, hgg, hb10, hx2, hb11, hsz, hb12, hx3, hb13, haa, hb14, hstay, hb15, hfst, hb16, hkk, hb17]
       all_goals
        first | rfl | (simp [*]; done) | (simp [*]; omega)
      ·try simp only [Bool.not_eq_true', Bool.not_eq_false'] at g1
       have n1 := g1; try simp only [nrm] at n1
       simp only [go_sem, ldS_at hd, stX_at hd, ldS_sv hlt, stX_sv hlt, sv_ext hlt, sv_ext_sv hlt, hx0, hb1, hsteps, hb2, hn, hb3, hm1, hb7, hgg, hb10, hx2, hb11, hsz, hb12, hx3, hb13, haa, hb14, hstay, hb15, hfst, hb16, hkk, hb17, g1]
       refine hR _ ?_
       try simp only [go_sem, ldS_at hd, stX_at hd, ldS_sv hlt, stX_sv hlt, sv_ext hlt, sv_ext_sv hlt, hx0, hb1, hsteps, hb2, hn, hb3, hm1, hb7, hgg, hb10, hx2, hb11, hsz, hb12, hx3, hb13, haa, hb14, hstay, hb15, hfst, hb16, hkk, hb17]
       all_goals
        first | rfl | (simp [*]; done) | (simp [*]; omega)
    ·
     try simp only [nrm] at c3
     obtain rfl : k2 = 0 := by omega
     simp only [townC, dret] at hinv
     refine W_exit ?_
     simp only [go_sem, ldS_at hd, stX_at hd, ldS_sv hlt, stX_sv hlt, sv_ext hlt, sv_ext_sv hlt, hx0, hb1, hsteps, hb2, hn, hb3, hm1, hb7, hgg, hb10]
     refine kq15 _ _ ?_
     refine W_seq fun kz30 kq30 => ?_
     refine W_region [8] fun R hR => ?_
     simp only [go_sem, ldS_at hd, stX_at hd, ldS_sv hlt, stX_sv hlt, sv_ext hlt, sv_ext_sv hlt, hx0, hb1, hsteps, hb2, hn, hb3, hm1, hb7, hgg, hb10]
     refine hR _ _ (kq30 _ _ ?_); clear hR R; try clear kq30 kz30
     try simp only [go_sem, ldS_at hd, stX_at hd, ldS_sv hlt, stX_sv hlt, sv_ext hlt, sv_ext_sv hlt, hx0, hb1, hsteps, hb2, hn, hb3, hm1, hb7, hgg, hb10]
     refine W_ret ?_
     simp only [go_sem, ldS_at hd, stX_at hd, ldS_sv hlt, stX_sv hlt, sv_ext hlt, sv_ext_sv hlt, hx0, hb1, hsteps, hb2, hn, hb3, hm1, hb7, hgg, hb10]
     refine ⟨.inr (by trivial), ?_⟩
     rw [hinv]; refine Fin_set hcl (by simp only [go_sem]) (by show resPV Tryz.prog _ _ [.cell 8 26] = some _; simp only [resPV, go_sem]; rfl) (Wk.ro (by simp only [go_sem]) ?_)
     try simp only [go_sem]
     all_goals
      simp only [go_sem]
  ·simp only [go_sem, ldS_at hd, stX_at hd, ldS_sv hlt, stX_sv hlt, sv_ext hlt, sv_ext_sv hlt, hx0, hb1, hsteps, hb2, hn, hb3, hm1, hb7]
   refine GWant_split (fun g2 => ?_) (fun g2 => ?_)
   ·try simp only [Bool.not_eq_true', Bool.not_eq_false'] at g2
    have n2 := g2; try simp only [nrm] at n2
    simp only [go_sem, ldS_at hd, stX_at hd, ldS_sv hlt, stX_sv hlt, sv_ext hlt, sv_ext_sv hlt, hx0, hb1, hsteps, hb2, hn, hb3, hm1, hb7, g2]
    refine hR _ ?_
    try simp only [go_sem, ldS_at hd, stX_at hd, ldS_sv hlt, stX_sv hlt, sv_ext hlt, sv_ext_sv hlt, hx0, hb1, hsteps, hb2, hn, hb3, hm1, hb7]
    all_goals
     first | rfl | (simp [*]; done) | (simp [*]; omega)
   ·try simp only [Bool.not_eq_true', Bool.not_eq_false'] at g2
    have n2 := g2; try simp only [nrm] at n2
    simp only [go_sem, ldS_at hd, stX_at hd, ldS_sv hlt, stX_sv hlt, sv_ext hlt, sv_ext_sv hlt, hx0, hb1, hsteps, hb2, hn, hb3, hm1, hb7, g2]
    refine hR _ ?_
    try simp only [go_sem, ldS_at hd, stX_at hd, ldS_sv hlt, stX_sv hlt, sv_ext hlt, sv_ext_sv hlt, hx0, hb1, hsteps, hb2, hn, hb3, hm1, hb7]
    all_goals
     first | rfl | (simp [*]; done) | (simp [*]; omega)
end Go.Proofs.YteklodljdndcoaaGreatDoor
namespace Go.Proofs.YteklodljdndcoaaGreatDoor
open Go Go.RowKit
structure GroupV (n : Nat) (sts : List (Int × Int)) (g : Group) : Prop where
  s1 : 0 ≤ g.slo
  s2 : g.slo ≤ g.shi
  s3 : g.shi ≤ 1000000
  a1 : 0 ≤ g.alo
  a2 : g.alo ≤ g.ahi
  a3 : g.ahi ≤ 96
  t1 : 1 ≤ g.stay
  t2 : g.stay ≤ 96
  f1 : 0 ≤ g.first
  f2 : g.first < n
  p1 : g.path.length ≤ 4
  p2 : chkPath sts g.path g.first = 0
def StreetV (n : Nat) (s : Int × Int) : Prop := 0 ≤ s.1 ∧ s.1 < n ∧ 0 ≤ s.2 ∧ s.2 < n ∧ s.1 ≠ s.2
structure TownV (sq st gr : Nat) (t : Town) : Prop where
  r0 : 1 ≤ t.rooms.length
  r1 : t.rooms.length ≤ sq
  r2 : ∀ r, r ∈ t.rooms → 0 ≤ r ∧ r ≤ 500
  s1 : t.streets.length ≤ st
  s2 : ∀ s, s ∈ t.streets → StreetV t.rooms.length s
  w1 : 0 ≤ t.steps
  w2 : t.steps ≤ 96
  g1 : t.groups.length ≤ gr
  g2 : ∀ g, g ∈ t.groups → GroupV t.rooms.length t.streets g
def pathEnd (sts : List (Int × Int)) : List Int → Int → Int
  | [], a => a
  | s :: r, a => pathEnd sts r (other ((sts[s.toNat]?).getD (0, 0)) a)
theorem chkPath_snoc {sts : List (Int × Int)} {s : Int} (h1 : 0 ≤ s) (h2 : s < sts.length) : ∀ (p : List Int) (a : Int), chkPath sts p a = 0 → 0 ≤ other ((sts[s.toNat]?).getD (0, 0)) (pathEnd sts p a) →
    chkPath sts (p ++ [s]) a = 0 ∧ pathEnd sts (p ++ [s]) a = other ((sts[s.toNat]?).getD (0, 0)) (pathEnd sts p a) := by
  intro p
  induction p with
  | nil =>
    intro a _ ho
    obtain ⟨x, hx⟩ : ∃ x, sts[s.toNat]? = some x := ⟨_, List.getElem?_eq_getElem (by omega)⟩
    simp only [hx, Option.getD_some, pathEnd] at ho
    simp only [List.nil_append, chkPath, pathEnd, hx, Option.getD_some]
    rw [if_neg (by simp [inR]; omega), if_neg (by omega)]
    exact ⟨by simp [chkPath], trivial⟩
  | cons y r ih =>
    intro a hc ho
    simp only [List.cons_append, chkPath, pathEnd] at hc ho ⊢
    by_cases hy : (!inR y 0 ((sts.length : Int) - 1)) = true
    · rw [if_pos hy] at hc; cases hc
    · rw [if_neg hy] at hc ⊢
      cases hs : sts[y.toNat]? with
      | none => rw [hs] at hc; cases hc
      | some z =>
        rw [hs] at hc ho
        simp only [Option.getD_some] at hc ho ⊢
        by_cases hz : other z a < 0
        · rw [if_pos hz] at hc; cases hc
        · rw [if_neg hz] at hc ⊢
          exact ih _ hc ho
theorem pathD_ok {n : Nat} {sts : List (Int × Int)} {g : Group} (hg : GroupV n sts { g with path := [] }) : ∀ (k : Nat) (a : Int) (acc : List Int), (k ≠ 0 → 0 < sts.length) → acc.length + k ≤ 4 → chkPath sts acc g.first = 0 → pathEnd sts acc g.first = a →
    Holds (pathD sts g k a acc) (GroupV n sts) := by
  intro k
  induction k with
  | zero =>
    intro a acc _ hl hc _
    exact .ret ⟨hg.s1, hg.s2, hg.s3, hg.a1, hg.a2, hg.a3, hg.t1, hg.t2, hg.f1, hg.f2, by simpa using hl, hc⟩
  | succ k ih =>
    intro a acc h0 hl hc he
    have hs := h0 (by omega)
    refine (roll_bd sts.length).bind fun s hsb => ?_
    split
    · rename_i ho
      obtain ⟨q1, q2⟩ := chkPath_snoc (s := s) (by omega) (by omega) acc g.first hc (by rw [he]; exact ho)
      exact ih _ _ (fun _ => hs) (by simp; omega) q1 (by rw [q2, he])
    · exact ih _ _ (fun _ => hs) (by omega) hc he
theorem groupD_ok {n : Nat} (hn : 1 ≤ n) (sts : List (Int × Int)) : Holds (groupD n sts) (GroupV n sts) := by
  unfold groupD
  refine (anyOf_mem [30, 90] (by simp)).bind fun x hx => ?_
  have hx := mem2 hx
  refine (spanOf_bd 0 x (by omega)).bind fun sz hsz => ?_
  refine (anyOf_mem [0, 4] (by simp)).bind fun y hy => ?_
  have hy := mem2 hy
  refine (spanOf_bd 0 y (by omega)).bind fun a ha => ?_
  refine (mid_bd 1 4 (by omega)).bind fun st hst => ?_
  refine (roll_bd n).bind fun f hf => ?_
  refine (roll_bd 5).bind fun k hk => ?_
  refine pathD_ok ⟨by (try dsimp only); omega, by (try dsimp only); omega, by (try dsimp only); omega, by (try dsimp only); omega, by (try dsimp only); omega, by (try dsimp only); omega, by (try dsimp only); omega, by (try dsimp only); omega, by (try dsimp only); omega, by (try dsimp only); omega, by simp, rfl⟩ _ _ _ (fun h => ?_) ?_ rfl rfl
  · split at h
    · assumption
    · exact absurd rfl h
  · split <;> simp <;> omega
theorem fit_street {a m n : Int} (ha : 0 ≤ a) (ha2 : a < n) (hm : 1 ≤ m) (hm2 : m ≤ n - 1) : 0 ≤ fit (a + m) n ∧ fit (a + m) n < n ∧ a ≠ fit (a + m) n := by
  have hb := fit_bd (a + m) n
  have e : fit (a + m) n = (a + m) % n := by
    unfold fit
    rw [if_neg (by omega), Int.tmod_eq_emod_of_nonneg (by omega), if_neg (by have := Int.emod_nonneg (a + m) (show n ≠ 0 by omega); omega)]
  refine ⟨by omega, by omega, ?_⟩
  rw [e]
  by_cases h : a + m < n
  · rw [Int.emod_eq_of_lt (by omega) h]; omega
  · have : (a + m) % n = a + m - n := by
      rw [← Int.sub_emod_right, Int.emod_eq_of_lt (by omega) (by omega)]
    omega
theorem townC_ok {sq st gr : Nat} {steps : Int} {rooms : List Int} {sts : List (Int × Int)} (hr0 : 1 ≤ rooms.length) (hr1 : rooms.length ≤ sq) (hr2 : ∀ r, r ∈ rooms → 0 ≤ r ∧ r ≤ 500) (hs1 : sts.length ≤ st) (hs2 : ∀ s, s ∈ sts → StreetV rooms.length s)
    (hw1 : 0 ≤ steps) (hw2 : steps ≤ 96) : ∀ (k : Nat) (acc : List Group), acc.length + k ≤ gr → (∀ g, g ∈ acc → GroupV rooms.length sts g) → Holds (townC steps rooms.length rooms sts k acc) (TownV sq st gr) := by
  intro k
  induction k with
  | zero => intro acc hl hg; exact .ret ⟨hr0, hr1, hr2, hs1, hs2, hw1, hw2, by simpa using hl, hg⟩
  | succ k ih =>
    intro acc hl hg
    refine (groupD_ok hr0 sts).bind fun g hgv => ih _ (by simp; omega) fun x hx => ?_
    rcases List.mem_append.1 hx with hx | hx
    · exact hg x hx
    · simp only [List.mem_singleton] at hx; subst hx; exact hgv
theorem townB_ok {sq st gr : Nat} {steps : Int} {rooms : List Int} (hr0 : 1 ≤ rooms.length) (hr1 : rooms.length ≤ sq) (hr2 : ∀ r, r ∈ rooms → 0 ≤ r ∧ r ≤ 500) (hw1 : 0 ≤ steps) (hw2 : steps ≤ 96) : ∀ (k : Nat) (acc : List (Int × Int)), (k ≠ 0 → 1 < rooms.length) → acc.length + k ≤ st →
    (∀ s, s ∈ acc → StreetV rooms.length s) → Holds (townB gr steps rooms.length rooms k acc) (TownV sq st gr) := by
  intro k
  induction k with
  | zero =>
    intro acc _ hl hs
    refine (roll_bd (gr + 1)).bind fun g hg => ?_
    exact townC_ok hr0 hr1 hr2 (by simpa using hl) hs hw1 hw2 _ [] (by simp; omega) (fun g hg => by cases hg)
  | succ k ih =>
    intro acc h1 hl hs
    have hn := h1 (by omega)
    refine (roll_bd rooms.length).bind fun a ha => (mid_bd 1 ((rooms.length : Int) - 1) (by omega)).bind fun m hm => ih _ (fun _ => hn) (by simp; omega) fun x hx => ?_
    rcases List.mem_append.1 hx with hx | hx
    · exact hs x hx
    · simp only [List.mem_singleton] at hx; subst hx
      have := fit_street (a := a) (m := m) (n := rooms.length) (by omega) (by omega) (by omega) (by omega)
      exact ⟨by (try dsimp only); omega, by (try dsimp only); omega, this.1, this.2.1, this.2.2⟩
theorem townA_ok {sq st gr : Nat} {steps : Int} {n : Nat} (hn : 1 ≤ n) (hn2 : n ≤ sq) (hw1 : 0 ≤ steps) (hw2 : steps ≤ 96) : ∀ (k : Nat) (acc : List Int), acc.length + k = n → (∀ r, r ∈ acc → 0 ≤ r ∧ r ≤ 500) → Holds (townA st gr steps n k acc) (TownV sq st gr) := by
  intro k
  induction k with
  | zero =>
    intro acc hl hr
    have hl : acc.length = n := by simpa using hl
    subst hl
    refine (roll_bd (st + 1)).bind fun m hm => ?_
    refine townB_ok hn hn2 hr hw1 hw2 _ [] (fun h => ?_) ?_ (fun s hs => by cases hs)
    · split at h
      · omega
      · exact absurd rfl h
    · split <;> simp <;> omega
  | succ k ih =>
    intro acc hl hr
    refine (roll_bd 60).bind fun x hx => (roll_bd 150).bind fun y hy => (anyOf_mem [x, y, 500] (by simp)).bind fun z hz => ih _ (by simp; omega) fun w hw => ?_
    have hz := mem3 hz
    rcases List.mem_append.1 hw with hw | hw
    · exact hr w hw
    · simp only [List.mem_singleton] at hw; subst hw; omega
theorem townD_ok {sq st gr : Nat} (h : 1 ≤ sq) : Holds (townD sq st gr) (TownV sq st gr) := by
  unfold townD
  refine (anyOf_mem [4, 11] (by simp)).bind fun x hx => (roll_bd x).bind fun steps hst => (mid_bd 1 sq (by omega)).bind fun n hn => ?_
  have hx := mem2 hx
  obtain ⟨m, rfl⟩ : ∃ m : Nat, n = (m : Int) := ⟨n.toNat, by omega⟩
  rw [Int.toNat_natCast]
  exact townA_ok (by omega) (by omega) (by omega) (by omega) m [] (by simp) (fun r hr => by cases hr)
end Go.Proofs.YteklodljdndcoaaGreatDoor
namespace Go.Proofs.YteklodljdndcoaaGreatDoor
open Go Go.RowKit
set_option maxRecDepth 100000
def cityA (t : Town) (brk : Int) : Nat → List Int → D City
  | 0, acc => dret ⟨t, brk, acc⟩
  | k + 1, acc => dbind (roll 721) fun x => dbind (mid 300 600) fun y => dbind (anyOf [0, x, y]) fun z => cityA t brk k (acc ++ [z])
def cityD : D City := dbind (townD 4 5 1) fun t => dbind (roll 10) fun x => dbind (roll 60) fun y => dbind (anyOf [0, 1, x, y]) fun brk => cityA t brk t.rooms.length []
def bandP (sts : List (Int × Int)) (first stay people : Int) : Nat → Int → List Int → D Band
  | 0, _, acc => dbind (anyOf [60, 200, 720 - stay * ((acc.length : Int) + 1) - 4]) fun m => dbind (roll m) fun start => dbind (roll 5) fun z => dbind (anyOf [0, 0, z]) fun more => dret ⟨first, acc, start, start + more, stay, people⟩
  | k + 1, at', acc => dbind (roll sts.length) fun s => if 0 ≤ other ((sts[s.toNat]?).getD (0, 0)) at' then bandP sts first stay people k (other ((sts[s.toNat]?).getD (0, 0)) at') (acc ++ [s]) else bandP sts first stay people k at' acc
def bandD (c : City) : D Band := dbind (roll c.town.rooms.length) fun first => dbind (anyOf [6, 20]) fun q => dbind (mid 1 q) fun stay => dbind (roll 60) fun x => dbind (roll 600) fun y => dbind (anyOf [0, x, y]) fun people => dbind (roll 5) fun k =>
  bandP c.town.streets first stay people (if 0 < c.town.streets.length then k.toNat else 0) first []
def bandsA (c : City) : Nat → List Band → D (List Band)
  | 0, acc => dret acc
  | k + 1, acc => dbind (bandD c) fun x => bandsA c k (acc ++ [x])
def bandsD (c : City) (most : Int) : D (List Band) := dbind (roll (most + 1)) fun k => bandsA c k.toNat []
theorem dbind_ap {α β : Type} (m : D α) (f : α → D β) (b : Int) : dbind m f b = f (m b).1 (m b).2 := Eq.trans rfl rfl
theorem townD451 (b : Int) : TownV 4 5 1 (townD 4 5 1 b).1 := townD_ok (sq := 4) (st := 5) (gr := 1) (by omega) b
theorem mem4 {a b c d r : Int} (h : r ∈ [a, b, c, d]) : r = a ∨ r = b ∨ r = c ∨ r = d := by simpa using h
set_option maxHeartbeats 4000000 in
theorem CityOf_pc (Y : YEnv) (σ : Sg) (d : Nat) (b : Int) (hd : σ.store[d]? = some (some [.int .u64 b])) :
  PC Tryz.prog Y 8 [.ptr d 0] σ (ctPV (cityD b).1) (σ.setVar d [.int .u64 (cityD b).2]) := by
 refine PC_of_W Tryz.func8 rfl (by kernel_rfl) Tryz.ntmps8 (by simp) fun hcl hca => ?_
 have hlt := lt_of_get hd
 obtain ⟨res, hres⟩ : ∃ r, cityD b = r := ⟨_, rfl⟩
 rw [hres]
 obtain ⟨t, ht⟩ : ∃ zz, (townD 4 5 1 b).1 = zz := ⟨_, rfl⟩
 obtain ⟨b1, hb1⟩ : ∃ zz, (townD 4 5 1 b).2 = zz := ⟨_, rfl⟩
 have dt := townD451 b
 rw [ht] at dt
 obtain ⟨x1, hx1⟩ : ∃ zz, (roll 10 b1).1 = zz := ⟨_, rfl⟩
 obtain ⟨b2, hb2⟩ : ∃ zz, (roll 10 b1).2 = zz := ⟨_, rfl⟩
 have dx1 := roll_bd 10 b1
 simp only [hx1] at dx1
 obtain ⟨x2, hx2⟩ : ∃ zz, (roll 60 b2).1 = zz := ⟨_, rfl⟩
 obtain ⟨b3, hb3⟩ : ∃ zz, (roll 60 b2).2 = zz := ⟨_, rfl⟩
 have dx2 := roll_bd 60 b2
 simp only [hx2] at dx2
 obtain ⟨brk, hbrk⟩ : ∃ zz, (anyOf [0, 1, x1, x2] b3).1 = zz := ⟨_, rfl⟩
 obtain ⟨b4, hb4⟩ : ∃ zz, (anyOf [0, 1, x1, x2] b3).2 = zz := ⟨_, rfl⟩
 have dbrk := anyOf_mem [0, 1, x1, x2] (by simp) b3
 simp only [hbrk] at dbrk
 have d4 := mem4 dbrk
 have hr1 := dt.r1
 unfold cityD at hres
 simp only [dbind_ap, ht, hb1, hx1, hb2, hx2, hb3, hbrk, hb4] at hres
 refine W_seq fun kz1 kq1 => ?_
 refine W_region [0, 2] fun R hR => ?_
 simp only [go_sem, ldS_at hd, stX_at hd, ldS_sv hlt, stX_sv hlt, sv_ext hlt, sv_ext_sv hlt, ht, hb1, hx1, hb2, hx2, hb3, hbrk, hb4]
 refine hR _ _ (kq1 _ _ ?_); clear hR R; try clear kq1 kz1
 try simp only [go_sem, ldS_at hd, stX_at hd, ldS_sv hlt, stX_sv hlt, sv_ext hlt, sv_ext_sv hlt, ht, hb1, hx1, hb2, hx2, hb3, hbrk, hb4]
 refine W_seq fun kz2 kq2 => ?_
 refine W_region [0, 2, 3] fun R hR => ?_
 simp only [go_sem, ldS_at hd, stX_at hd, ldS_sv hlt, stX_sv hlt, sv_ext hlt, sv_ext_sv hlt, ht, hb1, hx1, hb2, hx2, hb3, hbrk, hb4]
 refine GCall_of (TownOf_pc Y _ d b (by first | exact hd | exact sv_get hlt | exact get_svx hlt | exact get_extx hd) 4 5 1 (by omega) (by omega) (by omega) (by omega) (by omega) (by omega)) ?_
 simp only [go_sem, ldS_at hd, stX_at hd, ldS_sv hlt, stX_sv hlt, sv_ext hlt, sv_ext_sv hlt, ht, hb1, hx1, hb2, hx2, hb3, hbrk, hb4]
 refine GCall_of (Roll_pc Y _ d b1 (by first | exact hd | exact sv_get hlt | exact get_svx hlt | exact get_extx hd) 10 (by omega)) ?_
 simp only [go_sem, ldS_at hd, stX_at hd, ldS_sv hlt, stX_sv hlt, sv_ext hlt, sv_ext_sv hlt, ht, hb1, hx1, hb2, hx2, hb3, hbrk, hb4]
 refine GCall_of (Roll_pc Y _ d b2 (by first | exact hd | exact sv_get hlt | exact get_svx hlt | exact get_extx hd) 60 (by omega)) ?_
 simp only [go_sem, ldS_at hd, stX_at hd, ldS_sv hlt, stX_sv hlt, sv_ext hlt, sv_ext_sv hlt, ht, hb1, hx1, hb2, hx2, hb3, hbrk, hb4]
 refine GCall_of (Any_pc Y _ d b3 (by first | exact hd | exact sv_get hlt | exact get_svx hlt | exact get_extx hd) [0, 1, x1, x2] (by simp) (by simp)) ?_
 simp only [go_sem, ldS_at hd, stX_at hd, ldS_sv hlt, stX_sv hlt, sv_ext hlt, sv_ext_sv hlt, ht, hb1, hx1, hb2, hx2, hb3, hbrk, hb4]
 refine hR _ _ (kq2 _ _ ?_); clear hR R; try clear kq2 kz2
 try simp only [go_sem, ldS_at hd, stX_at hd, ldS_sv hlt, stX_sv hlt, sv_ext hlt, sv_ext_sv hlt, ht, hb1, hx1, hb2, hx2, hb3, hbrk, hb4]
 refine W_seq fun kz3 kq3 => ?_
 refine W_seq fun kz4 kq4 => ?_
 refine W_region [0, 2, 3, 4] fun R hR => ?_
 simp only [go_sem, ldS_at hd, stX_at hd, ldS_sv hlt, stX_sv hlt, sv_ext hlt, sv_ext_sv hlt, ht, hb1, hx1, hb2, hx2, hb3, hbrk, hb4]
 refine hR _ _ (kq4 _ _ ?_); clear hR R; try clear kq4 kz4
 try simp only [go_sem, ldS_at hd, stX_at hd, ldS_sv hlt, stX_sv hlt, sv_ext hlt, sv_ext_sv hlt, ht, hb1, hx1, hb2, hx2, hb3, hbrk, hb4]
 refine W_block ?_
 refine W_weak (Weak.roomSV (j := 1) (off := 5) (es := 1) rfl rfl (by simp)) ?_
 simp only [go_sem, ldS_at hd, stX_at hd, ldS_sv hlt, stX_sv hlt, sv_ext hlt, sv_ext_sv hlt, ht, hb1, hx1, hb2, hx2, hb3, hbrk, hb4]
 refine W_loopT (α := Nat × (List Int) × Int) (fun ⟨i, acc, b⟩ => [(4, I i)]) (fun ⟨i, acc, b⟩ => (σ.setVar d [.int .u64 b]).ext [some [.isl [] .exact, .isl [] .exact, .isl [] .exact, I 0, I 0, .isl [] .exact], some [ints t.rooms, .isl (t.streets.map stPV) .ro, .isl (t.groups.map grPV) .ro, I t.steps, I brk, .isl (acc.map I) (.tok σ.rooms.length acc.length 1)]] [acc.length]) (fun ⟨i, acc, b⟩ => i ≤ t.rooms.length ∧ acc.length = i ∧ res = cityA t brk (t.rooms.length - i) acc b) (fun ⟨i, acc, b⟩ => t.rooms.length - i) ((0, [], b4)) rfl (by first | rfl | (simp only [go_sem]; done) | (simp only [go_sem]; rfl)) (⟨Nat.zero_le _, rfl, hres.symm⟩) ?_
 rintro ⟨i, acc, b⟩ ⟨hi, hal, hinv⟩
 refine W_seq fun kz5 kq5 => ?_
 refine W_seq fun kz6 kq6 => ?_
 refine W_region [0, 2, 3, 4, 20] fun R hR => ?_
 simp only [go_sem, ldS_at hd, stX_at hd, ldS_sv hlt, stX_sv hlt, sv_ext hlt, sv_ext_sv hlt, ht, hb1, hx1, hb2, hx2, hb3, hbrk, hb4]
 refine hR _ _ (kq6 _ _ ?_); clear hR R; try clear kq6 kz6
 try simp only [go_sem, ldS_at hd, stX_at hd, ldS_sv hlt, stX_sv hlt, sv_ext hlt, sv_ext_sv hlt, ht, hb1, hx1, hb2, hx2, hb3, hbrk, hb4]
 refine W_cond rfl (fun c1 => ?_) (fun c1 => ?_)
 ·
  try simp only [nrm] at c1
  rw [show t.rooms.length - i = (t.rooms.length - (i + 1)) + 1 by omega] at hinv
  obtain ⟨x, hx⟩ : ∃ zz, (roll 721 b).1 = zz := ⟨_, rfl⟩
  obtain ⟨b5, hb5⟩ : ∃ zz, (roll 721 b).2 = zz := ⟨_, rfl⟩
  have dx := roll_bd 721 b
  simp only [hx] at dx
  obtain ⟨y, hy⟩ : ∃ zz, (mid 300 600 b5).1 = zz := ⟨_, rfl⟩
  obtain ⟨b6, hb6⟩ : ∃ zz, (mid 300 600 b5).2 = zz := ⟨_, rfl⟩
  have dy := mid_bd 300 600 (by omega) b5
  simp only [hy] at dy
  obtain ⟨z, hz⟩ : ∃ zz, (anyOf [0, x, y] b6).1 = zz := ⟨_, rfl⟩
  obtain ⟨b7, hb7⟩ : ∃ zz, (anyOf [0, x, y] b6).2 = zz := ⟨_, rfl⟩
  have dz := anyOf_mem [0, x, y] (by simp) b6
  simp only [hz] at dz
  simp only [cityA, dbind, hx, hb5, hy, hb6, hz, hb7] at hinv
  refine W_skip (kq5 _ _ ?_)
  refine W_seq fun kz7 kq7 => ?_
  refine W_block ?_
  refine W_draw [0, 2, 3, 4] [0, 1, 2, 3, 4, 5, 6, 7, 8, 9, 10, 11, 12] [(0, 6), (0, 8), (0, 10), (1, 6), (1, 8), (1, 10), (2, 6), (2, 8), (5, 4)] [[], [0], [], [], [3], [], [3, 4, 5], [3, 4, 5, 6], [2, 3, 4, 5, 6, 7], [2, 3, 4, 5, 6, 7, 8], [0, 1, 2, 3, 4, 5, 6, 7, 8, 9], [0, 1, 2, 3, 4, 5, 6, 7, 8, 9, 10], [0, 1, 2, 3, 4, 5, 6, 7, 8, 9, 10, 11]] mixed (by kernel_rfl) fun R hR => ?_
  simp only [go_sem, ldS_at hd, stX_at hd, ldS_sv hlt, stX_sv hlt, sv_ext hlt, sv_ext_sv hlt, ht, hb1, hx1, hb2, hx2, hb3, hbrk, hb4, hx, hb5, hy, hb6, hz, hb7]
  refine GCall_of (Roll_pc Y _ d b (by first | exact hd | exact sv_get hlt | exact get_svx hlt | exact get_extx hd) 721 (by omega)) ?_
  simp only [go_sem, ldS_at hd, stX_at hd, ldS_sv hlt, stX_sv hlt, sv_ext hlt, sv_ext_sv hlt, ht, hb1, hx1, hb2, hx2, hb3, hbrk, hb4, hx, hb5, hy, hb6, hz, hb7]
  refine GCall_of (Mid_pc Y _ d b5 (by first | exact hd | exact sv_get hlt | exact get_svx hlt | exact get_extx hd) 300 600 (by omega) (by omega) (by omega) (by omega)) ?_
  simp only [go_sem, ldS_at hd, stX_at hd, ldS_sv hlt, stX_sv hlt, sv_ext hlt, sv_ext_sv hlt, ht, hb1, hx1, hb2, hx2, hb3, hbrk, hb4, hx, hb5, hy, hb6, hz, hb7]
  refine GCall_of (Any_pc Y _ d b6 (by first | exact hd | exact sv_get hlt | exact get_svx hlt | exact get_extx hd) [0, x, y] (by simp) (by simp)) ?_
  simp only [go_sem, ldS_at hd, stX_at hd, ldS_sv hlt, stX_sv hlt, sv_ext hlt, sv_ext_sv hlt, ht, hb1, hx1, hb2, hx2, hb3, hbrk, hb4, hx, hb5, hy, hb6, hz, hb7]
  simp (disch := first | omega | (simp only [go_sem] <;> omega)) only [wrapI, wrapU, appX_exact, appX_tok]
  try simp only [go_sem, ldS_at hd, stX_at hd, ldS_sv hlt, stX_sv hlt, sv_ext hlt, sv_ext_sv hlt, ht, hb1, hx1, hb2, hx2, hb3, hbrk, hb4, hx, hb5, hy, hb6, hz, hb7]
  try refine And.intro (by repeat' (first | refine And.intro ?_ ?_ | exact GOr_right (fun _ => by simp only [go_sem, ldS_at hd, stX_at hd, ldS_sv hlt, stX_sv hlt, sv_ext hlt, sv_ext_sv hlt, ht, hb1, hx1, hb2, hx2, hb3, hbrk, hb4, hx, hb5, hy, hb6, hz, hb7]))) ?_
  refine hR _ _ (kq7 _ _ ?_); clear hR R; try clear kq7 kz7
  try simp only [go_sem, ldS_at hd, stX_at hd, ldS_sv hlt, stX_sv hlt, sv_ext hlt, sv_ext_sv hlt, ht, hb1, hx1, hb2, hx2, hb3, hbrk, hb4, hx, hb5, hy, hb6, hz, hb7]
  refine W_region [0, 2, 3, 4] fun R hR => ?_
  simp only [go_sem, ldS_at hd, stX_at hd, ldS_sv hlt, stX_sv hlt, sv_ext hlt, sv_ext_sv hlt, ht, hb1, hx1, hb2, hx2, hb3, hbrk, hb4, hx, hb5, hy, hb6, hz, hb7]
  try simp (disch := omega) only [wrapI, wrapU]
  refine hR _ _ ?_; clear hR R
  try simp only [go_sem, ldS_at hd, stX_at hd, ldS_sv hlt, stX_sv hlt, sv_ext hlt, sv_ext_sv hlt, ht, hb1, hx1, hb2, hx2, hb3, hbrk, hb4, hx, hb5, hy, hb6, hz, hb7]
  refine ⟨(i + 1, acc ++ [z], b7), ?_, by (try simp only []); omega, ?_⟩
  ·first | exact Weak.refl | exact Weak.eq (by first | rfl | (simp only [go_sem]; done) | (simp only [go_sem]; rfl) | (simp [go_sem]; done) | (simp [go_sem]; omega)) (by first | rfl | (simp only [go_sem]; done) | (simp [go_sem]; done))
  ·try dsimp only
   exact ⟨by omega, by simp; omega, hinv⟩
 ·
  try simp only [nrm] at c1
  rw [show t.rooms.length - i = 0 by omega] at hinv
  simp only [cityA, dret] at hinv
  refine W_exit ?_
  simp only [go_sem, ldS_at hd, stX_at hd, ldS_sv hlt, stX_sv hlt, sv_ext hlt, sv_ext_sv hlt, ht, hb1, hx1, hb2, hx2, hb3, hbrk, hb4]
  refine kq3 _ _ ?_
  refine W_seq fun kz8 kq8 => ?_
  refine W_region [2] fun R hR => ?_
  simp only [go_sem, ldS_at hd, stX_at hd, ldS_sv hlt, stX_sv hlt, sv_ext hlt, sv_ext_sv hlt, ht, hb1, hx1, hb2, hx2, hb3, hbrk, hb4]
  refine hR _ _ (kq8 _ _ ?_); clear hR R; try clear kq8 kz8
  try simp only [go_sem, ldS_at hd, stX_at hd, ldS_sv hlt, stX_sv hlt, sv_ext hlt, sv_ext_sv hlt, ht, hb1, hx1, hb2, hx2, hb3, hbrk, hb4]
  refine W_ret ?_
  simp only [go_sem, ldS_at hd, stX_at hd, ldS_sv hlt, stX_sv hlt, sv_ext hlt, sv_ext_sv hlt, ht, hb1, hx1, hb2, hx2, hb3, hbrk, hb4]
  refine ⟨.inr (by trivial), ?_⟩
  rw [hinv]; refine Fin_set hcl (by simp only [go_sem]) (by show resPV Tryz.prog _ _ [.cell 2 28] = some _; simp only [resPV, go_sem]; rfl) (Wk.ro (by simp only [go_sem]) ?_)
  try simp only [go_sem]
  all_goals
   simp only [go_sem]
set_option maxHeartbeats 4000000 in
theorem BandOf_pc (Y : YEnv) (σ : Sg) (d : Nat) (b : Int) (hd : σ.store[d]? = some (some [.int .u64 b])) (c : City) (hr : c.town.rooms.length < 2 ^ 40) (hs : c.town.streets.length < 2 ^ 40) :
  PC Tryz.prog Y 28 [.ptr d 0, ctPV c] σ (bdPV (bandD c b).1) (σ.setVar d [.int .u64 (bandD c b).2]) := by
 refine PC_of_W Tryz.func28 rfl (by kernel_rfl) Tryz.ntmps28 (by simp) fun hcl hca => ?_
 have hlt := lt_of_get hd
 obtain ⟨res, hres⟩ : ∃ r, bandD c b = r := ⟨_, rfl⟩
 rw [hres]
 obtain ⟨first, hfirst⟩ : ∃ zz, (roll c.town.rooms.length b).1 = zz := ⟨_, rfl⟩
 obtain ⟨b1, hb1⟩ : ∃ zz, (roll c.town.rooms.length b).2 = zz := ⟨_, rfl⟩
 have dfirst := roll_bd c.town.rooms.length b
 simp only [hfirst] at dfirst
 obtain ⟨q, hq⟩ : ∃ zz, (anyOf [6, 20] b1).1 = zz := ⟨_, rfl⟩
 obtain ⟨b2, hb2⟩ : ∃ zz, (anyOf [6, 20] b1).2 = zz := ⟨_, rfl⟩
 have dq := anyOf_mem [6, 20] (by simp) b1
 simp only [hq] at dq
 have dq2 := mem2 dq
 obtain ⟨stay, hstay⟩ : ∃ zz, (mid 1 q b2).1 = zz := ⟨_, rfl⟩
 obtain ⟨b3, hb3⟩ : ∃ zz, (mid 1 q b2).2 = zz := ⟨_, rfl⟩
 have dstay := mid_bd 1 q (by omega) b2
 simp only [hstay] at dstay
 obtain ⟨x1, hx1⟩ : ∃ zz, (roll 60 b3).1 = zz := ⟨_, rfl⟩
 obtain ⟨b4, hb4⟩ : ∃ zz, (roll 60 b3).2 = zz := ⟨_, rfl⟩
 have dx1 := roll_bd 60 b3
 simp only [hx1] at dx1
 obtain ⟨x2, hx2⟩ : ∃ zz, (roll 600 b4).1 = zz := ⟨_, rfl⟩
 obtain ⟨b5, hb5⟩ : ∃ zz, (roll 600 b4).2 = zz := ⟨_, rfl⟩
 have dx2 := roll_bd 600 b4
 simp only [hx2] at dx2
 obtain ⟨people, hpeople⟩ : ∃ zz, (anyOf [0, x1, x2] b5).1 = zz := ⟨_, rfl⟩
 obtain ⟨b6, hb6⟩ : ∃ zz, (anyOf [0, x1, x2] b5).2 = zz := ⟨_, rfl⟩
 have dpeople := anyOf_mem [0, x1, x2] (by simp) b5
 simp only [hpeople] at dpeople
 obtain ⟨kk, hkk⟩ : ∃ zz, (roll 5 b6).1 = zz := ⟨_, rfl⟩
 obtain ⟨b7, hb7⟩ : ∃ zz, (roll 5 b6).2 = zz := ⟨_, rfl⟩
 have dkk := roll_bd 5 b6
 simp only [hkk] at dkk
 have dp2 := mem3 dpeople
 simp only [bandD, dbind, hfirst, hb1, hq, hb2, hstay, hb3, hx1, hb4, hx2, hb5, hpeople, hb6, hkk, hb7] at hres
 have hkt : ((kk.toNat : Nat) : Int) = kk := by omega
 refine W_seq fun kz1 kq1 => ?_
 refine W_region [0, 3, 4] fun R hR => ?_
 simp only [go_sem, ldS_at hd, stX_at hd, ldS_sv hlt, stX_sv hlt, sv_ext hlt, sv_ext_sv hlt, hfirst, hb1, hq, hb2, hstay, hb3, hx1, hb4, hx2, hb5, hpeople, hb6, hkk, hb7]
 refine hR _ _ (kq1 _ _ ?_); clear hR R; try clear kq1 kz1
 try simp only [go_sem, ldS_at hd, stX_at hd, ldS_sv hlt, stX_sv hlt, sv_ext hlt, sv_ext_sv hlt, hfirst, hb1, hq, hb2, hstay, hb3, hx1, hb4, hx2, hb5, hpeople, hb6, hkk, hb7]
 refine W_seq fun kz2 kq2 => ?_
 refine W_region [0, 3, 4, 5] fun R hR => ?_
 simp only [go_sem, ldS_at hd, stX_at hd, ldS_sv hlt, stX_sv hlt, sv_ext hlt, sv_ext_sv hlt, hfirst, hb1, hq, hb2, hstay, hb3, hx1, hb4, hx2, hb5, hpeople, hb6, hkk, hb7]
 refine GCall_of (Roll_pc Y _ d b (by first | exact hd | exact sv_get hlt | exact get_svx hlt | exact get_extx hd) c.town.rooms.length (by omega)) ?_
 simp only [go_sem, ldS_at hd, stX_at hd, ldS_sv hlt, stX_sv hlt, sv_ext hlt, sv_ext_sv hlt, hfirst, hb1, hq, hb2, hstay, hb3, hx1, hb4, hx2, hb5, hpeople, hb6, hkk, hb7]
 refine GCall_of (Any_pc Y _ d b1 (by first | exact hd | exact sv_get hlt | exact get_svx hlt | exact get_extx hd) [6, 20] (by simp) (by simp)) ?_
 simp only [go_sem, ldS_at hd, stX_at hd, ldS_sv hlt, stX_sv hlt, sv_ext hlt, sv_ext_sv hlt, hfirst, hb1, hq, hb2, hstay, hb3, hx1, hb4, hx2, hb5, hpeople, hb6, hkk, hb7]
 refine GCall_of (Mid_pc Y _ d b2 (by first | exact hd | exact sv_get hlt | exact get_svx hlt | exact get_extx hd) 1 q (by omega) (by omega) (by omega) (by omega)) ?_
 simp only [go_sem, ldS_at hd, stX_at hd, ldS_sv hlt, stX_sv hlt, sv_ext hlt, sv_ext_sv hlt, hfirst, hb1, hq, hb2, hstay, hb3, hx1, hb4, hx2, hb5, hpeople, hb6, hkk, hb7]
 refine GCall_of (Roll_pc Y _ d b3 (by first | exact hd | exact sv_get hlt | exact get_svx hlt | exact get_extx hd) 60 (by omega)) ?_
 simp only [go_sem, ldS_at hd, stX_at hd, ldS_sv hlt, stX_sv hlt, sv_ext hlt, sv_ext_sv hlt, hfirst, hb1, hq, hb2, hstay, hb3, hx1, hb4, hx2, hb5, hpeople, hb6, hkk, hb7]
 refine GCall_of (Roll_pc Y _ d b4 (by first | exact hd | exact sv_get hlt | exact get_svx hlt | exact get_extx hd) 600 (by omega)) ?_
 simp only [go_sem, ldS_at hd, stX_at hd, ldS_sv hlt, stX_sv hlt, sv_ext hlt, sv_ext_sv hlt, hfirst, hb1, hq, hb2, hstay, hb3, hx1, hb4, hx2, hb5, hpeople, hb6, hkk, hb7]
 refine GCall_of (Any_pc Y _ d b5 (by first | exact hd | exact sv_get hlt | exact get_svx hlt | exact get_extx hd) [0, x1, x2] (by simp) (by simp)) ?_
 simp only [go_sem, ldS_at hd, stX_at hd, ldS_sv hlt, stX_sv hlt, sv_ext hlt, sv_ext_sv hlt, hfirst, hb1, hq, hb2, hstay, hb3, hx1, hb4, hx2, hb5, hpeople, hb6, hkk, hb7]
 refine hR _ _ (kq2 _ _ ?_); clear hR R; try clear kq2 kz2
 try simp only [go_sem, ldS_at hd, stX_at hd, ldS_sv hlt, stX_sv hlt, sv_ext hlt, sv_ext_sv hlt, hfirst, hb1, hq, hb2, hstay, hb3, hx1, hb4, hx2, hb5, hpeople, hb6, hkk, hb7]
 refine W_seq fun kz3 kq3 => ?_
 refine W_region [0, 3, 4, 5, 6] fun R hR => ?_
 simp only [go_sem, ldS_at hd, stX_at hd, ldS_sv hlt, stX_sv hlt, sv_ext hlt, sv_ext_sv hlt, hfirst, hb1, hq, hb2, hstay, hb3, hx1, hb4, hx2, hb5, hpeople, hb6, hkk, hb7]
 refine hR _ _ (kq3 _ _ ?_); clear hR R; try clear kq3 kz3
 try simp only [go_sem, ldS_at hd, stX_at hd, ldS_sv hlt, stX_sv hlt, sv_ext hlt, sv_ext_sv hlt, hfirst, hb1, hq, hb2, hstay, hb3, hx1, hb4, hx2, hb5, hpeople, hb6, hkk, hb7]
 refine W_seq fun kz4 kq4 => ?_
 refine W_seq fun kz5 kq5 => ?_
 refine W_region [0, 3, 4, 5, 6, 7] fun R hR => ?_
 simp only [go_sem, ldS_at hd, stX_at hd, ldS_sv hlt, stX_sv hlt, sv_ext hlt, sv_ext_sv hlt, hfirst, hb1, hq, hb2, hstay, hb3, hx1, hb4, hx2, hb5, hpeople, hb6, hkk, hb7]
 refine GCall_of (Roll_pc Y _ d b6 (by first | exact hd | exact sv_get hlt | exact get_svx hlt | exact get_extx hd) 5 (by omega)) ?_
 simp only [go_sem, ldS_at hd, stX_at hd, ldS_sv hlt, stX_sv hlt, sv_ext hlt, sv_ext_sv hlt, hfirst, hb1, hq, hb2, hstay, hb3, hx1, hb4, hx2, hb5, hpeople, hb6, hkk, hb7]
 refine hR _ _ (kq5 _ _ ?_); clear hR R; try clear kq5 kz5
 try simp only [go_sem, ldS_at hd, stX_at hd, ldS_sv hlt, stX_sv hlt, sv_ext hlt, sv_ext_sv hlt, hfirst, hb1, hq, hb2, hstay, hb3, hx1, hb4, hx2, hb5, hpeople, hb6, hkk, hb7]
 refine W_block ?_
 refine W_weak (Weak.roomSV (j := 2) (off := 1) (es := 1) rfl rfl (by simp)) ?_
 simp only [go_sem, ldS_at hd, stX_at hd, ldS_sv hlt, stX_sv hlt, sv_ext hlt, sv_ext_sv hlt, hfirst, hb1, hq, hb2, hstay, hb3, hx1, hb4, hx2, hb5, hpeople, hb6, hkk, hb7]
 refine W_loopT (α := Nat × Int × (List Int) × Int) (fun ⟨k, at', acc, b⟩ => [(6, I at'), (7, I k)]) (fun ⟨k, at', acc, b⟩ => (σ.setVar d [.int .u64 b]).ext [some (ctCells c), some [I 0, .isl [] .exact, I 0, I 0, I 0, I 0], some [I first, .isl (acc.map I) (.tok σ.rooms.length acc.length 1), I 0, I 0, I stay, I people]] [acc.length]) (fun ⟨k, at', acc, b⟩ => acc.length + k ≤ 100 ∧ res = bandP c.town.streets first stay people (if 0 < c.town.streets.length then k else 0) at' acc b) (fun ⟨k, at', acc, b⟩ => k) ((kk.toNat, first, [], b7)) (by simp only [go_sem, hkt]) (by first | rfl | (simp only [go_sem]; done) | (simp only [go_sem]; rfl)) (⟨by (try dsimp only); simp; omega, hres.symm⟩) ?_
 rintro ⟨k, at', acc, b⟩ ⟨hal, hinv⟩
 refine W_seq fun kz6 kq6 => ?_
 refine W_seq fun kz7 kq7 => ?_
 refine W_regionJ [0, 3, 4, 5, 6, 7, 42] [(42, .bool (decide (0 < (k : Int)) && decide (0 < (c.town.streets.length : Int))))] ?_ fun R hR => ?_
 ·refine kq7 _ _ ?_
  simp only [go_sem, ldS_at hd, stX_at hd, ldS_sv hlt, stX_sv hlt, sv_ext hlt, sv_ext_sv hlt, hfirst, hb1, hq, hb2, hstay, hb3, hx1, hb4, hx2, hb5, hpeople, hb6, hkk, hb7]
  refine W_cond rfl (fun c1 => ?_) (fun c1 => ?_)
  ·
   try simp only [nrm] at c1
   simp only [Bool.and_eq_true, decide_eq_true_eq] at c1
   obtain ⟨k, rfl⟩ : ∃ j, k = j + 1 := ⟨k - 1, by omega⟩
   have hap : 0 < c.town.streets.length := by omega
   rw [if_pos hap] at hinv
   obtain ⟨s0, hs0⟩ : ∃ zz, (roll c.town.streets.length b).1 = zz := ⟨_, rfl⟩
   obtain ⟨b8, hb8⟩ : ∃ zz, (roll c.town.streets.length b).2 = zz := ⟨_, rfl⟩
   have ds0 := roll_bd c.town.streets.length b
   simp only [hs0] at ds0
   obtain ⟨s, hs1⟩ : ∃ s, c.town.streets[s0.toNat]? = some s := ⟨c.town.streets[s0.toNat]'(by omega), by simp⟩
   have hs00 : 0 ≤ s0 := by omega
   simp only [bandP, dbind, hs0, hb8, hs1, Option.getD_some] at hinv
   refine W_skip (kq6 _ _ ?_)
   refine W_seq fun kz8 kq8 => ?_
   refine W_block ?_
   refine W_seq fun kz9 kq9 => ?_
   refine W_region [0, 3, 4, 5, 6, 7, 8] fun R hR => ?_
   simp only [go_sem, ldS_at hd, stX_at hd, ldS_sv hlt, stX_sv hlt, sv_ext hlt, sv_ext_sv hlt, hfirst, hb1, hq, hb2, hstay, hb3, hx1, hb4, hx2, hb5, hpeople, hb6, hkk, hb7, hs0, hb8, hs1, hs00]
   refine GCall_of (Roll_pc Y _ d b (by first | exact hd | exact sv_get hlt | exact get_svx hlt | exact get_extx hd) c.town.streets.length (by omega)) ?_
   simp only [go_sem, ldS_at hd, stX_at hd, ldS_sv hlt, stX_sv hlt, sv_ext hlt, sv_ext_sv hlt, hfirst, hb1, hq, hb2, hstay, hb3, hx1, hb4, hx2, hb5, hpeople, hb6, hkk, hb7, hs0, hb8, hs1, hs00]
   refine hR _ _ (kq9 _ _ ?_); clear hR R; try clear kq9 kz9
   try simp only [go_sem, ldS_at hd, stX_at hd, ldS_sv hlt, stX_sv hlt, sv_ext hlt, sv_ext_sv hlt, hfirst, hb1, hq, hb2, hstay, hb3, hx1, hb4, hx2, hb5, hpeople, hb6, hkk, hb7, hs0, hb8, hs1, hs00]
   refine W_seq fun kz10 kq10 => ?_
   refine W_region [0, 3, 4, 5, 6, 7, 8, 9] fun R hR => ?_
   simp only [go_sem, ldS_at hd, stX_at hd, ldS_sv hlt, stX_sv hlt, sv_ext hlt, sv_ext_sv hlt, hfirst, hb1, hq, hb2, hstay, hb3, hx1, hb4, hx2, hb5, hpeople, hb6, hkk, hb7, hs0, hb8, hs1, hs00]
   refine GCall_of (rother_pc Y _ s at') ?_
   simp only [go_sem, ldS_at hd, stX_at hd, ldS_sv hlt, stX_sv hlt, sv_ext hlt, sv_ext_sv hlt, hfirst, hb1, hq, hb2, hstay, hb3, hx1, hb4, hx2, hb5, hpeople, hb6, hkk, hb7, hs0, hb8, hs1, hs00]
   refine hR _ _ (kq10 _ _ ?_); clear hR R; try clear kq10 kz10
   try simp only [go_sem, ldS_at hd, stX_at hd, ldS_sv hlt, stX_sv hlt, sv_ext hlt, sv_ext_sv hlt, hfirst, hb1, hq, hb2, hstay, hb3, hx1, hb4, hx2, hb5, hpeople, hb6, hkk, hb7, hs0, hb8, hs1, hs00]
   refine W_seq fun kz11 kq11 => ?_
   refine W_region [0, 3, 4, 5, 6, 7, 8, 9, 60] fun R hR => ?_
   simp only [go_sem, ldS_at hd, stX_at hd, ldS_sv hlt, stX_sv hlt, sv_ext hlt, sv_ext_sv hlt, hfirst, hb1, hq, hb2, hstay, hb3, hx1, hb4, hx2, hb5, hpeople, hb6, hkk, hb7, hs0, hb8, hs1, hs00]
   refine hR _ _ (kq11 _ _ ?_); clear hR R; try clear kq11 kz11
   try simp only [go_sem, ldS_at hd, stX_at hd, ldS_sv hlt, stX_sv hlt, sv_ext hlt, sv_ext_sv hlt, hfirst, hb1, hq, hb2, hstay, hb3, hx1, hb4, hx2, hb5, hpeople, hb6, hkk, hb7, hs0, hb8, hs1, hs00]
   refine W_cond rfl (fun c2 => ?_) (fun c2 => ?_)
   ·
    try simp only [nrm] at c2
    refine W_region [0, 3, 4, 5, 6, 7] fun R hR => ?_
    simp only [go_sem, ldS_at hd, stX_at hd, ldS_sv hlt, stX_sv hlt, sv_ext hlt, sv_ext_sv hlt, hfirst, hb1, hq, hb2, hstay, hb3, hx1, hb4, hx2, hb5, hpeople, hb6, hkk, hb7, hs0, hb8, hs1, hs00]
    simp (disch := first | omega | (simp only [go_sem] <;> omega)) only [wrapI, wrapU, appX_exact, appX_tok]
    try simp only [go_sem, ldS_at hd, stX_at hd, ldS_sv hlt, stX_sv hlt, sv_ext hlt, sv_ext_sv hlt, hfirst, hb1, hq, hb2, hstay, hb3, hx1, hb4, hx2, hb5, hpeople, hb6, hkk, hb7, hs0, hb8, hs1, hs00]
    refine hR _ _ (kq8 _ _ ?_); clear hR R; try clear kq8 kz8
    try simp only [go_sem, ldS_at hd, stX_at hd, ldS_sv hlt, stX_sv hlt, sv_ext hlt, sv_ext_sv hlt, hfirst, hb1, hq, hb2, hstay, hb3, hx1, hb4, hx2, hb5, hpeople, hb6, hkk, hb7, hs0, hb8, hs1, hs00]
    refine W_region [0, 3, 4, 5, 6, 7] fun R hR => ?_
    simp only [go_sem, ldS_at hd, stX_at hd, ldS_sv hlt, stX_sv hlt, sv_ext hlt, sv_ext_sv hlt, hfirst, hb1, hq, hb2, hstay, hb3, hx1, hb4, hx2, hb5, hpeople, hb6, hkk, hb7, hs0, hb8, hs1, hs00]
    try simp (disch := omega) only [wrapI, wrapU]
    refine hR _ _ ?_; clear hR R
    try simp only [go_sem, ldS_at hd, stX_at hd, ldS_sv hlt, stX_sv hlt, sv_ext hlt, sv_ext_sv hlt, hfirst, hb1, hq, hb2, hstay, hb3, hx1, hb4, hx2, hb5, hpeople, hb6, hkk, hb7, hs0, hb8, hs1, hs00]
    refine ⟨(k, other s at', acc ++ [s0], b8), ?_, by (try simp only []); omega, ?_⟩
    ·first | exact Weak.refl | exact Weak.eq (by first | rfl | (simp only [go_sem]; done) | (simp only [go_sem]; rfl) | (simp [go_sem]; done) | (simp [go_sem]; omega)) (by first | rfl | (simp only [go_sem]; done) | (simp [go_sem]; done))
    ·try dsimp only
     refine ⟨by (try simp); omega, ?_⟩
     rw [if_pos hap, hinv]; first | rw [if_pos c2] | rw [if_neg c2]
   ·
    try simp only [nrm] at c2
    refine W_skip (kq8 _ _ ?_)
    refine W_region [0, 3, 4, 5, 6, 7] fun R hR => ?_
    simp only [go_sem, ldS_at hd, stX_at hd, ldS_sv hlt, stX_sv hlt, sv_ext hlt, sv_ext_sv hlt, hfirst, hb1, hq, hb2, hstay, hb3, hx1, hb4, hx2, hb5, hpeople, hb6, hkk, hb7, hs0, hb8, hs1, hs00]
    try simp (disch := omega) only [wrapI, wrapU]
    refine hR _ _ ?_; clear hR R
    try simp only [go_sem, ldS_at hd, stX_at hd, ldS_sv hlt, stX_sv hlt, sv_ext hlt, sv_ext_sv hlt, hfirst, hb1, hq, hb2, hstay, hb3, hx1, hb4, hx2, hb5, hpeople, hb6, hkk, hb7, hs0, hb8, hs1, hs00]
    refine ⟨(k, at', acc, b8), ?_, by (try simp only []); omega, ?_⟩
    ·first | exact Weak.refl | exact Weak.eq (by first | rfl | (simp only [go_sem]; done) | (simp only [go_sem]; rfl) | (simp [go_sem]; done) | (simp [go_sem]; omega)) (by first | rfl | (simp only [go_sem]; done) | (simp [go_sem]; done))
    ·try dsimp only
     refine ⟨by (try simp); omega, ?_⟩
     rw [if_pos hap, hinv]; first | rw [if_pos c2] | rw [if_neg c2]
  ·
   try simp only [nrm] at c1
   simp only [Bool.and_eq_false_iff, decide_eq_false_iff_not] at c1
   have hz : (if 0 < c.town.streets.length then k else 0) = 0 := by split <;> omega
   rw [hz] at hinv
   clear hres
   have hmu := mul_bd (a := stay) (b := (acc.length : Int) + 1) (A := 20) (B := 101) (by omega) (by omega) (by omega) (by omega)
   obtain ⟨m, hm⟩ : ∃ zz, (anyOf [60, 200, 720 - stay * ((acc.length : Int) + 1) - 4] b).1 = zz := ⟨_, rfl⟩
   obtain ⟨b9, hb9⟩ : ∃ zz, (anyOf [60, 200, 720 - stay * ((acc.length : Int) + 1) - 4] b).2 = zz := ⟨_, rfl⟩
   have dm := anyOf_mem [60, 200, 720 - stay * ((acc.length : Int) + 1) - 4] (by simp) b
   simp only [hm] at dm
   have dm2 := mem3 dm
   obtain ⟨start, hstart⟩ : ∃ zz, (roll m b9).1 = zz := ⟨_, rfl⟩
   obtain ⟨b10, hb10⟩ : ∃ zz, (roll m b9).2 = zz := ⟨_, rfl⟩
   have dstart := roll_bd m b9
   simp only [hstart] at dstart
   obtain ⟨z, hz⟩ : ∃ zz, (roll 5 b10).1 = zz := ⟨_, rfl⟩
   obtain ⟨b11, hb11⟩ : ∃ zz, (roll 5 b10).2 = zz := ⟨_, rfl⟩
   have dz := roll_bd 5 b10
   simp only [hz] at dz
   obtain ⟨more, hmore⟩ : ∃ zz, (anyOf [0, 0, z] b11).1 = zz := ⟨_, rfl⟩
   obtain ⟨b12, hb12⟩ : ∃ zz, (anyOf [0, 0, z] b11).2 = zz := ⟨_, rfl⟩
   have dmore := anyOf_mem [0, 0, z] (by simp) b11
   simp only [hmore] at dmore
   have do2 := mem3 dmore
   simp only [bandP, dbind, dret, hm, hb9, hstart, hb10, hz, hb11, hmore, hb12] at hinv
   have w1 : IntKind.i64.wrap (stay * ((acc.length : Int) + 1)) = stay * ((acc.length : Int) + 1) := wrapI (by omega) (by omega)
   refine W_exit ?_
   simp only [go_sem, ldS_at hd, stX_at hd, ldS_sv hlt, stX_sv hlt, sv_ext hlt, sv_ext_sv hlt, hfirst, hb1, hq, hb2, hstay, hb3, hx1, hb4, hx2, hb5, hpeople, hb6, hkk, hb7, hm, hb9, hstart, hb10, hz, hb11, hmore, hb12]
   refine kq4 _ _ ?_
   refine W_seq fun kz12 kq12 => ?_
   refine W_region [0, 4, 5, 10] fun R hR => ?_
   simp only [go_sem, ldS_at hd, stX_at hd, ldS_sv hlt, stX_sv hlt, sv_ext hlt, sv_ext_sv hlt, hfirst, hb1, hq, hb2, hstay, hb3, hx1, hb4, hx2, hb5, hpeople, hb6, hkk, hb7, hm, hb9, hstart, hb10, hz, hb11, hmore, hb12]
   try simp (disch := omega) only [wrapI, wrapU]
   refine GCall_of (Any_pc Y _ d b (by first | exact hd | exact sv_get hlt | exact get_svx hlt | exact get_extx hd) [60, 200, 720 - stay * ((acc.length : Int) + 1) - 4] (by simp) (by simp)) ?_
   simp only [go_sem, ldS_at hd, stX_at hd, ldS_sv hlt, stX_sv hlt, sv_ext hlt, sv_ext_sv hlt, hfirst, hb1, hq, hb2, hstay, hb3, hx1, hb4, hx2, hb5, hpeople, hb6, hkk, hb7, hm, hb9, hstart, hb10, hz, hb11, hmore, hb12]
   try simp (disch := omega) only [wrapI, wrapU]
   refine GCall_of (Roll_pc Y _ d b9 (by first | exact hd | exact sv_get hlt | exact get_svx hlt | exact get_extx hd) m (by omega)) ?_
   simp only [go_sem, ldS_at hd, stX_at hd, ldS_sv hlt, stX_sv hlt, sv_ext hlt, sv_ext_sv hlt, hfirst, hb1, hq, hb2, hstay, hb3, hx1, hb4, hx2, hb5, hpeople, hb6, hkk, hb7, hm, hb9, hstart, hb10, hz, hb11, hmore, hb12]
   try simp (disch := omega) only [wrapI, wrapU]
   refine hR _ _ (kq12 _ _ ?_); clear hR R; try clear kq12 kz12
   try simp only [go_sem, ldS_at hd, stX_at hd, ldS_sv hlt, stX_sv hlt, sv_ext hlt, sv_ext_sv hlt, hfirst, hb1, hq, hb2, hstay, hb3, hx1, hb4, hx2, hb5, hpeople, hb6, hkk, hb7, hm, hb9, hstart, hb10, hz, hb11, hmore, hb12]
   refine W_seq fun kz13 kq13 => ?_
   refine W_region [4, 5] fun R hR => ?_
   simp only [go_sem, ldS_at hd, stX_at hd, ldS_sv hlt, stX_sv hlt, sv_ext hlt, sv_ext_sv hlt, hfirst, hb1, hq, hb2, hstay, hb3, hx1, hb4, hx2, hb5, hpeople, hb6, hkk, hb7, hm, hb9, hstart, hb10, hz, hb11, hmore, hb12]
   refine GCall_of (Roll_pc Y _ d b10 (by first | exact hd | exact sv_get hlt | exact get_svx hlt | exact get_extx hd) 5 (by omega)) ?_
   simp only [go_sem, ldS_at hd, stX_at hd, ldS_sv hlt, stX_sv hlt, sv_ext hlt, sv_ext_sv hlt, hfirst, hb1, hq, hb2, hstay, hb3, hx1, hb4, hx2, hb5, hpeople, hb6, hkk, hb7, hm, hb9, hstart, hb10, hz, hb11, hmore, hb12]
   refine GCall_of (Any_pc Y _ d b11 (by first | exact hd | exact sv_get hlt | exact get_svx hlt | exact get_extx hd) [0, 0, z] (by simp) (by simp)) ?_
   simp only [go_sem, ldS_at hd, stX_at hd, ldS_sv hlt, stX_sv hlt, sv_ext hlt, sv_ext_sv hlt, hfirst, hb1, hq, hb2, hstay, hb3, hx1, hb4, hx2, hb5, hpeople, hb6, hkk, hb7, hm, hb9, hstart, hb10, hz, hb11, hmore, hb12]
   try simp (disch := omega) only [wrapI, wrapU]
   refine hR _ _ (kq13 _ _ ?_); clear hR R; try clear kq13 kz13
   try simp only [go_sem, ldS_at hd, stX_at hd, ldS_sv hlt, stX_sv hlt, sv_ext hlt, sv_ext_sv hlt, hfirst, hb1, hq, hb2, hstay, hb3, hx1, hb4, hx2, hb5, hpeople, hb6, hkk, hb7, hm, hb9, hstart, hb10, hz, hb11, hmore, hb12]
   refine W_seq fun kz14 kq14 => ?_
   refine W_region [4] fun R hR => ?_
   simp only [go_sem, ldS_at hd, stX_at hd, ldS_sv hlt, stX_sv hlt, sv_ext hlt, sv_ext_sv hlt, hfirst, hb1, hq, hb2, hstay, hb3, hx1, hb4, hx2, hb5, hpeople, hb6, hkk, hb7, hm, hb9, hstart, hb10, hz, hb11, hmore, hb12]
   refine hR _ _ (kq14 _ _ ?_); clear hR R; try clear kq14 kz14
   try simp only [go_sem, ldS_at hd, stX_at hd, ldS_sv hlt, stX_sv hlt, sv_ext hlt, sv_ext_sv hlt, hfirst, hb1, hq, hb2, hstay, hb3, hx1, hb4, hx2, hb5, hpeople, hb6, hkk, hb7, hm, hb9, hstart, hb10, hz, hb11, hmore, hb12]
   refine W_ret ?_
   simp only [go_sem, ldS_at hd, stX_at hd, ldS_sv hlt, stX_sv hlt, sv_ext hlt, sv_ext_sv hlt, hfirst, hb1, hq, hb2, hstay, hb3, hx1, hb4, hx2, hb5, hpeople, hb6, hkk, hb7, hm, hb9, hstart, hb10, hz, hb11, hmore, hb12]
   refine ⟨.inr (by trivial), ?_⟩
   rw [hinv]; refine Fin_set hcl (by simp only [go_sem]) (by show resPV Tryz.prog _ _ [.cell 4 53] = some _; simp only [resPV, go_sem]; rfl) (Wk.ro (by simp only [go_sem]) ?_)
   try simp only [go_sem]
   all_goals
    simp only [go_sem]
 ·simp only [go_sem, ldS_at hd, stX_at hd, ldS_sv hlt, stX_sv hlt, sv_ext hlt, sv_ext_sv hlt, hfirst, hb1, hq, hb2, hstay, hb3, hx1, hb4, hx2, hb5, hpeople, hb6, hkk, hb7]
  refine GWant_split (fun g1 => ?_) (fun g1 => ?_)
  ·try simp only [Bool.not_eq_true', Bool.not_eq_false'] at g1
   have n1 := g1; try simp only [nrm] at n1
   simp only [go_sem, ldS_at hd, stX_at hd, ldS_sv hlt, stX_sv hlt, sv_ext hlt, sv_ext_sv hlt, hfirst, hb1, hq, hb2, hstay, hb3, hx1, hb4, hx2, hb5, hpeople, hb6, hkk, hb7, g1]
   refine hR _ ?_
   try simp only [go_sem, ldS_at hd, stX_at hd, ldS_sv hlt, stX_sv hlt, sv_ext hlt, sv_ext_sv hlt, hfirst, hb1, hq, hb2, hstay, hb3, hx1, hb4, hx2, hb5, hpeople, hb6, hkk, hb7]
   all_goals
    first | rfl | (simp [*]; done) | (simp [*]; omega)
  ·try simp only [Bool.not_eq_true', Bool.not_eq_false'] at g1
   have n1 := g1; try simp only [nrm] at n1
   simp only [go_sem, ldS_at hd, stX_at hd, ldS_sv hlt, stX_sv hlt, sv_ext hlt, sv_ext_sv hlt, hfirst, hb1, hq, hb2, hstay, hb3, hx1, hb4, hx2, hb5, hpeople, hb6, hkk, hb7, g1]
   refine hR _ ?_
   try simp only [go_sem, ldS_at hd, stX_at hd, ldS_sv hlt, stX_sv hlt, sv_ext hlt, sv_ext_sv hlt, hfirst, hb1, hq, hb2, hstay, hb3, hx1, hb4, hx2, hb5, hpeople, hb6, hkk, hb7]
   all_goals
    first | rfl | (simp [*]; done) | (simp [*]; omega)
set_option maxHeartbeats 2000000 in
theorem BandsOf_pc (Y : YEnv) (σ : Sg) (d : Nat) (b : Int) (hd : σ.store[d]? = some (some [.int .u64 b])) (c : City) (most : Int) (hr : c.town.rooms.length < 2 ^ 40) (hs : c.town.streets.length < 2 ^ 40) (hm0 : 0 ≤ most) (hm : most ≤ 1000) :
  PC Tryz.prog Y 9 [.ptr d 0, ctPV c, I most] σ (bands (bandsD c most b).1) (σ.setVar d [.int .u64 (bandsD c most b).2]) := by
 refine PC_of_W Tryz.func9 rfl (by kernel_rfl) Tryz.ntmps9 (by simp) fun hcl hca => ?_
 have hlt := lt_of_get hd
 obtain ⟨res, hres⟩ : ∃ r, bandsD c most b = r := ⟨_, rfl⟩
 rw [hres]
 obtain ⟨kk, hkk⟩ : ∃ zz, (roll (most + 1) b).1 = zz := ⟨_, rfl⟩
 obtain ⟨b1, hb1⟩ : ∃ zz, (roll (most + 1) b).2 = zz := ⟨_, rfl⟩
 have dkk := roll_bd (most + 1) b
 simp only [hkk] at dkk
 simp only [bandsD, dbind, hkk, hb1] at hres
 have hkt : ((kk.toNat : Nat) : Int) = kk := by omega
 refine W_seq fun kz1 kq1 => ?_
 refine W_region [0, 2, 4] fun R hR => ?_
 simp only [go_sem, ldS_at hd, stX_at hd, ldS_sv hlt, stX_sv hlt, sv_ext hlt, sv_ext_sv hlt, hkk, hb1]
 refine hR _ _ (kq1 _ _ ?_); clear hR R; try clear kq1 kz1
 try simp only [go_sem, ldS_at hd, stX_at hd, ldS_sv hlt, stX_sv hlt, sv_ext hlt, sv_ext_sv hlt, hkk, hb1]
 refine W_seq fun kz2 kq2 => ?_
 refine W_region [0, 2, 4, 7] fun R hR => ?_
 simp only [go_sem, ldS_at hd, stX_at hd, ldS_sv hlt, stX_sv hlt, sv_ext hlt, sv_ext_sv hlt, hkk, hb1]
 refine hR _ _ (kq2 _ _ ?_); clear hR R; try clear kq2 kz2
 try simp only [go_sem, ldS_at hd, stX_at hd, ldS_sv hlt, stX_sv hlt, sv_ext hlt, sv_ext_sv hlt, hkk, hb1]
 refine W_seq fun kz3 kq3 => ?_
 refine W_seq fun kz4 kq4 => ?_
 refine W_region [0, 4, 7, 8] fun R hR => ?_
 simp only [go_sem, ldS_at hd, stX_at hd, ldS_sv hlt, stX_sv hlt, sv_ext hlt, sv_ext_sv hlt, hkk, hb1]
 try simp (disch := omega) only [wrapI, wrapU]
 refine GCall_of (Roll_pc Y _ d b (by first | exact hd | exact sv_get hlt | exact get_svx hlt | exact get_extx hd) (most + 1) (by omega)) ?_
 simp only [go_sem, ldS_at hd, stX_at hd, ldS_sv hlt, stX_sv hlt, sv_ext hlt, sv_ext_sv hlt, hkk, hb1]
 try simp (disch := omega) only [wrapI, wrapU]
 refine hR _ _ (kq4 _ _ ?_); clear hR R; try clear kq4 kz4
 try simp only [go_sem, ldS_at hd, stX_at hd, ldS_sv hlt, stX_sv hlt, sv_ext hlt, sv_ext_sv hlt, hkk, hb1]
 refine W_block ?_
 refine W_weak (Weak.room (t := 7) (es := 6) rfl (by simp)) ?_
 refine W_weak (Weak.keep [0, 4, 7, 8]) ?_
 simp only [go_sem, ldS_at hd, stX_at hd, ldS_sv hlt, stX_sv hlt, sv_ext hlt, sv_ext_sv hlt, hkk, hb1]
 refine W_loopT (α := Nat × (List Band) × Int) (fun ⟨k, acc, b⟩ => [(7, .isl (acc.map bdPV) (.tok σ.rooms.length acc.length 6)), (8, I k)]) (fun ⟨k, acc, b⟩ => (σ.setVar d [.int .u64 b]).ext [some (ctCells c)] [acc.length]) (fun ⟨k, acc, b⟩ => acc.length + k ≤ 2000 ∧ res = bandsA c k acc b) (fun ⟨k, acc, b⟩ => k) ((kk.toNat, [], b1)) (by simp only [go_sem, hkt, List.map]) (by first | rfl | (simp only [go_sem]; done) | (simp only [go_sem]; rfl)) (⟨by (try dsimp only); simp; omega, hres.symm⟩) ?_
 rintro ⟨k, acc, b⟩ ⟨hal, hinv⟩
 refine W_seq fun kz5 kq5 => ?_
 refine W_seq fun kz6 kq6 => ?_
 refine W_region [0, 4, 7, 8, 14] fun R hR => ?_
 simp only [go_sem, ldS_at hd, stX_at hd, ldS_sv hlt, stX_sv hlt, sv_ext hlt, sv_ext_sv hlt, hkk, hb1]
 refine hR _ _ (kq6 _ _ ?_); clear hR R; try clear kq6 kz6
 try simp only [go_sem, ldS_at hd, stX_at hd, ldS_sv hlt, stX_sv hlt, sv_ext hlt, sv_ext_sv hlt, hkk, hb1]
 refine W_cond rfl (fun c1 => ?_) (fun c1 => ?_)
 ·
  try simp only [nrm] at c1
  obtain ⟨k, rfl⟩ : ∃ j, k = j + 1 := ⟨k - 1, by omega⟩
  obtain ⟨x, hx⟩ : ∃ zz, (bandD c b).1 = zz := ⟨_, rfl⟩
  obtain ⟨b2, hb2⟩ : ∃ zz, (bandD c b).2 = zz := ⟨_, rfl⟩
  simp only [bandsA, dbind, hx, hb2] at hinv
  refine W_skip (kq5 _ _ ?_)
  refine W_seq fun kz7 kq7 => ?_
  refine W_block ?_
  refine W_region [0, 4, 7, 8] fun R hR => ?_
  simp only [go_sem, ldS_at hd, stX_at hd, ldS_sv hlt, stX_sv hlt, sv_ext hlt, sv_ext_sv hlt, hkk, hb1, hx, hb2]
  refine GCall_of (BandOf_pc Y _ d b (by first | exact hd | exact sv_get hlt | exact get_svx hlt | exact get_extx hd) c hr hs) ?_
  simp only [go_sem, ldS_at hd, stX_at hd, ldS_sv hlt, stX_sv hlt, sv_ext hlt, sv_ext_sv hlt, hkk, hb1, hx, hb2]
  simp (disch := first | omega | (simp only [go_sem] <;> omega)) only [wrapI, wrapU, appX_exact, appX_tok]
  try simp only [go_sem, ldS_at hd, stX_at hd, ldS_sv hlt, stX_sv hlt, sv_ext hlt, sv_ext_sv hlt, hkk, hb1, hx, hb2]
  refine hR _ _ (kq7 _ _ ?_); clear hR R; try clear kq7 kz7
  try simp only [go_sem, ldS_at hd, stX_at hd, ldS_sv hlt, stX_sv hlt, sv_ext hlt, sv_ext_sv hlt, hkk, hb1, hx, hb2]
  refine W_region [0, 4, 7, 8] fun R hR => ?_
  simp only [go_sem, ldS_at hd, stX_at hd, ldS_sv hlt, stX_sv hlt, sv_ext hlt, sv_ext_sv hlt, hkk, hb1, hx, hb2]
  try simp (disch := omega) only [wrapI, wrapU]
  refine hR _ _ ?_; clear hR R
  try simp only [go_sem, ldS_at hd, stX_at hd, ldS_sv hlt, stX_sv hlt, sv_ext hlt, sv_ext_sv hlt, hkk, hb1, hx, hb2]
  refine ⟨(k, acc ++ [x], b2), ?_, by (try simp only []); omega, ?_⟩
  ·first | exact Weak.refl | exact Weak.eq (by first | rfl | (simp only [go_sem]; done) | (simp only [go_sem]; rfl) | (simp [go_sem]; done) | (simp [go_sem]; omega)) (by first | rfl | (simp only [go_sem]; done) | (simp [go_sem]; done))
  ·try dsimp only
   exact ⟨by simp; omega, hinv⟩
 ·
  try simp only [nrm] at c1
  obtain rfl : k = 0 := by omega
  simp only [bandsA, dret] at hinv
  refine W_exit ?_
  simp only [go_sem, ldS_at hd, stX_at hd, ldS_sv hlt, stX_sv hlt, sv_ext hlt, sv_ext_sv hlt, hkk, hb1]
  refine kq3 _ _ ?_
  refine W_seq fun kz8 kq8 => ?_
  refine W_region [6] fun R hR => ?_
  simp only [go_sem, ldS_at hd, stX_at hd, ldS_sv hlt, stX_sv hlt, sv_ext hlt, sv_ext_sv hlt, hkk, hb1]
  refine hR _ _ (kq8 _ _ ?_); clear hR R; try clear kq8 kz8
  try simp only [go_sem, ldS_at hd, stX_at hd, ldS_sv hlt, stX_sv hlt, sv_ext hlt, sv_ext_sv hlt, hkk, hb1]
  refine W_ret ?_
  simp only [go_sem, ldS_at hd, stX_at hd, ldS_sv hlt, stX_sv hlt, sv_ext hlt, sv_ext_sv hlt, hkk, hb1]
  refine ⟨.inr (by trivial), ?_⟩
  rw [hinv]; refine Fin_set hcl (by simp only [go_sem]) rfl (Wk.ro (by simp only [go_sem]) ?_)
  try simp only [go_sem]
  all_goals
   simp only [go_sem]
end Go.Proofs.YteklodljdndcoaaGreatDoor
