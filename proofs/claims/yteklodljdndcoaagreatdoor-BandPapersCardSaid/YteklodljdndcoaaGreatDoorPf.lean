/-
  Walks: requests of bands (band).
  Walks: permits, one after the other (band).
  Walks: the chapter's examples (baterialaw07).
  Cities and bands made of numbers are valid.
  What may come in: cities and bands; few enough of them.
  Walks: who is granted; true starts; squares; the laws' data.
  Maps as lists of keys with their values, without the program's types.
  Slices made at once, written and then frozen; rows of numbers written at a place.
  Variables renumbered: the live ones, in a new order; whatever speaks of them follows.
  Regions that draw their order, two operations of which may come in either order: both are walked.
  Builders: one is made; what it holds becomes a string.
  Slices that grow in place, in a variable's cell; a row sorted or written anew by the library.
  A slice of numbers that grows in place in a variable's cell, is sorted, compacted, and read at last.
  Builders and decimal numerals, as the library makes them.
  Texts, plainly: parts between separators; numerals.
  Parts of texts, and numbers out of texts, as the library makes them.
  Rows of a word and numbers, plainly: written and read back.
  Walks: rows, parts of texts, numbers (the document's).
  Facts of this seat's types for maps and made slices.
  Walks: rows of a paper are read; a paper is written (the document's).
  Walks: a builder is written to; what it holds becomes a string.
  Builders among a walk's variables: written to, read.
  Walk: a paper is written (the program's).
  Walks: a number taken into bounds; a text that is blotted.
  Walk: a paper is read (the document's).
-/
import Derived.Test.YteklodljdndcoaaGreatDoorPe
import Derived.CallsIn
import Derived.RangeFuncLeaves
import Derived.RangeFuncRecord
import Derived.OrdersIn
import Derived.Below
import Derived.Laws.World
import Derived.Laws.StructEq
import Derived.Laws.BytesString
import Derived.Laws.Append
import Derived.MapKept
import Derived.ProofKit
import Derived.Carry
import Derived.Handed
import Derived.ChangeCalls
import Derived.Stop.Joined
import Derived.Lib.LaidTab
import Derived.Shelf.Strconv.Itoa3
import Derived.RangeFuncIn
import Derived.RangeFuncNested
import Derived.Test.YteklodljdndcoaaGreatDoorProg
import Derived.KernelRfl
import Derived.IntWalk
import Derived.Test.YteklodljdndcoaaGreatDoorRows
import Derived.Sort.OwnSortedInts
import Derived.Lib.SlicesCompact
import Derived.Shelf.Strings.Builder1
import Derived.Lib.SplitLaws
import Derived.Lib.AtoiAll
import Derived.Lib.ItoaNum
import Derived.Lib.IndexBytes
import Derived.Shelf.Strings.Split
import Derived.Shelf.Strconv.AtoiAll
import Derived.Lib.AtoiErrMem
import Derived.Lib.ItoaLen
import Derived.Lib.AtoiAllCases
import Derived.Test.YteklodljdndcoaaGreatDoorCards
import Derived.Test.YteklodljdndcoaaGreatDoorTie
import Derived.JoinedOf
import Derived.LaidMore
import Derived.LaidSub
import Derived.Lay
import Derived.SevenTiedAt
import Derived.Lib.LaidU8
import Derived.Shelf.Vars
set_option linter.unusedSimpArgs false
set_option linter.unusedVariables false
namespace Go.Proofs.YteklodljdndcoaaGreatDoor
open Go Go.RowKit
set_option maxRecDepth 100000
def reqPV (c : City) (w : List Band) (b : Band) : PV := .agg [ints c.town.rooms, .isl (c.town.streets.map stPV) .ro, .isl (c.town.groups.map grPV) .ro, I c.town.steps, I c.brk, ints c.sleep, bands w, I b.first, ints b.path, I b.lo, I b.hi, I b.stay, I b.people]
attribute [go_sem] reqPV
def clashOf (c : City) (b : Band) : List Band → Int
  | [] => 0
  | x :: r => if crossVal c b x ≠ 2 then 10 else clashOf c b r
def overL (c : City) (b : Band) : List Int → Int
  | [] => 0
  | s :: r => if (c.town.rooms[s.toNat]?).getD 0 < b.people then 13 else overL c b r
def overOf (c : City) (b : Band) : Int := overL c b (sqs c b).1
def awkL (c : City) (l : List Band) : Nat → List Int → Int
  | _, [] => 0
  | k, owed :: r => if (sleepOf (loudAt c l k)).2 < owed then 11 else awkL c l (k + 1) r
def awkOf (c : City) (l : List Band) : Int := awkL c l 0 c.sleep
def firstOf : List Int → Int
  | [] => 0
  | e :: r => if e ≠ 0 then e else firstOf r
def reqOf (c : City) (w : List Band) (b : Band) : Int := firstOf [clashOf c b w, overOf c b, awkOf c (w ++ [b])]
/-- A function that is called with a value first. -/
def fnPV (q : PV) (p : Nat × Int) : PV := .func (.func p.1) [q] []
attribute [go_sem] fnPV
set_option maxHeartbeats 2000000 in
theorem first_pc (Y : YEnv) (σ : Sg) (l : List (Nat × Int)) (q : PV) (hl : l.length < 2 ^ 50) (h : ∀ p, p ∈ l → ∀ (σ : Sg), PC Tryz.prog Y p.1 [q] σ (I p.2) σ) :
  PC Tryz.prog Y 64 [.isl (l.map (fnPV q)) .exact] σ (I (firstOf (l.map (·.2)))) (σ) := by
 refine PC_of_W Tryz.func64 rfl (by kernel_rfl) Tryz.ntmps64 (by simp) fun hcl hca => ?_
 obtain ⟨res, hres⟩ : ∃ r, firstOf (l.map (·.2)) = r := ⟨_, rfl⟩
 rw [hres]
 refine W_seq fun kz1 kq1 => ?_
 refine W_region [0] fun R hR => ?_
 simp only [go_sem]
 refine hR _ _ (kq1 _ _ ?_); clear hR R; try clear kq1 kz1
 try simp only [go_sem]
 refine W_seq fun kz2 kq2 => ?_
 refine W_seq fun kz3 kq3 => ?_
 refine W_region [6, 7, 8] fun R hR => ?_
 simp only [go_sem]
 refine hR _ _ (kq3 _ _ ?_); clear hR R; try clear kq3 kz3
 try simp only [go_sem]
 refine W_block ?_
 refine W_loopS (α := Nat) (fun (i : Nat) => [(8, I i)]) (fun (i : Nat) => i ≤ l.length ∧ res = firstOf ((l.drop i).map (·.2))) (fun (i : Nat) => l.length - i) (0) rfl (⟨Nat.zero_le _, hres.symm⟩) ?_
 rintro i ⟨hi, hinv⟩
 refine W_seq fun kz4 kq4 => ?_
 refine W_region [6, 7, 8, 9] fun R hR => ?_
 simp only [go_sem]
 refine hR _ _ (kq4 _ _ ?_); clear hR R; try clear kq4 kz4
 try simp only [go_sem]
 refine W_seq fun kz5 kq5 => ?_
 refine W_cond rfl (fun c1 => ?_) (fun c1 => ?_)
 ·
  try simp only [nrm] at c1
  have hi' : i < l.length := by first | assumption | omega
  obtain ⟨x, hx⟩ : ∃ x, l[i]? = some x := ⟨l[i], by simp [hi']⟩
  have hdrop : l.drop i = x :: l.drop (i + 1) := by
   rw [List.drop_eq_getElem_cons hi']; congr 1; exact (List.getElem?_eq_some_iff.1 hx).2
  rw [hdrop] at hinv
  simp only [List.map_cons, firstOf] at hinv
  refine W_skip (kq5 _ _ ?_)
  refine W_seq fun kz6 kq6 => ?_
  refine W_block ?_
  refine W_seq fun kz7 kq7 => ?_
  refine W_region [4, 6, 7, 8] fun R hR => ?_
  simp only [go_sem, hx]
  refine hR _ _ (kq7 _ _ ?_); clear hR R; try clear kq7 kz7
  try simp only [go_sem, hx]
  refine W_seq fun kz8 kq8 => ?_
  refine W_region [5, 6, 7, 8] fun R hR => ?_
  simp only [go_sem, hx]
  refine GCall_of (h x (List.mem_of_getElem? hx) _) ?_
  simp only [go_sem, hx]
  refine hR _ _ (kq8 _ _ ?_); clear hR R; try clear kq8 kz8
  try simp only [go_sem, hx]
  refine W_seq fun kz9 kq9 => ?_
  refine W_region [5, 6, 7, 8, 15] fun R hR => ?_
  simp only [go_sem, hx]
  refine hR _ _ (kq9 _ _ ?_); clear hR R; try clear kq9 kz9
  try simp only [go_sem, hx]
  refine W_cond rfl (fun c2 => ?_) (fun c2 => ?_)
  ·
   try simp only [nrm] at c2
   refine W_seq fun kz10 kq10 => ?_
   refine W_region [2] fun R hR => ?_
   simp only [go_sem, hx]
   refine hR _ _ (kq10 _ _ ?_); clear hR R; try clear kq10 kz10
   try simp only [go_sem, hx]
   refine W_ret ?_
   simp only [go_sem, hx]
   refine ⟨.inr (by trivial), ?_⟩
   first | refine Fin_same hcl rfl (Wk_eq ?_ (by simp only [go_sem])) | refine Fin_self hcl rfl (Wk_eq ?_ (by simp only [go_sem]))
   try simp only [go_sem]
   all_goals
    rw [hinv, if_pos c2]
  ·
   try simp only [nrm] at c2
   refine W_skip (kq6 _ _ ?_)
   refine W_region [6, 7, 8] fun R hR => ?_
   simp only [go_sem, hx]
   try simp (disch := omega) only [wrapI, wrapU]
   refine hR _ _ ?_; clear hR R
   try simp only [go_sem, hx]
   refine ⟨i + 1, ?_, by (try simp only []); omega, ?_⟩
   ·first | exact Weak.refl | exact Weak.eq (by first | rfl | (simp only [go_sem]; done) | (simp only [go_sem]; rfl) | (simp [go_sem]; done) | (simp [go_sem]; omega)) (by first | rfl | (simp only [go_sem]; done) | (simp [go_sem]; done))
   ·try dsimp only
    exact ⟨hi', by rw [hinv, if_neg (by simp [c2])]⟩
 ·
  try simp only [nrm] at c1
  have hdrop : l.drop i = [] := List.drop_eq_nil_of_le (by omega)
  rw [hdrop] at hinv
  simp only [List.map_nil, firstOf] at hinv
  refine W_exit ?_
  simp only [go_sem]
  refine kq2 _ _ ?_
  refine W_seq fun kz11 kq11 => ?_
  refine W_region [2] fun R hR => ?_
  simp only [go_sem]
  refine hR _ _ (kq11 _ _ ?_); clear hR R; try clear kq11 kz11
  try simp only [go_sem]
  refine W_ret ?_
  simp only [go_sem]
  refine ⟨.inr (by trivial), ?_⟩
  first | refine Fin_same hcl rfl (Wk_eq ?_ (by simp only [go_sem])) | refine Fin_self hcl rfl (Wk_eq ?_ (by simp only [go_sem]))
  try simp only [go_sem]
  all_goals
   rw [hinv]
set_option maxHeartbeats 2000000 in
theorem clash_pc (Y : YEnv) (σ : Sg) (ct : City) (w : List Band) (b : Band) (hc : ct.Ok) (hl : BandsOk w) (hw : w.length ≤ 1000) (hk : chkCity ct = 0) (hv : ∀ x, x ∈ w → chkBand ct x = 0) (hb : b.path.length < 2 ^ 50) (hbv : chkBand ct b = 0) :
  PC Tryz.prog Y 65 [reqPV ct w b] σ (I (clashOf ct b w)) (σ) := by
 refine PC_of_W Tryz.func65 rfl (by kernel_rfl) Tryz.ntmps65 (by simp) fun hcl hca => ?_
 have hl2 := hl.2
 obtain ⟨res, hres⟩ : ∃ r, clashOf ct b w = r := ⟨_, rfl⟩
 rw [hres]
 refine W_seq fun kz1 kq1 => ?_
 refine W_region [1] fun R hR => ?_
 simp only [go_sem]
 refine hR _ _ (kq1 _ _ ?_); clear hR R; try clear kq1 kz1
 try simp only [go_sem]
 refine W_seq fun kz2 kq2 => ?_
 refine W_seq fun kz3 kq3 => ?_
 refine W_region [1, 6, 7, 8] fun R hR => ?_
 simp only [go_sem]
 refine hR _ _ (kq3 _ _ ?_); clear hR R; try clear kq3 kz3
 try simp only [go_sem]
 refine W_block ?_
 refine W_loopS (α := Nat) (fun (i : Nat) => [(8, I i)]) (fun (i : Nat) => i ≤ w.length ∧ res = clashOf ct b (w.drop i)) (fun (i : Nat) => w.length - i) (0) rfl (⟨Nat.zero_le _, hres.symm⟩) ?_
 rintro i ⟨hi, hinv⟩
 refine W_seq fun kz4 kq4 => ?_
 refine W_region [1, 6, 7, 8, 9] fun R hR => ?_
 simp only [go_sem]
 refine hR _ _ (kq4 _ _ ?_); clear hR R; try clear kq4 kz4
 try simp only [go_sem]
 refine W_seq fun kz5 kq5 => ?_
 refine W_cond rfl (fun c1 => ?_) (fun c1 => ?_)
 ·
  try simp only [nrm] at c1
  have hi' : i < w.length := by first | assumption | omega
  obtain ⟨x, hx⟩ : ∃ x, w[i]? = some x := ⟨w[i], by simp [hi']⟩
  have hdrop : w.drop i = x :: w.drop (i + 1) := by
   rw [List.drop_eq_getElem_cons hi']; congr 1; exact (List.getElem?_eq_some_iff.1 hx).2
  have hxw := List.mem_of_getElem? hx
  rw [hdrop] at hinv
  simp only [clashOf] at hinv
  refine W_skip (kq5 _ _ ?_)
  refine W_seq fun kz6 kq6 => ?_
  refine W_block ?_
  refine W_seq fun kz7 kq7 => ?_
  refine W_region [1, 4, 6, 7, 8] fun R hR => ?_
  simp only [go_sem, hx]
  refine hR _ _ (kq7 _ _ ?_); clear hR R; try clear kq7 kz7
  try simp only [go_sem, hx]
  refine W_seq fun kz8 kq8 => ?_
  refine W_region [1, 6, 7, 8, 18] fun R hR => ?_
  simp only [go_sem, hx]
  refine GCall_of (bcross_pc Y _ ct b x hc hb (hl2 x hxw) (chkBand_ok hbv).2 (chkBand_ok (hv x hxw)).2) ?_
  simp only [go_sem, hx]
  refine hR _ _ (kq8 _ _ ?_); clear hR R; try clear kq8 kz8
  try simp only [go_sem, hx]
  refine W_cond rfl (fun c2 => ?_) (fun c2 => ?_)
  ·
   try simp only [nrm] at c2
   refine W_seq fun kz9 kq9 => ?_
   refine W_region [2] fun R hR => ?_
   simp only [go_sem, hx]
   refine hR _ _ (kq9 _ _ ?_); clear hR R; try clear kq9 kz9
   try simp only [go_sem, hx]
   refine W_ret ?_
   simp only [go_sem, hx]
   refine ⟨.inr (by trivial), ?_⟩
   first | refine Fin_same hcl rfl (Wk_eq ?_ (by simp only [go_sem])) | refine Fin_self hcl rfl (Wk_eq ?_ (by simp only [go_sem]))
   try simp only [go_sem]
   all_goals
    rw [hinv, if_pos c2]
  ·
   try simp only [nrm] at c2
   refine W_skip (kq6 _ _ ?_)
   refine W_region [1, 6, 7, 8] fun R hR => ?_
   simp only [go_sem, hx]
   try simp (disch := omega) only [wrapI, wrapU]
   refine hR _ _ ?_; clear hR R
   try simp only [go_sem, hx]
   refine ⟨i + 1, ?_, by (try simp only []); omega, ?_⟩
   ·refine Weak.trans (Weak.cutX 1 0 (by omega) (by omega) hcl (by simp only [go_sem] <;> omega) (by simp only [go_sem] <;> omega)) ?_
    simp only [go_sem]
    exact Weak.eq (by first | rfl | (simp only [go_sem]; done) | (simp only [go_sem]; rfl) | (simp [go_sem]; done) | (simp [go_sem]; omega)) (by first | rfl | (simp only [go_sem]; done) | (simp [go_sem]; done))
   ·try dsimp only
    exact ⟨hi', by rw [hinv, if_neg (by simp [c2])]⟩
 ·
  try simp only [nrm] at c1
  have hdrop : w.drop i = [] := List.drop_eq_nil_of_le (by omega)
  rw [hdrop] at hinv
  simp only [clashOf] at hinv
  refine W_exit ?_
  simp only [go_sem]
  refine kq2 _ _ ?_
  refine W_seq fun kz10 kq10 => ?_
  refine W_region [2] fun R hR => ?_
  simp only [go_sem]
  refine hR _ _ (kq10 _ _ ?_); clear hR R; try clear kq10 kz10
  try simp only [go_sem]
  refine W_ret ?_
  simp only [go_sem]
  refine ⟨.inr (by trivial), ?_⟩
  first | refine Fin_same hcl rfl (Wk_eq ?_ (by simp only [go_sem])) | refine Fin_self hcl rfl (Wk_eq ?_ (by simp only [go_sem]))
  try simp only [go_sem]
  all_goals
   rw [hinv]
set_option maxHeartbeats 2000000 in
theorem over_pc (Y : YEnv) (σ : Sg) (ct : City) (w : List Band) (b : Band) (hc : ct.Ok) (hl : BandsOk w) (hw : w.length ≤ 1000) (hk : chkCity ct = 0) (hv : ∀ x, x ∈ w → chkBand ct x = 0) (hb : b.path.length < 2 ^ 50) (hbv : chkBand ct b = 0) (hrg : ∀ s, s ∈ (sqs ct b).1 → 0 ≤ s ∧ s < ct.town.rooms.length) :
  PC Tryz.prog Y 66 [reqPV ct w b] σ (I (overOf ct b)) (σ) := by
 refine PC_of_W Tryz.func66 rfl (by kernel_rfl) Tryz.ntmps66 (by simp) fun hcl hca => ?_
 obtain ⟨l, hl3⟩ : ∃ l, l = (sqs ct b).1 := ⟨_, rfl⟩
 have hln : l.length ≤ 13 := by rw [hl3]; exact (sqs_len ct b).1
 rw [← hl3] at hrg
 rw [show overOf ct b = overL ct b l by rw [hl3]; rfl]
 obtain ⟨res, hres⟩ : ∃ r, overL ct b l = r := ⟨_, rfl⟩
 rw [hres]
 refine W_seq fun kz1 kq1 => ?_
 refine W_region [1] fun R hR => ?_
 simp only [go_sem]
 refine hR _ _ (kq1 _ _ ?_); clear hR R; try clear kq1 kz1
 try simp only [go_sem]
 refine W_seq fun kz2 kq2 => ?_
 refine W_region [1, 3] fun R hR => ?_
 simp only [go_sem]
 refine GCall_of (PC.val (v' := .tuple [ints l, I (sqs ct b).2]) (squares_pc Y _ ct b hc hb) (by rw [hl3]; rfl)) ?_
 simp only [go_sem]
 refine hR _ _ (kq2 _ _ ?_); clear hR R; try clear kq2 kz2
 try simp only [go_sem]
 refine W_seq fun kz3 kq3 => ?_
 refine W_seq fun kz4 kq4 => ?_
 refine W_region [1, 15, 16, 17] fun R hR => ?_
 simp only [go_sem]
 refine hR _ _ (kq4 _ _ ?_); clear hR R; try clear kq4 kz4
 try simp only [go_sem]
 refine W_block ?_
 refine W_loopS (α := Nat) (fun (i : Nat) => [(17, I i)]) (fun (i : Nat) => i ≤ l.length ∧ res = overL ct b (l.drop i)) (fun (i : Nat) => l.length - i) (0) rfl (⟨Nat.zero_le _, hres.symm⟩) ?_
 rintro i ⟨hi, hinv⟩
 refine W_seq fun kz5 kq5 => ?_
 refine W_region [1, 15, 16, 17, 18] fun R hR => ?_
 simp only [go_sem]
 refine hR _ _ (kq5 _ _ ?_); clear hR R; try clear kq5 kz5
 try simp only [go_sem]
 refine W_seq fun kz6 kq6 => ?_
 refine W_cond rfl (fun c1 => ?_) (fun c1 => ?_)
 ·
  try simp only [nrm] at c1
  have hi' : i < l.length := by first | assumption | omega
  obtain ⟨s, hx⟩ : ∃ s, l[i]? = some s := ⟨l[i], by simp [hi']⟩
  have hdrop : l.drop i = s :: l.drop (i + 1) := by
   rw [List.drop_eq_getElem_cons hi']; congr 1; exact (List.getElem?_eq_some_iff.1 hx).2
  obtain ⟨hs0, hs1⟩ := hrg s (List.mem_of_getElem? hx)
  obtain ⟨r, hr⟩ : ∃ r, ct.town.rooms[s.toNat]? = some r := ⟨_, List.getElem?_eq_getElem (by omega)⟩
  rw [hdrop] at hinv
  simp only [overL, hr, Option.getD_some] at hinv
  refine W_skip (kq6 _ _ ?_)
  refine W_seq fun kz7 kq7 => ?_
  refine W_block ?_
  refine W_seq fun kz8 kq8 => ?_
  refine W_region [1, 6, 15, 16, 17] fun R hR => ?_
  simp only [go_sem, hx, hs0, hr]
  refine hR _ _ (kq8 _ _ ?_); clear hR R; try clear kq8 kz8
  try simp only [go_sem, hx, hs0, hr]
  refine W_seq fun kz9 kq9 => ?_
  refine W_draw [1, 15, 16, 17, 31] [0, 1, 2, 3, 4, 5, 6, 7, 8, 9, 10] [] [[], [0], [0, 1], [], [3], [3, 4], [3, 4, 5], [], [3, 4, 5, 6, 7], [3, 4, 5, 6, 7, 8], [0, 1, 2, 3, 4, 5, 6, 7, 8, 9]] mixed (by kernel_rfl) fun R hR => ?_
  simp only [go_sem, hx, hs0, hr]
  try refine And.intro (by repeat' (first | refine And.intro ?_ ?_ | exact GOr_right (fun _ => by simp only [go_sem, hx, hs0, hr]))) ?_
  refine hR _ _ (kq9 _ _ ?_); clear hR R; try clear kq9 kz9
  try simp only [go_sem, hx, hs0, hr]
  refine W_cond rfl (fun c2 => ?_) (fun c2 => ?_)
  ·
   try simp only [nrm] at c2
   refine W_seq fun kz10 kq10 => ?_
   refine W_region [2] fun R hR => ?_
   simp only [go_sem, hx, hs0, hr]
   refine hR _ _ (kq10 _ _ ?_); clear hR R; try clear kq10 kz10
   try simp only [go_sem, hx, hs0, hr]
   refine W_ret ?_
   simp only [go_sem, hx, hs0, hr]
   refine ⟨.inr (by trivial), ?_⟩
   first | refine Fin_same hcl rfl (Wk_eq ?_ (by simp only [go_sem])) | refine Fin_self hcl rfl (Wk_eq ?_ (by simp only [go_sem]))
   try simp only [go_sem]
   all_goals
    rw [hinv, if_pos c2]
  ·
   try simp only [nrm] at c2
   refine W_skip (kq7 _ _ ?_)
   refine W_region [1, 15, 16, 17] fun R hR => ?_
   simp only [go_sem, hx, hs0, hr]
   try simp (disch := omega) only [wrapI, wrapU]
   refine hR _ _ ?_; clear hR R
   try simp only [go_sem, hx, hs0, hr]
   refine ⟨i + 1, ?_, by (try simp only []); omega, ?_⟩
   ·first | exact Weak.refl | exact Weak.eq (by first | rfl | (simp only [go_sem]; done) | (simp only [go_sem]; rfl) | (simp [go_sem]; done) | (simp [go_sem]; omega)) (by first | rfl | (simp only [go_sem]; done) | (simp [go_sem]; done))
   ·try dsimp only
    exact ⟨hi', by rw [hinv, if_neg c2]⟩
 ·
  try simp only [nrm] at c1
  have hdrop : l.drop i = [] := List.drop_eq_nil_of_le (by omega)
  rw [hdrop] at hinv
  simp only [overL] at hinv
  refine W_exit ?_
  simp only [go_sem]
  refine kq3 _ _ ?_
  refine W_seq fun kz11 kq11 => ?_
  refine W_region [2] fun R hR => ?_
  simp only [go_sem]
  refine hR _ _ (kq11 _ _ ?_); clear hR R; try clear kq11 kz11
  try simp only [go_sem]
  refine W_ret ?_
  simp only [go_sem]
  refine ⟨.inr (by trivial), ?_⟩
  first | refine Fin_same hcl rfl (Wk_eq ?_ (by simp only [go_sem])) | refine Fin_self hcl rfl (Wk_eq ?_ (by simp only [go_sem]))
  try simp only [go_sem]
  all_goals
   rw [hinv]
set_option maxHeartbeats 2000000 in
theorem CloneB_pc (Y : YEnv) (σ : Sg) (l : List Band) (hl : l.length ≤ 2 ^ 30) :
  PC Tryz.prog Y 89 [bands l] σ (.isl (l.map bdPV) (.tok σ.rooms.length l.length 6)) (σ.ext [] [l.length]) := by
 refine PC_of_W Tryz.func89 rfl (by kernel_rfl) Tryz.ntmps89 (by simp) fun hcl hca => ?_
 refine W_seq fun kz1 kq1 => ?_
 refine W_region [0] fun R hR => ?_
 simp only [go_sem]
 refine hR _ _ (kq1 _ _ ?_); clear hR R; try clear kq1 kz1
 try simp only [go_sem]
 refine W_seq fun kz2 kq2 => ?_
 refine W_seq fun kz3 kq3 => ?_
 refine W_isnil [0, 4] (by decide) (by decide) rfl Tryz.underlying29 fun bn hbn => ?_
 refine kq3 _ _ ?_
 try simp only [go_sem]
 refine W_cond rfl (fun c1 => ?_) (fun c1 => ?_)
 ·
  try simp only [nrm] at c1
  refine W_seq fun kz4 kq4 => ?_
  refine W_region [2] fun R hR => ?_
  simp only [go_sem]
  refine hR _ _ (kq4 _ _ ?_); clear hR R; try clear kq4 kz4
  try simp only [go_sem]
  refine W_weak (Weak.room (t := 2) (es := 6) rfl (by simp)) ?_
  refine W_ret ?_
  simp only [go_sem]
  refine ⟨.inr (by trivial), ?_⟩
  obtain rfl : l = [] := by simpa using hbn c1
  exact Fin_ext 0 1 hcl rfl (Wk_eq rfl (by simp only [go_sem] <;> omega)) CleanL_nil
  try simp only [go_sem]
  all_goals
   skip
 ·
  try simp only [nrm] at c1
  refine W_skip (kq2 _ _ ?_)
  refine W_seq fun kz5 kq5 => ?_
  refine W_region [2] fun R hR => ?_
  simp only [go_sem]
  simp (disch := first | omega | (simp only [go_sem] <;> omega)) only [wrapI, wrapU, appX_exact, appX_tok]
  try simp only [go_sem]
  refine hR _ _ (kq5 _ _ ?_); clear hR R; try clear kq5 kz5
  try simp only [go_sem]
  refine W_ret ?_
  simp only [go_sem]
  refine ⟨.inr (by trivial), ?_⟩
  exact Fin_ext 0 1 hcl rfl (Wk_eq (by simp only [go_sem]) (by simp only [go_sem] <;> omega)) CleanL_nil
  try simp only [go_sem]
  all_goals
   skip
end Go.Proofs.YteklodljdndcoaaGreatDoor
namespace Go.Proofs.YteklodljdndcoaaGreatDoor
open Go Go.RowKit
set_option maxRecDepth 100000
theorem chkStreets_inv {n : Int} : ∀ {l : List (Int × Int)}, chkStreets n l = 0 → ∀ s, s ∈ l → 0 ≤ s.1 ∧ s.1 < n ∧ 0 ≤ s.2 ∧ s.2 < n ∧ s.1 ≠ s.2 := by
  intro l
  induction l with
  | nil => intro _ s hs; cases hs
  | cons a r ih =>
    intro h s hs
    simp only [chkStreets] at h
    split at h
    · simp at h
    · rename_i h1
      split at h
      · simp at h
      · rename_i h2
        rcases List.mem_cons.1 hs with rfl | hs
        · simp [inR] at h1
          exact ⟨by omega, by omega, by omega, by omega, h2⟩
        · exact ih h s hs
theorem chkTown_streets {t : Town} (h : chkTown t = 0) : chkStreets t.rooms.length t.streets = 0 := by
  unfold chkTown at h
  split at h
  · simp at h
  · split at h
    · simp at h
    · split at h
      · simp at h
      · split at h
        · simp at h
        · split at h
          · rename_i h5; exact absurd h h5
          · rename_i h5; simpa using h5
theorem chkCity_town {c : City} (h : chkCity c = 0) : chkTown c.town = 0 := by
  unfold chkCity at h
  split at h
  · rename_i h1; exact absurd h h1
  · rename_i h1; simpa using h1
theorem walkSq_range {st : List (Int × Int)} {n : Int} (hs : ∀ s, s ∈ st → 0 ≤ s.1 ∧ s.1 < n ∧ 0 ≤ s.2 ∧ s.2 < n ∧ s.1 ≠ s.2) : ∀ (l : List Int) (a : Int) (out : List Int), (∀ x, x ∈ out → 0 ≤ x ∧ x < n) → ∀ x, x ∈ (walkSq st l a out).1 → 0 ≤ x ∧ x < n := by
  intro l
  induction l with
  | nil => intro a out ho x hx; exact ho x hx
  | cons k r ih =>
    intro a out ho x hx
    simp only [walkSq] at hx
    split at hx
    · cases hx
    · split at hx
      · cases hx
      · rename_i s hsk
        have h1 := hs s (List.mem_of_getElem? hsk)
        split at hx
        · refine ih _ _ (fun y hy => ?_) x hx
          rcases List.mem_append.1 hy with hy | hy
          · exact ho y hy
          · simp only [List.mem_singleton] at hy; subst hy; omega
        · split at hx
          · refine ih _ _ (fun y hy => ?_) x hx
            rcases List.mem_append.1 hy with hy | hy
            · exact ho y hy
            · simp only [List.mem_singleton] at hy; subst hy; omega
          · cases hx
theorem sqs_range {c : City} {b : Band} (hk : chkCity c = 0) : ∀ s, s ∈ (sqs c b).1 → 0 ≤ s ∧ s < c.town.rooms.length := by
  intro s hs
  unfold sqs at hs
  split at hs
  · cases hs
  · split at hs
    · cases hs
    · rename_i h1 _
      refine walkSq_range (chkStreets_inv (chkTown_streets (chkCity_town hk))) _ _ _ (fun x hx => ?_) s hs
      simp only [List.mem_singleton] at hx; subst hx
      simp [inR] at h1; omega
def grantL (c : City) : List Band → List Band → List Int
  | _, [] => []
  | w, b :: r => reqOf c w b :: grantL c (if reqOf c w b = 0 then w ++ [b] else w) r
def grantAns (c : City) (l : List Band) : List Int × Int := if chkAll c l ≠ 0 then ([], chkAll c l) else (grantL c [] l, 0)
set_option maxHeartbeats 2000000 in
theorem rawake_pc (Y : YEnv) (σ : Sg) (ct : City) (w : List Band) (b : Band) (hc : ct.Ok) (hl : BandsOk w) (hw : w.length ≤ 1000) (hk : chkCity ct = 0) (hv : ∀ x, x ∈ w → chkBand ct x = 0) (hb : b.path.length < 2 ^ 50) (hbv : chkBand ct b = 0) :
  PC Tryz.prog Y 67 [reqPV ct w b] σ (I (awkOf ct (w ++ [b]))) (σ) := by
 refine PC_of_W Tryz.func67 rfl (by kernel_rfl) Tryz.ntmps67 (by simp) fun hcl hca => ?_
 have hsl := hc.hsl
 have hl2 := hl.2
 have hall : BandsOk (w ++ [b]) := ⟨by simp; omega, fun x hx => by rcases List.mem_append.1 hx with h | h; exact hl2 x h; simp only [List.mem_singleton] at h; subst h; exact hb⟩
 have hval : ∀ x, x ∈ w ++ [b] → chkBand ct x = 0 := fun x hx => by rcases List.mem_append.1 hx with h | h; exact hv x h; simp only [List.mem_singleton] at h; subst h; exact hbv
 rw [show awkOf ct (w ++ [b]) = awkL ct (w ++ [b]) 0 ct.sleep from rfl]
 obtain ⟨res, hres⟩ : ∃ r, awkL ct (w ++ [b]) 0 ct.sleep = r := ⟨_, rfl⟩
 rw [hres]
 refine W_seq fun kz1 kq1 => ?_
 refine W_region [1] fun R hR => ?_
 simp only [go_sem]
 refine hR _ _ (kq1 _ _ ?_); clear hR R; try clear kq1 kz1
 try simp only [go_sem]
 refine W_seq fun kz2 kq2 => ?_
 refine W_draw [1, 3] [0, 1, 2, 3, 4, 5, 6, 7] [(3, 2), (4, 2), (5, 2)] [[], [0], [0, 1], [], [3], [3, 4], [0, 1, 2, 3, 4, 5], [0, 1, 2, 3, 4, 5, 6]] mixed (by kernel_rfl) fun R hR => ?_
 simp only [go_sem]
 refine GCall_of (CloneB_pc Y _ w (by omega)) ?_
 simp only [go_sem]
 simp (disch := first | omega | (simp only [go_sem] <;> omega)) only [wrapI, wrapU, appX_exact, appX_tok]
 try simp only [go_sem]
 try refine And.intro (by repeat' (first | refine And.intro ?_ ?_ | exact GOr_right (fun _ => by simp only [go_sem]))) ?_
 refine hR _ _ (kq2 _ _ ?_); clear hR R; try clear kq2 kz2
 try simp only [go_sem]
 refine W_seq fun kz3 kq3 => ?_
 refine W_seq fun kz4 kq4 => ?_
 refine W_region [1, 3, 17, 18, 19] fun R hR => ?_
 simp only [go_sem]
 refine hR _ _ (kq4 _ _ ?_); clear hR R; try clear kq4 kz4
 try simp only [go_sem]
 refine W_block ?_
 refine W_loopS (α := Nat) (fun (i : Nat) => [(19, I i)]) (fun (i : Nat) => i ≤ ct.sleep.length ∧ res = awkL ct (w ++ [b]) i (ct.sleep.drop i)) (fun (i : Nat) => ct.sleep.length - i) (0) rfl (⟨Nat.zero_le _, hres.symm⟩) ?_
 rintro i ⟨hi, hinv⟩
 refine W_seq fun kz5 kq5 => ?_
 refine W_region [1, 3, 17, 18, 19, 20] fun R hR => ?_
 simp only [go_sem]
 refine hR _ _ (kq5 _ _ ?_); clear hR R; try clear kq5 kz5
 try simp only [go_sem]
 refine W_seq fun kz6 kq6 => ?_
 refine W_cond rfl (fun c1 => ?_) (fun c1 => ?_)
 ·
  try simp only [nrm] at c1
  have hi' : i < ct.sleep.length := by first | assumption | omega
  obtain ⟨owed, hx⟩ : ∃ owed, ct.sleep[i]? = some owed := ⟨ct.sleep[i], by simp [hi']⟩
  have hdrop : ct.sleep.drop i = owed :: ct.sleep.drop (i + 1) := by
   rw [List.drop_eq_getElem_cons hi']; congr 1; exact (List.getElem?_eq_some_iff.1 hx).2
  rw [hdrop] at hinv
  simp only [awkL] at hinv
  refine W_skip (kq6 _ _ ?_)
  refine W_seq fun kz7 kq7 => ?_
  refine W_block ?_
  refine W_seq fun kz8 kq8 => ?_
  refine W_region [1, 3, 4, 5, 17, 18, 19] fun R hR => ?_
  simp only [go_sem, hx]
  refine hR _ _ (kq8 _ _ ?_); clear hR R; try clear kq8 kz8
  try simp only [go_sem, hx]
  refine W_seq fun kz9 kq9 => ?_
  refine W_region [1, 3, 5, 7, 17, 18, 19] fun R hR => ?_
  simp only [go_sem, hx]
  refine GCall_of (PC.ofRo (bsleep_pc Y _ ct (w ++ [b]) i hc hall hval) (by simp only [go_sem, bands] <;> rfl)) ?_
  simp only [go_sem, hx]
  refine hR _ _ (kq9 _ _ ?_); clear hR R; try clear kq9 kz9
  try simp only [go_sem, hx]
  refine W_seq fun kz10 kq10 => ?_
  refine W_region [1, 3, 17, 18, 19, 34] fun R hR => ?_
  simp only [go_sem, hx]
  refine hR _ _ (kq10 _ _ ?_); clear hR R; try clear kq10 kz10
  try simp only [go_sem, hx]
  refine W_cond rfl (fun c2 => ?_) (fun c2 => ?_)
  ·
   try simp only [nrm] at c2
   refine W_seq fun kz11 kq11 => ?_
   refine W_region [2] fun R hR => ?_
   simp only [go_sem, hx]
   refine hR _ _ (kq11 _ _ ?_); clear hR R; try clear kq11 kz11
   try simp only [go_sem, hx]
   refine W_ret ?_
   simp only [go_sem, hx]
   refine ⟨.inr (by trivial), ?_⟩
   first | refine Fin_same hcl rfl (Wk_eq ?_ (by simp only [go_sem])) | refine Fin_self hcl rfl (Wk_eq ?_ (by simp only [go_sem]))
   try simp only [go_sem]
   all_goals
    rw [hinv, if_pos c2]
  ·
   try simp only [nrm] at c2
   refine W_skip (kq7 _ _ ?_)
   refine W_region [1, 3, 17, 18, 19] fun R hR => ?_
   simp only [go_sem, hx]
   try simp (disch := omega) only [wrapI, wrapU]
   refine hR _ _ ?_; clear hR R
   try simp only [go_sem, hx]
   refine ⟨i + 1, ?_, by (try simp only []); omega, ?_⟩
   ·first | exact Weak.refl | exact Weak.eq (by first | rfl | (simp only [go_sem]; done) | (simp only [go_sem]; rfl) | (simp [go_sem]; done) | (simp [go_sem]; omega)) (by first | rfl | (simp only [go_sem]; done) | (simp [go_sem]; done))
   ·try dsimp only
    exact ⟨hi', by rw [hinv, if_neg c2]⟩
 ·
  try simp only [nrm] at c1
  have hdrop : ct.sleep.drop i = [] := List.drop_eq_nil_of_le (by omega)
  rw [hdrop] at hinv
  simp only [awkL] at hinv
  refine W_exit ?_
  simp only [go_sem]
  refine kq3 _ _ ?_
  refine W_seq fun kz12 kq12 => ?_
  refine W_region [2] fun R hR => ?_
  simp only [go_sem]
  refine hR _ _ (kq12 _ _ ?_); clear hR R; try clear kq12 kz12
  try simp only [go_sem]
  refine W_ret ?_
  simp only [go_sem]
  refine ⟨.inr (by trivial), ?_⟩
  first | refine Fin_same hcl rfl (Wk_eq ?_ (by simp only [go_sem])) | refine Fin_self hcl rfl (Wk_eq ?_ (by simp only [go_sem]))
  try simp only [go_sem]
  all_goals
   rw [hinv]
set_option maxHeartbeats 2000000 in
theorem granted_pc (Y : YEnv) (σ : Sg) (ct : City) (w : List Band) (b : Band) (hc : ct.Ok) (hl : BandsOk w) (hw : w.length ≤ 1000) (hk : chkCity ct = 0) (hv : ∀ x, x ∈ w → chkBand ct x = 0) (hb : b.path.length < 2 ^ 50) (hbv : chkBand ct b = 0) :
    PC Tryz.prog Y 43 [reqPV ct w b] σ (I (reqOf ct w b)) (σ) := by
  refine PC_of_W Tryz.func43 rfl (by kernel_rfl) Tryz.ntmps43 (by simp) fun hcl hca => ?_
  refine W_seq fun kz1 kq1 => ?_
  refine W_region [1] fun R hR => ?_
  simp only [go_sem]
  refine hR _ _ (kq1 _ _ ?_); clear hR R; try clear kq1 kz1
  try simp only [go_sem]
  refine W_seq fun kz2 kq2 => ?_
  refine W_region [2] fun R hR => ?_
  simp only [go_sem]
  refine GCall_of (first_pc Y _ [(65, clashOf ct b w), (66, overOf ct b), (67, awkOf ct (w ++ [b]))] (reqPV ct w b) (by simp) (fun p hp σ => by
      simp only [List.mem_cons, List.not_mem_nil, or_false] at hp
      rcases hp with rfl | rfl | rfl
      · exact clash_pc Y σ ct w b hc hl hw hk hv hb hbv
      · exact over_pc Y σ ct w b hc hl hw hk hv hb hbv (sqs_range hk)
      · exact rawake_pc Y σ ct w b hc hl hw hk hv hb hbv)) ?_
  simp only [go_sem]
  refine hR _ _ (kq2 _ _ ?_); clear hR R; try clear kq2 kz2
  try simp only [go_sem]
  refine W_ret ?_
  simp only [go_sem]
  refine ⟨.inr (by trivial), ?_⟩
  first | refine Fin_same hcl rfl (Wk_eq ?_ (by simp only [go_sem])) | refine Fin_self hcl rfl (Wk_eq ?_ (by simp only [go_sem]))
  try simp only [go_sem]
  all_goals
    simp only [reqOf, List.map]
set_option maxHeartbeats 2000000 in
theorem Grant_pc (Y : YEnv) (σ : Sg) (ct : City) (l : List Band) (hc : ct.Ok) (hl : BandsOk l) :
  PC Tryz.prog Y 16 [ctPV ct, bands l] σ (.tuple [ints (grantAns ct l).1, I (grantAns ct l).2]) (σ) := by
 refine PC_of_W Tryz.func16 rfl (by kernel_rfl) Tryz.ntmps16 (by simp) fun hcl hca => ?_
 have hl1 := hl.1
 have hl2 := hl.2
 obtain ⟨res, hres⟩ : ∃ r, grantAns ct l = r := ⟨_, rfl⟩
 rw [hres]
 refine W_seq fun kz1 kq1 => ?_
 refine W_region [1, 2] fun R hR => ?_
 simp only [go_sem]
 refine hR _ _ (kq1 _ _ ?_); clear hR R; try clear kq1 kz1
 try simp only [go_sem]
 refine W_seq fun kz2 kq2 => ?_
 refine W_seq fun kz3 kq3 => ?_
 refine W_region [1, 2, 6] fun R hR => ?_
 simp only [go_sem]
 refine GCall_of (checkBands_pc Y _ ct l hc hl) ?_
 simp only [go_sem]
 refine hR _ _ (kq3 _ _ ?_); clear hR R; try clear kq3 kz3
 try simp only [go_sem]
 refine W_seq fun kz4 kq4 => ?_
 refine W_region [1, 2, 6, 16] fun R hR => ?_
 simp only [go_sem]
 refine hR _ _ (kq4 _ _ ?_); clear hR R; try clear kq4 kz4
 try simp only [go_sem]
 refine W_cond rfl (fun c1 => ?_) (fun c1 => ?_)
 ·
  try simp only [nrm] at c1
  refine W_seq fun kz5 kq5 => ?_
  refine W_region [4, 5] fun R hR => ?_
  simp only [go_sem]
  refine hR _ _ (kq5 _ _ ?_); clear hR R; try clear kq5 kz5
  try simp only [go_sem]
  refine W_ret ?_
  simp only [go_sem]
  refine ⟨.inr (by trivial), ?_⟩
  refine Fin_same hcl rfl (Wk.ro (by simp only [go_sem]) ?_)
  try simp only [go_sem]
  all_goals
   rw [← hres]; simp [grantAns, c1]
 ·
  try simp only [nrm] at c1
  obtain ⟨hk, hlen, hcb⟩ := chkAll_ok c1
  have hv := chkBands_ok hcb
  have hq : res = (grantL ct [] l, 0) := by rw [← hres]; simp [grantAns, c1]
  refine W_skip (kq2 _ _ ?_)
  refine W_seq fun kz6 kq6 => ?_
  refine W_region [1, 2, 7] fun R hR => ?_
  simp only [go_sem]
  refine hR _ _ (kq6 _ _ ?_); clear hR R; try clear kq6 kz6
  try simp only [go_sem]
  refine W_seq fun kz7 kq7 => ?_
  refine W_region [1, 2, 7, 8] fun R hR => ?_
  simp only [go_sem]
  refine hR _ _ (kq7 _ _ ?_); clear hR R; try clear kq7 kz7
  try simp only [go_sem]
  refine W_seq fun kz8 kq8 => ?_
  refine W_seq fun kz9 kq9 => ?_
  refine W_region [2, 7, 8, 18, 19, 20] fun R hR => ?_
  simp only [go_sem]
  refine hR _ _ (kq9 _ _ ?_); clear hR R; try clear kq9 kz9
  try simp only [go_sem]
  refine W_block ?_
  refine W_weak (Weak.room (t := 7) (es := 6) rfl (by simp)) ?_
  refine W_weak (Weak.keep [2, 7, 8, 18, 19, 20]) ?_
  simp only [go_sem]
  refine W_weak (Weak.room (t := 8) (es := 1) rfl (by simp)) ?_
  refine W_weak (Weak.keep [2, 7, 8, 18, 19, 20]) ?_
  simp only [go_sem]
  refine W_loopT (α := Nat × (List Band) × (List Int)) (fun ⟨i, w, out⟩ => [(7, .isl (w.map bdPV) (.tok σ.rooms.length w.length 6)), (8, .isl (out.map I) (.tok (σ.rooms.length + 1) out.length 1)), (20, I i)]) (fun ⟨i, w, out⟩ => σ.ext [some (ctCells ct)] [w.length, out.length]) (fun ⟨i, w, out⟩ => i ≤ l.length ∧ w.length ≤ i ∧ out.length = i ∧ (∀ x, x ∈ w → x ∈ l) ∧ res = (out ++ grantL ct w (l.drop i), 0)) (fun ⟨i, w, out⟩ => l.length - i) ((0, [], [])) (by simp only [go_sem, List.map]) (by first | rfl | (simp only [go_sem]; done) | (simp only [go_sem]; rfl)) (⟨Nat.zero_le _, Nat.le_refl _, rfl, (fun x hx => by cases hx), hq⟩) ?_
  rintro ⟨i, w, out⟩ ⟨hi, hwl, hol, hsub, hinv⟩
  refine W_seq fun kz10 kq10 => ?_
  refine W_region [2, 7, 8, 18, 19, 20, 21] fun R hR => ?_
  simp only [go_sem]
  refine hR _ _ (kq10 _ _ ?_); clear hR R; try clear kq10 kz10
  try simp only [go_sem]
  refine W_seq fun kz11 kq11 => ?_
  refine W_cond rfl (fun c2 => ?_) (fun c2 => ?_)
  ·
   try simp only [nrm] at c2
   have hi' : i < l.length := by first | assumption | omega
   obtain ⟨b, hx⟩ : ∃ b, l[i]? = some b := ⟨l[i], by simp [hi']⟩
   have hdrop : l.drop i = b :: l.drop (i + 1) := by
    rw [List.drop_eq_getElem_cons hi']; congr 1; exact (List.getElem?_eq_some_iff.1 hx).2
   have hbl := List.mem_of_getElem? hx
   rw [hdrop] at hinv
   simp only [grantL] at hinv
   refine W_skip (kq11 _ _ ?_)
   refine W_seq fun kz12 kq12 => ?_
   refine W_block ?_
   refine W_seq fun kz13 kq13 => ?_
   refine W_region [2, 7, 8, 10, 18, 19, 20] fun R hR => ?_
   simp only [go_sem, hx]
   refine hR _ _ (kq13 _ _ ?_); clear hR R; try clear kq13 kz13
   try simp only [go_sem, hx]
   refine W_seq fun kz14 kq14 => ?_
   refine W_region [2, 7, 8, 10, 11, 18, 19, 20] fun R hR => ?_
   simp only [go_sem, hx]
   refine GCall_of (PC.ofRo (granted_pc Y _ ct w b hc ⟨by omega, fun x hx => hl2 x (hsub x hx)⟩ (by omega) hk (fun x hx => hv x (hsub x hx)) (hl2 b hbl) (hv b hbl)) (by simp only [go_sem, bands] <;> rfl)) ?_
   simp only [go_sem, hx]
   refine hR _ _ (kq14 _ _ ?_); clear hR R; try clear kq14 kz14
   try simp only [go_sem, hx]
   refine W_seq fun kz15 kq15 => ?_
   refine W_seq fun kz16 kq16 => ?_
   refine W_region [2, 7, 8, 10, 11, 18, 19, 20, 30] fun R hR => ?_
   simp only [go_sem, hx]
   refine hR _ _ (kq16 _ _ ?_); clear hR R; try clear kq16 kz16
   try simp only [go_sem, hx]
   refine W_cond rfl (fun c3 => ?_) (fun c3 => ?_)
   ·
    try simp only [nrm] at c3
    refine W_region [2, 7, 8, 11, 18, 19, 20] fun R hR => ?_
    simp only [go_sem, hx]
    simp (disch := first | omega | (simp only [go_sem] <;> omega)) only [wrapI, wrapU, appX_exact, appX_tok]
    try simp only [go_sem, hx]
    refine hR _ _ (kq15 _ _ ?_); clear hR R; try clear kq15 kz15
    try simp only [go_sem, hx]
    refine W_region [2, 7, 8, 18, 19, 20] fun R hR => ?_
    simp only [go_sem, hx]
    simp (disch := first | omega | (simp only [go_sem] <;> omega)) only [wrapI, wrapU, appX_exact, appX_tok]
    try simp only [go_sem, hx]
    refine hR _ _ (kq12 _ _ ?_); clear hR R; try clear kq12 kz12
    try simp only [go_sem, hx]
    refine W_region [2, 7, 8, 18, 19, 20] fun R hR => ?_
    simp only [go_sem, hx]
    try simp (disch := omega) only [wrapI, wrapU]
    refine hR _ _ ?_; clear hR R
    try simp only [go_sem, hx]
    refine ⟨(i + 1, w ++ [b], out ++ [reqOf ct w b]), ?_, by (try simp only []); omega, ?_⟩
    ·refine Weak.trans (Weak.cutX 1 2 (by omega) (by omega) hcl (by simp only [go_sem] <;> omega) (by simp only [go_sem] <;> omega)) ?_
     simp only [go_sem]
     exact Weak.eq (by first | rfl | (simp only [go_sem]; done) | (simp only [go_sem]; rfl) | (simp [go_sem]; done) | (simp [go_sem]; omega)) (by first | rfl | (simp only [go_sem]; done) | (simp [go_sem]; done))
    ·try dsimp only
     refine ⟨hi', by (try simp); omega, by simp; omega, fun x hx => ?_, ?_⟩
     ·first | exact hsub x hx | (rcases List.mem_append.1 hx with h | h; exact hsub x h; simp only [List.mem_singleton] at h; subst h; exact hbl)
     ·rw [hinv]; simp [c3]
   ·
    try simp only [nrm] at c3
    refine W_skip (kq15 _ _ ?_)
    refine W_region [2, 7, 8, 18, 19, 20] fun R hR => ?_
    simp only [go_sem, hx]
    simp (disch := first | omega | (simp only [go_sem] <;> omega)) only [wrapI, wrapU, appX_exact, appX_tok]
    try simp only [go_sem, hx]
    refine hR _ _ (kq12 _ _ ?_); clear hR R; try clear kq12 kz12
    try simp only [go_sem, hx]
    refine W_region [2, 7, 8, 18, 19, 20] fun R hR => ?_
    simp only [go_sem, hx]
    try simp (disch := omega) only [wrapI, wrapU]
    refine hR _ _ ?_; clear hR R
    try simp only [go_sem, hx]
    refine ⟨(i + 1, w, out ++ [reqOf ct w b]), ?_, by (try simp only []); omega, ?_⟩
    ·refine Weak.trans (Weak.cutX 1 2 (by omega) (by omega) hcl (by simp only [go_sem] <;> omega) (by simp only [go_sem] <;> omega)) ?_
     simp only [go_sem]
     exact Weak.eq (by first | rfl | (simp only [go_sem]; done) | (simp only [go_sem]; rfl) | (simp [go_sem]; done) | (simp [go_sem]; omega)) (by first | rfl | (simp only [go_sem]; done) | (simp [go_sem]; done))
    ·try dsimp only
     refine ⟨hi', by (try simp); omega, by simp; omega, fun x hx => ?_, ?_⟩
     ·first | exact hsub x hx | (rcases List.mem_append.1 hx with h | h; exact hsub x h; simp only [List.mem_singleton] at h; subst h; exact hbl)
     ·rw [hinv]; simp [c3]
  ·
   try simp only [nrm] at c2
   have hdrop : l.drop i = [] := List.drop_eq_nil_of_le (by omega)
   rw [hdrop] at hinv
   simp only [grantL, List.append_nil] at hinv
   refine W_exit ?_
   simp only [go_sem]
   refine kq8 _ _ ?_
   refine W_seq fun kz17 kq17 => ?_
   refine W_region [4, 5] fun R hR => ?_
   simp only [go_sem]
   refine hR _ _ (kq17 _ _ ?_); clear hR R; try clear kq17 kz17
   try simp only [go_sem]
   refine W_ret ?_
   simp only [go_sem]
   refine ⟨.inr (by trivial), ?_⟩
   refine Fin_same hcl rfl (Wk.ro (by simp only [go_sem]) ?_)
   try simp only [go_sem]
   all_goals
    rw [hinv]
set_option maxHeartbeats 2000000 in
theorem EqErrors_pc (Y : YEnv) (σ : Sg) (xs ys : List Int) (o o2 : Own) (hx : xs.length < 2 ^ 50) :
  PC Tryz.prog Y 22 [.isl (xs.map I) o, .isl (ys.map I) o2] σ (.bool (decide (xs = ys))) (σ) := by
 refine PC_of_W Tryz.func22 rfl (by kernel_rfl) Tryz.ntmps22 (by simp) fun hcl hca => ?_
 refine W_seq fun kz1 kq1 => ?_
 refine W_region [0, 1] fun R hR => ?_
 simp only [go_sem]
 refine hR _ _ (kq1 _ _ ?_); clear hR R; try clear kq1 kz1
 try simp only [go_sem]
 refine W_seq fun kz2 kq2 => ?_
 refine W_seq fun kz3 kq3 => ?_
 refine W_region [0, 1, 10] fun R hR => ?_
 simp only [go_sem]
 refine hR _ _ (kq3 _ _ ?_); clear hR R; try clear kq3 kz3
 try simp only [go_sem]
 refine W_cond rfl (fun c1 => ?_) (fun c1 => ?_)
 ·
  try simp only [nrm] at c1
  refine W_seq fun kz4 kq4 => ?_
  refine W_region [4] fun R hR => ?_
  simp only [go_sem]
  refine hR _ _ (kq4 _ _ ?_); clear hR R; try clear kq4 kz4
  try simp only [go_sem]
  refine W_ret ?_
  simp only [go_sem]
  refine ⟨.inr (by trivial), ?_⟩
  first | refine Fin_same hcl rfl (Wk_eq ?_ (by simp only [go_sem])) | refine Fin_self hcl rfl (Wk_eq ?_ (by simp only [go_sem]))
  try simp only [go_sem]
  all_goals
   simp; intro h; subst h; exact c1 rfl
 ·
  try simp only [nrm] at c1
  refine W_skip (kq2 _ _ ?_)
  refine W_seq fun kz5 kq5 => ?_
  refine W_seq fun kz6 kq6 => ?_
  refine W_region [0, 1, 5] fun R hR => ?_
  simp only [go_sem]
  refine hR _ _ (kq6 _ _ ?_); clear hR R; try clear kq6 kz6
  try simp only [go_sem]
  refine W_block ?_
  refine W_loopS (α := Nat) (fun (i : Nat) => [(5, I i)]) (fun (i : Nat) => i ≤ xs.length ∧ xs.take i = ys.take i) (fun (i : Nat) => xs.length - i) (0) rfl (⟨Nat.zero_le _, rfl⟩) ?_
  rintro i ⟨hi, ht⟩
  refine W_seq fun kz7 kq7 => ?_
  refine W_seq fun kz8 kq8 => ?_
  refine W_region [0, 1, 5, 14] fun R hR => ?_
  simp only [go_sem]
  refine hR _ _ (kq8 _ _ ?_); clear hR R; try clear kq8 kz8
  try simp only [go_sem]
  refine W_cond rfl (fun c2 => ?_) (fun c2 => ?_)
  ·
   try simp only [nrm] at c2
   have hi' : i < xs.length := by first | assumption | omega
   obtain ⟨x, hxi⟩ : ∃ x, xs[i]? = some x := ⟨xs[i], by simp⟩
   obtain ⟨y, hyi⟩ : ∃ y, ys[i]? = some y := ⟨ys[i]'(by omega), by simp⟩
   refine W_skip (kq7 _ _ ?_)
   refine W_seq fun kz9 kq9 => ?_
   refine W_block ?_
   refine W_seq fun kz10 kq10 => ?_
   refine W_draw [0, 1, 5, 25] [0, 1, 2, 3, 4, 5, 6, 7, 8] [] [[], [], [0, 1], [0, 1, 2], [], [], [4, 5], [4, 5, 6], [0, 1, 2, 3, 4, 5, 6, 7]] mixed (by kernel_rfl) fun R hR => ?_
   simp only [go_sem, hxi, hyi]
   try refine And.intro (by repeat' (first | refine And.intro ?_ ?_ | exact GOr_right (fun _ => by simp only [go_sem, hxi, hyi]))) ?_
   refine hR _ _ (kq10 _ _ ?_); clear hR R; try clear kq10 kz10
   try simp only [go_sem, hxi, hyi]
   refine W_cond rfl (fun c3 => ?_) (fun c3 => ?_)
   ·
    try simp only [nrm] at c3
    refine W_seq fun kz11 kq11 => ?_
    refine W_region [4] fun R hR => ?_
    simp only [go_sem, hxi, hyi]
    refine hR _ _ (kq11 _ _ ?_); clear hR R; try clear kq11 kz11
    try simp only [go_sem, hxi, hyi]
    refine W_ret ?_
    simp only [go_sem, hxi, hyi]
    refine ⟨.inr (by trivial), ?_⟩
    first | refine Fin_same hcl rfl (Wk_eq ?_ (by simp only [go_sem])) | refine Fin_self hcl rfl (Wk_eq ?_ (by simp only [go_sem]))
    try simp only [go_sem]
    all_goals
     simp; intro h; subst h; rw [hxi] at hyi; injection hyi with h; exact c3 h
   ·
    try simp only [nrm] at c3
    refine W_skip (kq9 _ _ ?_)
    refine W_region [0, 1, 5] fun R hR => ?_
    simp only [go_sem, hxi, hyi]
    try simp (disch := omega) only [wrapI, wrapU]
    refine hR _ _ ?_; clear hR R
    try simp only [go_sem, hxi, hyi]
    refine ⟨i + 1, ?_, by (try simp only []); omega, ?_⟩
    ·first | exact Weak.refl | exact Weak.eq (by first | rfl | (simp only [go_sem]; done) | (simp only [go_sem]; rfl) | (simp [go_sem]; done) | (simp [go_sem]; omega)) (by first | rfl | (simp only [go_sem]; done) | (simp [go_sem]; done))
    ·try dsimp only
     exact ⟨hi', by rw [List.take_add_one, List.take_add_one, ht, hxi, hyi, c3]⟩
  ·
   try simp only [nrm] at c2
   have hie : i = xs.length := by omega
   subst hie
   have hxy : xs = ys := by rw [List.take_length] at ht; rw [c1, List.take_length] at ht; exact ht
   refine W_exit ?_
   simp only [go_sem]
   refine kq5 _ _ ?_
   refine W_seq fun kz12 kq12 => ?_
   refine W_region [4] fun R hR => ?_
   simp only [go_sem]
   refine hR _ _ (kq12 _ _ ?_); clear hR R; try clear kq12 kz12
   try simp only [go_sem]
   refine W_ret ?_
   simp only [go_sem]
   refine ⟨.inr (by trivial), ?_⟩
   first | refine Fin_same hcl rfl (Wk_eq ?_ (by simp only [go_sem])) | refine Fin_self hcl rfl (Wk_eq ?_ (by simp only [go_sem]))
   try simp only [go_sem]
   all_goals
    simp [hxy]
end Go.Proofs.YteklodljdndcoaaGreatDoor
namespace Go.Proofs.YteklodljdndcoaaGreatDoor
open Go Go.RowKit
set_option maxRecDepth 100000
def quarterC : City := ⟨⟨[110, 80, 50], [(0, 1), (1, 2), (0, 2)], [], 6⟩, 5, [590, 500, 0]⟩
def bandsQ : List Band := [⟨0, [0, 1], 100, 110, 20, 50⟩, ⟨2, [1], 120, 120, 30, 40⟩, ⟨1, [], 300, 300, 10, 90⟩, ⟨0, [], 650, 650, 10, 1⟩]
def laterQ (s : Int) : Band := ⟨2, [1], s, s, 30, 40⟩
theorem quarter_ok : quarterC.Ok := ⟨by decide, by decide, by decide, (fun g hg => by cases hg), by decide⟩
theorem bandsQ_ok : BandsOk bandsQ := ⟨by decide, fun b hb => by simp only [bandsQ, List.mem_cons, List.not_mem_nil, or_false] at hb; rcases hb with rfl | rfl | rfl | rfl <;> decide⟩
theorem ex_grant : grantAns quarterC bandsQ = ([0, 10, 13, 11], 0) := by decide +kernel
theorem ex_cross : crossAns quarterC ⟨0, [0, 1], 100, 110, 20, 50⟩ (laterQ 60) = (3, 0) := by decide +kernel
theorem ex_sleep : sleepAns quarterC (bandsQ.take 1) 0 = (130, 590, 0) := by decide +kernel
set_option maxHeartbeats 2000000 in
theorem quarter_pc (Y : YEnv) (σ : Sg)  :
  PC Tryz.prog Y 17 [] σ (ctPV quarterC) (σ) := by
 refine PC_of_W Tryz.func17 rfl (by kernel_rfl) Tryz.ntmps17 (by simp) fun hcl hca => ?_
 refine W_seq fun kz1 kq1 => ?_
 refine W_region [0] fun R hR => ?_
 simp only [go_sem]
 refine hR _ _ (kq1 _ _ ?_); clear hR R; try clear kq1 kz1
 try simp only [go_sem]
 refine W_seq fun kz2 kq2 => ?_
 refine W_region [0] fun R hR => ?_
 simp only [go_sem]
 refine hR _ _ (kq2 _ _ ?_); clear hR R; try clear kq2 kz2
 try simp only [go_sem]
 refine W_ret ?_
 simp only [go_sem]
 refine ⟨.inr (by trivial), ?_⟩
 refine Fin_same hcl (by show resPV Tryz.prog _ _ [.cell 0 28] = some _; simp only [resPV, go_sem]; rfl) (Wk.ro (by simp only [go_sem]) ?_)
 try simp only [go_sem]
 all_goals
  rfl
set_option maxHeartbeats 2000000 in
theorem span_pc (Y : YEnv) (σ : Sg) (lo hi : Int) :
  PC Tryz.prog Y 44 [I lo, I hi] σ (.agg [I lo, I hi]) (σ) := by
 refine PC_of_W Tryz.func44 rfl (by kernel_rfl) Tryz.ntmps44 (by simp) fun hcl hca => ?_
 refine W_seq fun kz1 kq1 => ?_
 refine W_region [0, 1, 4] fun R hR => ?_
 simp only [go_sem]
 refine hR _ _ (kq1 _ _ ?_); clear hR R; try clear kq1 kz1
 try simp only [go_sem]
 refine W_seq fun kz2 kq2 => ?_
 refine W_region [4] fun R hR => ?_
 simp only [go_sem]
 refine hR _ _ (kq2 _ _ ?_); clear hR R; try clear kq2 kz2
 try simp only [go_sem]
 refine W_ret ?_
 simp only [go_sem]
 refine ⟨.inr (by trivial), ?_⟩
 first | refine Fin_same hcl (by show resPV Tryz.prog _ _ [.cell 4 49] = some _; simp only [resPV, go_sem]; rfl) (Wk_eq ?_ (by simp only [go_sem])) | refine Fin_same hcl rfl (Wk_eq ?_ (by simp only [go_sem]))
 try simp only [go_sem]
 all_goals
  first | rfl | (simp_all; done) | (simp_all; omega)
set_option maxHeartbeats 2000000 in
theorem bandsQ_pc (Y : YEnv) (σ : Sg)  :
  PC Tryz.prog Y 18 [] σ (bands bandsQ) (σ) := by
 refine PC_of_W Tryz.func18 rfl (by kernel_rfl) Tryz.ntmps18 (by simp) fun hcl hca => ?_
 refine W_seq fun kz1 kq1 => ?_
 refine W_region [] fun R hR => ?_
 simp only [go_sem]
 refine hR _ _ (kq1 _ _ ?_); clear hR R; try clear kq1 kz1
 try simp only [go_sem]
 refine W_seq fun kz2 kq2 => ?_
 refine W_region [0] fun R hR => ?_
 simp only [go_sem]
 refine GCall_of (span_pc Y _ 100 110) ?_
 simp only [go_sem]
 refine GCall_of (span_pc Y _ 120 120) ?_
 simp only [go_sem]
 refine GCall_of (span_pc Y _ 300 300) ?_
 simp only [go_sem]
 refine GCall_of (span_pc Y _ 650 650) ?_
 simp only [go_sem]
 refine hR _ _ (kq2 _ _ ?_); clear hR R; try clear kq2 kz2
 try simp only [go_sem]
 refine W_ret ?_
 simp only [go_sem]
 refine ⟨.inr (by trivial), ?_⟩
 first | refine Fin_same hcl rfl (Wk.ro (by simp only [go_sem]) ?_) | refine Fin_self hcl rfl (Wk.ro (by simp only [go_sem]) ?_)
 try simp only [go_sem]
 all_goals
  rfl
set_option maxHeartbeats 2000000 in
theorem later_pc (Y : YEnv) (σ : Sg) (s : Int) :
  PC Tryz.prog Y 20 [I s] σ (bdPV (laterQ s)) (σ) := by
 refine PC_of_W Tryz.func20 rfl (by kernel_rfl) Tryz.ntmps20 (by simp) fun hcl hca => ?_
 have q0 : (0 : Int) ≤ 1 := by decide
 have q1 : (1 : Int).toNat = 1 := rfl
 have q2 : bandsQ[1]? = some ⟨2, [1], 120, 120, 30, 40⟩ := rfl
 refine W_seq fun kz1 kq1 => ?_
 refine W_region [0, 2] fun R hR => ?_
 simp only [go_sem, q0, q1, q2]
 refine hR _ _ (kq1 _ _ ?_); clear hR R; try clear kq1 kz1
 try simp only [go_sem, q0, q1, q2]
 refine W_seq fun kz2 kq2 => ?_
 refine W_region [0, 2, 3] fun R hR => ?_
 simp only [go_sem, q0, q1, q2]
 refine GCall_of (bandsQ_pc Y _) ?_
 simp only [go_sem, q0, q1, q2]
 refine hR _ _ (kq2 _ _ ?_); clear hR R; try clear kq2 kz2
 try simp only [go_sem, q0, q1, q2]
 refine W_seq fun kz3 kq3 => ?_
 refine W_region [2, 3] fun R hR => ?_
 simp only [go_sem, q0, q1, q2]
 refine GCall_of (span_pc Y _ s s) ?_
 simp only [go_sem, q0, q1, q2]
 refine hR _ _ (kq3 _ _ ?_); clear hR R; try clear kq3 kz3
 try simp only [go_sem, q0, q1, q2]
 refine W_seq fun kz4 kq4 => ?_
 refine W_region [2] fun R hR => ?_
 simp only [go_sem, q0, q1, q2]
 refine hR _ _ (kq4 _ _ ?_); clear hR R; try clear kq4 kz4
 try simp only [go_sem, q0, q1, q2]
 refine W_ret ?_
 simp only [go_sem, q0, q1, q2]
 refine ⟨.inr (by trivial), ?_⟩
 refine Fin_same hcl (by show resPV Tryz.prog _ _ [.cell 2 53] = some _; simp only [resPV, go_sem]; rfl) (Wk.ro (by simp only [go_sem]) ?_)
 try simp only [go_sem]
 all_goals
  rfl
set_option maxHeartbeats 2000000 in
theorem lawake_pc (Y : YEnv) (σ : Sg)  :
  PC Tryz.prog Y 6 [] σ (.bool true) (σ) := by
 refine PC_of_W Tryz.func6 rfl (by kernel_rfl) Tryz.ntmps6 (by simp) fun hcl hca => ?_
 have q0 : (0 : Int) ≤ 0 := by decide
 have q1 : (0 : Int).toNat = 0 := rfl
 have q2 : bandsQ[0]? = some ⟨0, [0, 1], 100, 110, 20, 50⟩ := rfl
 have q3 : (0 : Int) ≤ 1 := by decide
 have q4 : (1 : Int).toNat = 1 := rfl
 have q5 : 1 ≤ bandsQ.length := by decide
 refine W_seq fun kz1 kq1 => ?_
 refine W_region [] fun R hR => ?_
 simp only [go_sem, q0, q1, q2, q3, q4, q5]
 refine hR _ _ (kq1 _ _ ?_); clear hR R; try clear kq1 kz1
 try simp only [go_sem, q0, q1, q2, q3, q4, q5]
 refine W_seq fun kz2 kq2 => ?_
 refine W_region [1, 2] fun R hR => ?_
 simp only [go_sem, q0, q1, q2, q3, q4, q5]
 refine GCall_of (quarter_pc Y _) ?_
 simp only [go_sem, q0, q1, q2, q3, q4, q5]
 refine GCall_of (bandsQ_pc Y _) ?_
 simp only [go_sem, q0, q1, q2, q3, q4, q5]
 refine GCall_of (PC.val (v' := .tuple [ints [0, 10, 13, 11], I 0]) (Grant_pc Y _ quarterC bandsQ quarter_ok bandsQ_ok) (by rw [ex_grant])) ?_
 simp only [go_sem, q0, q1, q2, q3, q4, q5]
 refine hR _ _ (kq2 _ _ ?_); clear hR R; try clear kq2 kz2
 try simp only [go_sem, q0, q1, q2, q3, q4, q5]
 refine W_seq fun kz3 kq3 => ?_
 refine W_draw [1, 2, 3, 4] [0, 1, 2, 3, 4, 5, 6, 7, 8, 9, 10] [(2, 5), (3, 5)] [[], [0], [0, 1], [0, 1, 2], [0, 1], [0, 1, 2, 3, 4], [0, 1, 2, 3, 4, 5], [0, 1, 2, 3, 4, 5, 6], [0, 1, 2, 3, 4, 5, 6], [0, 1, 2, 3, 4, 5, 6, 7], [0, 1, 2, 3, 4, 5, 6, 7, 8, 9]] mixed (by kernel_rfl) fun R hR => ?_
 simp only [go_sem, q0, q1, q2, q3, q4, q5]
 refine GCall_of (quarter_pc Y _) ?_
 simp only [go_sem, q0, q1, q2, q3, q4, q5]
 refine GCall_of (bandsQ_pc Y _) ?_
 simp only [go_sem, q0, q1, q2, q3, q4, q5]
 refine GCall_of (later_pc Y _ 60) ?_
 simp only [go_sem, q0, q1, q2, q3, q4, q5]
 refine GCall_of (PC.val (v' := .tuple [I 3, I 0]) (bCross_pc Y _ quarterC ⟨0, [0, 1], 100, 110, 20, 50⟩ (laterQ 60) quarter_ok (by decide) (by decide)) (by rw [ex_cross])) ?_
 simp only [go_sem, q0, q1, q2, q3, q4, q5]
 try refine And.intro (by repeat' (first | refine And.intro ?_ ?_ | exact GOr_right (fun _ => by simp only [go_sem, q0, q1, q2, q3, q4, q5]))) ?_
 refine hR _ _ (kq3 _ _ ?_); clear hR R; try clear kq3 kz3
 try simp only [go_sem, q0, q1, q2, q3, q4, q5]
 refine W_seq fun kz4 kq4 => ?_
 refine W_region [1, 2, 3, 4, 5, 6, 7] fun R hR => ?_
 simp only [go_sem, q0, q1, q2, q3, q4, q5]
 refine GCall_of (quarter_pc Y _) ?_
 simp only [go_sem, q0, q1, q2, q3, q4, q5]
 refine GCall_of (bandsQ_pc Y _) ?_
 simp only [go_sem, q0, q1, q2, q3, q4, q5]
 refine GCall_of (PC.val (v' := .tuple [I 130, I 590, I 0]) (bSleep_pc Y _ quarterC (bandsQ.take 1) 0 quarter_ok ⟨by decide, fun b hb => bandsQ_ok.2 b (List.mem_of_mem_take hb)⟩) (by rw [ex_sleep])) ?_
 simp only [go_sem, q0, q1, q2, q3, q4, q5]
 refine hR _ _ (kq4 _ _ ?_); clear hR R; try clear kq4 kz4
 try simp only [go_sem, q0, q1, q2, q3, q4, q5]
 refine W_seq fun kz5 kq5 => ?_
 refine W_region [0] fun R hR => ?_
 simp only [go_sem, q0, q1, q2, q3, q4, q5]
 refine GCall_of (PC.val (v' := .bool true) (EqErrors_pc Y _ [0, 10, 13, 11] [0, 10, 13, 11] .ro .exact (by decide)) (by simp)) ?_
 simp only [go_sem, q0, q1, q2, q3, q4, q5]
 refine hR _ _ (kq5 _ _ ?_); clear hR R; try clear kq5 kz5
 try simp only [go_sem, q0, q1, q2, q3, q4, q5]
 refine W_ret ?_
 simp only [go_sem, q0, q1, q2, q3, q4, q5]
 refine ⟨.inr (by trivial), ?_⟩
 first | refine Fin_same hcl rfl (Wk_eq ?_ (by simp only [go_sem])) | refine Fin_self hcl rfl (Wk_eq ?_ (by simp only [go_sem]))
 try simp only [go_sem]
 all_goals
  first | rfl | (simp_all; done) | (simp_all; omega)
end Go.Proofs.YteklodljdndcoaaGreatDoor
namespace Go.Proofs.YteklodljdndcoaaGreatDoor
open Go Go.RowKit
structure CityV (c : City) : Prop where
  tv : TownV 4 5 1 c.town
  b0 : 0 ≤ c.brk
  b1 : c.brk ≤ 60
  sl : c.sleep.length = c.town.rooms.length
  sv : ∀ n, n ∈ c.sleep → 0 ≤ n ∧ n ≤ 720
theorem cityA_ok {t : Town} {brk : Int} (ht : TownV 4 5 1 t) (h0 : 0 ≤ brk) (h1 : brk ≤ 60) : ∀ (k : Nat) (acc : List Int), acc.length + k = t.rooms.length → (∀ n, n ∈ acc → 0 ≤ n ∧ n ≤ 720) → Holds (cityA t brk k acc) CityV := by
  intro k
  induction k with
  | zero => intro acc hl ha; exact .ret ⟨ht, h0, h1, by simpa using hl, ha⟩
  | succ k ih =>
    intro acc hl ha
    refine (roll_bd 721).bind fun x hx => (mid_bd 300 600 (by omega)).bind fun y hy => (anyOf_mem [0, x, y] (by simp)).bind fun z hz => ih _ (by simp; omega) fun n hn => ?_
    have hz := mem3 hz
    rcases List.mem_append.1 hn with hn | hn
    · exact ha n hn
    · simp only [List.mem_singleton] at hn; subst hn; omega
theorem cityD_ok : Holds cityD CityV := by
  unfold cityD
  refine Holds.bind (R := TownV 4 5 1) townD451 fun t ht => (roll_bd 10).bind fun x hx => (roll_bd 60).bind fun y hy => (anyOf_mem [0, 1, x, y] (by simp)).bind fun brk hb => ?_
  have hb := mem4 hb
  exact cityA_ok ht (by omega) (by omega) _ [] (by simp) (fun n hn => by cases hn)
theorem CityV.small {c : City} (h : CityV c) : c.Small := by
  have := h.tv.r1; have := h.tv.s1; have := h.tv.g1; have := h.sl
  exact ⟨by omega, by omega, by omega, fun g hg => by have := (h.tv.g2 g hg).p1; omega, by omega⟩
structure BandV (c : City) (b : Band) : Prop where
  f0 : 0 ≤ b.first
  f1 : b.first < c.town.rooms.length
  p1 : b.path.length ≤ 4
  p2 : chkPath c.town.streets b.path b.first = 0
  l0 : 0 ≤ b.lo
  l1 : b.lo ≤ b.hi
  l2 : b.hi ≤ b.lo + 4
  s0 : 1 ≤ b.stay
  s1 : b.stay ≤ 20
  q0 : 0 ≤ b.people
  q1 : b.people ≤ 600
  e1 : b.hi + b.stay * ((b.path.length : Int) + 1) ≤ 720
theorem bandP_ok {c : City} {first stay people : Int} (hf0 : 0 ≤ first) (hf1 : first < c.town.rooms.length) (hs0 : 1 ≤ stay) (hs1 : stay ≤ 20) (hp0 : 0 ≤ people) (hp1 : people ≤ 600) : ∀ (k : Nat) (a : Int) (acc : List Int), (k ≠ 0 → 0 < c.town.streets.length) → acc.length + k ≤ 4 →
    chkPath c.town.streets acc first = 0 → pathEnd c.town.streets acc first = a → Holds (bandP c.town.streets first stay people k a acc) (BandV c) := by
  intro k
  induction k with
  | zero =>
    intro a acc _ hl hc _
    have hm := mul_bd (a := stay) (b := (acc.length : Int) + 1) (A := 20) (B := 5) (by omega) hs1 (by omega) (by omega)
    refine (anyOf_mem [60, 200, 720 - stay * ((acc.length : Int) + 1) - 4] (by simp)).bind fun m hm' => (roll_bd m).bind fun st hst => (roll_bd 5).bind fun z hz => (anyOf_mem [0, 0, z] (by simp)).bind fun more hmo => ?_
    have hm' := mem3 hm'
    have hmo := mem3 hmo
    exact .ret ⟨hf0, hf1, by simpa using hl, hc, by (try dsimp only); omega, by (try dsimp only); omega, by (try dsimp only); omega, hs0, hs1, hp0, hp1, by (try dsimp only); omega⟩
  | succ k ih =>
    intro a acc h0 hl hc he
    have hs := h0 (by omega)
    refine (roll_bd c.town.streets.length).bind fun s hsb => ?_
    split
    · rename_i ho
      obtain ⟨q1, q2⟩ := chkPath_snoc (s := s) (by omega) (by omega) acc first hc (by rw [he]; exact ho)
      exact ih _ _ (fun _ => hs) (by simp; omega) q1 (by rw [q2, he])
    · exact ih _ _ (fun _ => hs) (by omega) hc he
theorem bandD_ok {c : City} (hc : CityV c) : Holds (bandD c) (BandV c) := by
  have := hc.tv.r0
  unfold bandD
  refine (roll_bd c.town.rooms.length).bind fun f hf => (anyOf_mem [6, 20] (by simp)).bind fun q hq => ?_
  have hq := mem2 hq
  refine (mid_bd 1 q (by omega)).bind fun st hst => (roll_bd 60).bind fun x hx => (roll_bd 600).bind fun y hy => (anyOf_mem [0, x, y] (by simp)).bind fun p hp => (roll_bd 5).bind fun k hk => ?_
  have hp := mem3 hp
  refine bandP_ok (by omega) (by omega) (by omega) (by omega) (by omega) (by omega) _ _ [] (fun h => ?_) ?_ rfl rfl
  · split at h
    · assumption
    · exact absurd rfl h
  · split <;> simp <;> omega
theorem bandsA_ok {c : City} (hc : CityV c) : ∀ (k : Nat) (acc : List Band) (n : Nat), acc.length + k ≤ n → (∀ b, b ∈ acc → BandV c b) → Holds (bandsA c k acc) fun l => l.length ≤ n ∧ ∀ b, b ∈ l → BandV c b := by
  intro k
  induction k with
  | zero => intro acc n hl ha; exact .ret ⟨by simpa using hl, ha⟩
  | succ k ih =>
    intro acc n hl ha
    refine (bandD_ok hc).bind fun x hx => ih _ n (by simp; omega) fun b hb => ?_
    rcases List.mem_append.1 hb with hb | hb
    · exact ha b hb
    · simp only [List.mem_singleton] at hb; subst hb; exact hx
theorem bandsD_ok {c : City} (hc : CityV c) (most : Nat) : Holds (bandsD c most) fun l => l.length ≤ most ∧ ∀ b, b ∈ l → BandV c b := by
  unfold bandsD
  refine (roll_bd (most + 1)).bind fun k hk => bandsA_ok hc _ [] most (by simp; omega) (fun b hb => by cases hb)
end Go.Proofs.YteklodljdndcoaaGreatDoor
namespace Go.Proofs.YteklodljdndcoaaGreatDoor
open Go Go.RowKit
set_option maxRecDepth 100000
/-- A row of bands, in a row. -/
def bsPV (l : List Band) : PV := .isl (l.map bdPV) .ro
theorem cA_ct {a b c : Nat} {xs : List City} : CleanAll a b c (xs.map ctPV) = True := CleanAll_map clean_ct
theorem cA_bs {a b c : Nat} {xs : List (List Band)} : CleanAll a b c (xs.map bsPV) = True := CleanAll_map fun x => by simp only [bsPV, go_sem]
attribute [go_sem] bsPV cA_ct cA_bs
/-- What may come in. -/
structure City.In (c : City) : Prop where
  hr : c.town.rooms.length * 8 ≤ 140737488351232
  hs : c.town.streets.length * 16 ≤ 140737488351232
  hg : c.town.groups.length * 72 ≤ 140737488351232
  hp : ∀ g, g ∈ c.town.groups → g.path.length * 8 ≤ 140737488351232
  hsl : c.sleep.length * 8 ≤ 140737488351232
def BandsIn (l : List Band) : Prop := l.length * 64 ≤ 140737488351232 ∧ ∀ b, b ∈ l → b.path.length * 8 ≤ 140737488351232
theorem City.In.okc {c : City} (h : c.In) : c.Ok := by
  have := h.hr; have := h.hs; have := h.hg; have := h.hsl
  exact ⟨by omega, by omega, by omega, fun g hg => by have := h.hp g hg; omega, by omega⟩
/-- Few enough of all. -/
structure City.Few (c : City) : Prop where
  hr : c.town.rooms.length ≤ 20
  hs : c.town.streets.length ≤ 20
  hg : c.town.groups.length ≤ 20
  hp : ∀ g, g ∈ c.town.groups → g.path.length ≤ 20
  hsl : c.sleep.length ≤ 20
theorem City.Few.okc {c : City} (h : c.Few) : c.Ok := by
  have := h.hr; have := h.hs; have := h.hg; have := h.hsl
  exact ⟨by omega, by omega, by omega, fun g hg => by have := h.hp g hg; omega, by omega⟩
theorem CityV.few {c : City} (h : CityV c) : c.Few := by
  have := h.tv.r1; have := h.tv.s1; have := h.tv.g1; have := h.sl
  exact ⟨by omega, by omega, by omega, fun g hg => by have := (h.tv.g2 g hg).p1; omega, by omega⟩
end Go.Proofs.YteklodljdndcoaaGreatDoor
namespace Go.Proofs.YteklodljdndcoaaGreatDoor
open Go Go.RowKit
set_option maxRecDepth 100000
theorem BandV.okl {c : City} {l : List Band} (h : ∀ b, b ∈ l → BandV c b) (hl : l.length ≤ 10) : BandsOk l := ⟨by omega, fun b hb => by have := (h b hb).p1; omega⟩
end Go.Proofs.YteklodljdndcoaaGreatDoor
namespace Go.Proofs.YteklodljdndcoaaGreatDoor
open Go Go.RowKit
/-- A map's entries. -/
def mapE {κ ν : Type} (ek : κ → PV) (ev : ν → PV) (l : List (κ × ν)) : List PV := l.map fun e => .tuple [ek e.1, ev e.2]
theorem mapE_cons {κ ν : Type} (ek : κ → PV) (ev : ν → PV) (e : κ × ν) (l : List (κ × ν)) : mapE ek ev (e :: l) = .tuple [ek e.1, ev e.2] :: mapE ek ev l := rfl
theorem mapE_append {κ ν : Type} (ek : κ → PV) (ev : ν → PV) (l m : List (κ × ν)) : mapE ek ev (l ++ m) = mapE ek ev l ++ mapE ek ev m := by simp [mapE]
section
variable {κ ν : Type} [DecidableEq κ]
def aget (k : κ) : List (κ × ν) → Option ν
  | [] => none
  | e :: l => if k = e.1 then some e.2 else aget k l
def aput (k : κ) (v : ν) : List (κ × ν) → List (κ × ν)
  | [] => [(k, v)]
  | e :: l => if k = e.1 then (k, v) :: l else e :: aput k v l
theorem aget_append (k : κ) : ∀ l m : List (κ × ν), aget k (l ++ m) = match aget k l with | some v => some v | none => aget k m := by
  intro l m
  induction l with
  | nil => rfl
  | cons e l ih =>
    simp only [List.cons_append, aget]
    split
    · rfl
    · exact ih
/-- The keys of a type are told apart as their readings are. -/
def KeyOK (P : Program) (kt : TypeId) (ek : κ → PV) : Prop := ∀ a b, keyEq P kt (ek a) (ek b) = some (decide (a = b))
def afind (k : κ) : List (κ × ν) → Nat → Option (Nat × ν)
  | [], _ => none
  | e :: l, i => if k = e.1 then some (i, e.2) else afind k l (i + 1)
theorem findPV_map {P : Program} {kt : TypeId} {ek : κ → PV} (h : KeyOK P kt ek) (ev : ν → PV) (k : κ) : ∀ (l : List (κ × ν)) (i : Nat), findPV P kt (ek k) (mapE ek ev l) i = some ((afind k l i).map fun r => (r.1, ev r.2)) := by
  intro l
  induction l with
  | nil => intro i; rfl
  | cons e l ih =>
    intro i
    simp only [mapE_cons, findPV, afind]
    rw [h k e.1]
    by_cases he : k = e.1
    · simp [he]
    · simp only [he, decide_false, if_neg, not_false_eq_true]
      exact ih (i + 1)
theorem afind_get (k : κ) : ∀ (l : List (κ × ν)) (i : Nat), (afind k l i).map (·.2) = aget k l := by
  intro l
  induction l with
  | nil => intro i; rfl
  | cons e l ih =>
    intro i
    simp only [afind, aget]
    split
    · rfl
    · exact ih (i + 1)
theorem afind_put (ek : κ → PV) (ev : ν → PV) (k : κ) (v : ν) : ∀ (l : List (κ × ν)) (i : Nat), match afind k l i with
    | none => aput k v l = l ++ [(k, v)]
    | some (j, _) => i ≤ j ∧ (mapE ek ev l).set (j - i) (.tuple [ek k, ev v]) = mapE ek ev (aput k v l) := by
  intro l
  induction l with
  | nil => intro i; rfl
  | cons e l ih =>
    intro i
    simp only [afind, aput]
    by_cases he : k = e.1
    · rw [if_pos he, if_pos he]
      simp [mapE_cons]
    · rw [if_neg he, if_neg he]
      have := ih (i + 1)
      cases hf : afind k l (i + 1) with
      | none => rw [hf] at this; simp only at this ⊢; rw [this]; rfl
      | some r =>
        rw [hf] at this
        obtain ⟨j, x⟩ := r
        simp only at this ⊢
        refine ⟨by omega, ?_⟩
        rw [show j - i = j - (i + 1) + 1 by omega, mapE_cons, List.set_cons_succ, this.2, mapE_cons]
def lkM (P : Program) (kt : TypeId) (z : PV) (b : Option (Option (List PV))) (k : PV) (ok : Bool) : Option PV :=
  match b with
  | some (some (.mark :: es)) => match findPV P kt k es 0 with
    | some (some (_, v)) => some (packPV ok v true)
    | some none => some (packPV ok z false)
    | none => none
  | _ => none
def lkX (P : Program) (kt : TypeId) (z : PV) (σ : Sg) (id : Nat) (k : PV) (ok : Bool) : Option PV := lkM P kt z σ.store[id]? k ok
def upM (P : Program) (kt : TypeId) (b : Option (Option (List PV))) (k v : PV) : Option (List PV) :=
  match b with
  | some (some (.mark :: es)) => match findPV P kt k es 0 with
    | some (some (j, _)) => some (.mark :: es.set j (.tuple [k, v]))
    | some none => some (.mark :: (es ++ [.tuple [k, v]]))
    | none => none
  | _ => none
def upX (P : Program) (kt : TypeId) (σ : Sg) (id : Nat) (k v : PV) : Option Sg := (upM P kt σ.store[id]? k v).map fun cs => σ.setVar id cs
theorem lkM_map {P : Program} {kt : TypeId} {z : PV} {ek : κ → PV} (h : KeyOK P kt ek) (ev : ν → PV) (l : List (κ × ν)) (k : κ) (ok : Bool) :
    lkM P kt z (some (some (.mark :: mapE ek ev l))) (ek k) ok = some (packPV ok (match aget k l with | some v => ev v | none => z) (aget k l).isSome) := by
  simp only [lkM, findPV_map h]
  rw [← afind_get k l 0]
  cases afind k l 0 with
  | none => rfl
  | some r => rfl
theorem upM_map {P : Program} {kt : TypeId} {ek : κ → PV} (h : KeyOK P kt ek) (ev : ν → PV) (l : List (κ × ν)) (k : κ) (v : ν) :
    upM P kt (some (some (.mark :: mapE ek ev l))) (ek k) (ev v) = some (.mark :: mapE ek ev (aput k v l)) := by
  simp only [upM, findPV_map h]
  have := afind_put ek ev k v l 0
  cases hf : afind k l 0 with
  | none =>
    rw [hf] at this
    simp only at this
    simp only [Option.map_none, this, mapE_append]
    rfl
  | some r =>
    rw [hf] at this
    obtain ⟨j, x⟩ := r
    simp only [Option.map_some]
    have h2 := this.2
    simp only [Nat.sub_zero] at h2
    rw [h2]
end
section
variable {P : Program} {kt : TypeId} {z : PV} {σ : Sg} {l : List (Option (List PV))} {rm : List Nat} {ys : List LState} {j d : Nat} {cs : List PV} {k v : PV} {ok : Bool}
theorem lkX_ext : lkX P kt z (σ.ext l rm ys) (σ.store.length + j) k ok = lkM P kt z l[j]? k ok := by simp only [lkX, Sg.get_ext]
theorem lkX_ext0 : lkX P kt z (σ.ext l rm ys) σ.store.length k ok = lkM P kt z l[0]? k ok := by simp only [lkX, Sg.get_ext0]
theorem upX_ext : upX P kt (σ.ext l rm ys) (σ.store.length + j) k v = (upM P kt l[j]? k v).map fun cs => σ.ext (l.set j (some cs)) rm ys := by simp only [upX, Sg.get_ext, Sg.set_ext]
theorem upX_ext0 : upX P kt (σ.ext l rm ys) σ.store.length k v = (upM P kt l[0]? k v).map fun cs => σ.ext (l.set 0 (some cs)) rm ys := by simp only [upX, Sg.get_ext0, Sg.set_ext0]
theorem lkX_svx : lkX P kt z ((σ.setVar d cs).ext l rm ys) (σ.store.length + j) k ok = lkM P kt z l[j]? k ok := by
  have := lkX_ext (P := P) (kt := kt) (z := z) (σ := σ.setVar d cs) (l := l) (rm := rm) (ys := ys) (j := j) (k := k) (ok := ok)
  rw [sv_len] at this
  exact this
theorem Cl_map {a b c id : Nat} : Clean a b c (.map id) = (id < a) := propext ⟨fun h => by cases h; assumption, fun h => .mapv _ h⟩
theorem Cl_nilmap {a b c : Nat} : Clean a b c .nilmap = True := eq_true .nilmap
theorem Cl_mark {a b c : Nat} : Clean a b c .mark = True := eq_true .mark
theorem Cl_gsl {a b c id len es : Nat} : Clean a b c (.gsl id len es) = (id < a) := propext ⟨fun h => by cases h; assumption, fun h => .gsl _ _ _ h⟩
theorem Cl_gnil {a b c : Nat} : Clean a b c .gnil = True := eq_true .gnil
theorem CleanAll_mapE {κ ν : Type} {a b c : Nat} {ek : κ → PV} {ev : ν → PV} {l : List (κ × ν)} (h1 : ∀ x, Clean a b c (ek x)) (h2 : ∀ x, Clean a b c (ev x)) : CleanAll a b c (mapE ek ev l) = True := eq_true fun p hp => by
  obtain ⟨e, _, rfl⟩ := List.mem_map.1 hp
  refine .tuple _ fun q hq => ?_
  simp only [List.mem_cons, List.not_mem_nil, or_false] at hq
  rcases hq with rfl | rfl
  · exact h1 _
  · exact h2 _
theorem CleanAll_mapI {a b c : Nat} {l : List (Int × Int)} : CleanAll a b c (mapE I I l) = True := CleanAll_mapE (fun _ => .int _ _) (fun _ => .int _ _)
end
end Go.Proofs.YteklodljdndcoaaGreatDoor
namespace Go.Proofs.YteklodljdndcoaaGreatDoor
open Go Go.RowKit
theorem setI {xs : List Int} {i : Nat} {v : Int} : (xs.map I).set i (I v) = (xs.set i v).map I := by rw [List.map_set]
theorem setB {xs : List Bool} {i : Nat} {v : Bool} : (xs.map PV.bool).set i (.bool v) = (xs.set i v).map PV.bool := by rw [List.map_set]
end Go.Proofs.YteklodljdndcoaaGreatDoor
namespace Go.Proofs.YteklodljdndcoaaGreatDoor
open Go Go.RowKit
def NoGoto (Q : Exit → Env → Sg → Prop) : Exit → Env → Sg → Prop
  | .goto _, _, _ => False
  | e, E, σ => Q e E σ
section
variable {P : Program} {a : Act} {k : List Item} {cs : List Frame} {w : World} {Q : Exit → Env → Sg → Prop}
theorem ngN {E : Env} {σ : Sg} : NoGoto Q .normal E σ = Q .normal E σ := rfl
theorem ngR {E : Env} {σ : Sg} : NoGoto Q .ret E σ = Q .ret E σ := rfl
theorem ngX {E : Env} {σ : Sg} {i : Nat} : NoGoto Q (.exit i) E σ = Q (.exit i) E σ := rfl
attribute [go_sem] ngN ngR ngX
end
end Go.Proofs.YteklodljdndcoaaGreatDoor
namespace Go.Proofs.YteklodljdndcoaaGreatDoor
open Go Go.RowKit
section
variable {P : Program} {Y : YEnv} {N : Nat} {ops : Array Oper} {a b : Nat}
variable {F : Fence} {n : Nat} {Q : Exit → Act → World → Prop}
/-- In the order, b stands behind a. -/
def Behind (b a : Nat) (listed : Array Bool) (l : List Nat) : Prop := ∀ l1 l2, l = l1 ++ b :: l2 → listed.getD a false = true ∨ a ∈ l1
end
end Go.Proofs.YteklodljdndcoaaGreatDoor
namespace Go.Proofs.YteklodljdndcoaaGreatDoor
open Go Go.RowKit
theorem W_newB {P : Program} {Y : YEnv} {N : Nat} {rd : Option Nat} {lo : Nat × Nat} {id : Nat} {ops : Array Oper} {E : Env} {σ : Sg} {Q : Exit → Env → Sg → Prop} (ks : List Nat) {T : TypeId} (te : TypeId) {d : Nat} {o : Oper} (ho : ops = #[o]) (hop : o.op = .alloc T) (hg : o.guard = none) (hd : o.dst = some d) (hdN : d < N)
    (hz : zeroPV P T = some [.nilptr, .isl [] .exact])
    (h : Q .normal (keep ks (E.put (some d) (.ptr σ.store.length 0))) ((σ.push [.bself σ.store.length T, .bbuf [] σ.rooms.length te]).pushRoom 0)) : W P Y N rd lo (.region id ops false) E σ Q := by
  intro Ψ0 D hb hy hrd Ψ a w le hr
  subst ho
  refine wpIn_region ?_
  show wpOpsIn (FnOf Ψ0 rd) 0 P #[o] (Post N D Ψ0 w Q) [0] a w
  rw [wpOpsIn_cons]
  refine exec_alloc (i := 0) rfl hop hg hz hr fun c hc0 hc2 => ?_
  obtain ⟨le1, hs1⟩ := hr.sg.newVar c T [.nilptr, .isl [] .exact] (Nat.le_of_eq hc0.symm) (hc2 Ψ)
  have hk : SzOK (Ψ.addVar w.heap.size).base (w.alloc (.cells c T)) w.heap.size (.ty T 2) := ⟨hr.sg.base, c, (0, 0), heap_alloc_new w _, hc0⟩
  have hs2 := hs1.addSz hk
  have le2 := le1.trans (Ty.addSz_le (Ψ.addVar w.heap.size) w.heap.size (.ty T 2))
  obtain ⟨le3, hs3⟩ := hs2.newRoom 0 none (fun b e c es h => by cases h)
  have le3' := le2.trans le3
  have hst : ((σ.push [.nilptr, .isl [] .exact]).pushRoom 0).store[σ.store.length]? = some (some [.nilptr, .isl [] .exact]) := by simp [Sg.push, Sg.pushRoom]
  have hβ : ((Ψ.addVar w.heap.size).addSz w.heap.size (.ty T 2)).β[σ.store.length]? = some w.heap.size := by
    show (Ψ.β ++ [w.heap.size])[σ.store.length]? = _
    rw [← hr.sg.blen]
    simp
  have hrm : (σ.push [.nilptr, .isl [] .exact]).rooms.length = σ.rooms.length := rfl
  rw [hrm] at le3 hs3 le3'
  have hbk : blockIs (w.alloc (.cells c T)) w.heap.size c := ⟨T, heap_alloc_new w _⟩
  have hs4 := hs3.reread (cs' := [.bself σ.store.length T, .bbuf [] σ.rooms.length te]) hst (fun b' hb' hK => by
    have e1 : b' = w.heap.size := by
      have : ((Ψ.addVar w.heap.size).addSz w.heap.size (.ty T 2)).β[σ.store.length]? = some b' := hb'
      rw [hβ] at this; injection this with this; exact this.symm
    subst e1
    refine .inl ⟨c, hbk, by rw [hc0]; exact Nat.le_refl _, fun j p v h1 h2 => ?_⟩
    have hv0 := hc2 ((((Ψ.addVar w.heap.size).addSz w.heap.size (.ty T 2))).addHist σ.rooms.length 0 none)
    match j, h1, h2 with
    | 0, h1, h2 =>
      simp only [List.getElem?_cons_zero, Option.some.injEq] at h1
      subst h1
      have hv := hv0 0 .nilptr v rfl h2
      refine .bself _ _ w.heap.size _ hβ (List.mem_cons_self ..) (.inl ?_)
      cases hv; rfl
    | 1, h1, h2 =>
      simp only [List.getElem?_cons_succ, List.getElem?_cons_zero, Option.some.injEq] at h1
      subst h1
      have hv := hv0 1 (.isl [] .exact) v rfl h2
      have hh : OwnNil ((((Ψ.addVar w.heap.size).addSz w.heap.size (.ty T 2))).addHist σ.rooms.length 0 none) (.tok σ.rooms.length ([] : List PV).length 1) := ⟨none, by simp [Ty.addHist]⟩
      cases hv with
      | islnil _ a' _ => exact .bbuf _ _ _ _ (.islnil _ a' hh) fun g o n cap e hc => by injection e with _ _ e; exact absurd e.symm hc
      | isl es _ _ b0 o0 cap vals hes k1 k2 hc ho =>
        have ho' : cap = 0 := ho
        subst ho'
        exact .bbuf _ _ _ _ (.islnil _ _ hh) fun g o n cap e hc => by injection e with _ _ e; exact absurd e.symm hc
    | j + 2, h1, h2 => simp at h1)
  have hσ : ((σ.push [.nilptr, .isl [] .exact]).pushRoom 0).setVar σ.store.length [.bself σ.store.length T, .bbuf [] σ.rooms.length te] = (σ.push [.bself σ.store.length T, .bbuf [] σ.rooms.length te]).pushRoom 0 := by simp [Sg.setVar, Sg.push, Sg.pushRoom]
  rw [hσ] at hs4
  have hrel := (hr.put le3' hs4 (o := o) (by unfold dstOK; rw [hd]; simpa using hdN) (v := .ptr σ.store.length 0) (x := .pointer (some ⟨w.heap.size, 0, none⟩)) (.ptr _ _ _ hβ (List.mem_cons_of_mem _ (List.mem_cons_self ..)))).keep ks
  rw [hd] at hrel ⊢
  exact ⟨_, _, _, le.trans le3', hrel, (Below.refl _ _).alloc (by rw [← le.base]; exact hr.sg.base) _, h⟩
/-- New blocks behind all that is known. -/
theorem SR.more {Ψ : Ty} {σ : Sg} {w w' : World} (h : SR Ψ σ w) (ho : ∀ k, k < w.heap.size → w'.heap[k]? = w.heap[k]?) (hz : w.heap.size ≤ w'.heap.size) : SR Ψ σ w' := by
  have cel : ∀ b o v, w.cell? ⟨b, o, none⟩ = some v → w'.cell? ⟨b, o, none⟩ = some v := fun b o v k => by rw [cell_eq, ho b (cell_lt k), ← cell_eq]; exact k
  have blk : ∀ b c, blockIs w b c → blockIs w' b c := fun b c k => k.of_heap (ho b k.lt)
  refine ⟨Nat.le_trans h.base hz, fun b o v k => cel b o v (h.imm b o v k), h.blen, ?_, h.apart, ?_, h.roomsApart, h.histlt, h.histle, fun i b k => Nat.lt_of_lt_of_le (h.βlt i b k) hz, ?_, h.ylen', ?_, ?_, ?_⟩
  · intro id cs b k1 k2
    obtain ⟨a1, a2, a3⟩ := h.block id cs b k1 k2
    exact ⟨a1, a2, a3.of_heap (ho b a3.lt)⟩
  · intro r n b e c' es k1 k2 k3
    obtain ⟨a1, a2, a3, cc, a4, a5⟩ := h.room r n b e c' es k1 k2 k3
    exact ⟨a1, a2, a3, cc, blk _ _ a4, a5⟩
  · intro y l d s k1 k2
    obtain ⟨a1, a0, a2⟩ := h.yok y l d s k1 k2
    exact ⟨a1, a0, by rw [ho l (heap_lt a2)]; exact a2⟩
  · intro d k
    obtain ⟨a1, a2⟩ := h.dok d k
    exact ⟨a1, by rw [ho d (heap_lt a2)]; exact a2⟩
  · intro b c' k
    obtain ⟨a1, a2, a3, a4, a5⟩ := h.rok b c' k
    exact ⟨a1, a2, a3, a4, blk _ _ a5⟩
  · intro b s k
    exact (h.szok b s k).of_heap (ho b (h.szok b s k).lt)
/-- A row that nobody holds is marked. -/
theorem SR.reframe {Ψ : Ty} {σ : Sg} {w w' : World} (h : SR Ψ σ w) {g : Nat} {c : Array Value} {t : TypeId} {f f' : Nat × Nat} (h1 : w.heap[g]? = some (.cells c t f)) (h2 : w'.heap[g]? = some (.cells c t f')) (ho : ∀ k, k ≠ g → w'.heap[k]? = w.heap[k]?) (hz : w'.heap.size = w.heap.size) (h0 : Ψ.base ≤ g)
    (hv : ∀ (id : Nat) (cs : List PV), σ.store[id]? = some (some cs) → Ψ.β[id]? ≠ some g) (hr : ∀ (r n e c es : Nat), σ.rooms[r]? = some n → Ψ.hist r n = some (some (g, e, c, es)) → c ≤ e) (hs : ∀ c, (g, c) ∉ Ψ.rs) : SR Ψ σ w' := by
  have cel : ∀ b o v, w.cell? ⟨b, o, none⟩ = some v → w'.cell? ⟨b, o, none⟩ = some v := fun b o v k => by
    by_cases e : b = g
    · subst e; rw [cell_eq] at k ⊢; rw [h1] at k; rw [h2]; exact k
    · rw [cell_eq, ho b e, ← cell_eq]; exact k
  refine ⟨by rw [hz]; exact h.base, fun b o v k => cel b o v (h.imm b o v k), h.blen, ?_, h.apart, ?_, h.roomsApart, h.histlt, h.histle, fun i b k => by rw [hz]; exact h.βlt i b k, ?_, h.ylen', ?_, ?_, ?_⟩
  · intro id cs b k1 k2
    obtain ⟨a1, a2, a3⟩ := h.block id cs b k1 k2
    exact ⟨a1, a2, a3.of_heap (ho b fun e => hv id cs k1 (e ▸ k2))⟩
  · intro r n b e c' es k1 k2 k3
    obtain ⟨a1, a2, a3, cc, a4, a5⟩ := h.room r n b e c' es k1 k2 k3
    have hne : b ≠ g := by rintro rfl; have := hr r n e c' es k1 k2; omega
    exact ⟨a1, a2, a3, cc, a4.of_heap (ho b hne), a5⟩
  · intro y l d s k1 k2
    obtain ⟨a1, a0, a2⟩ := h.yok y l d s k1 k2
    have hne : l ≠ g := by rintro rfl; rw [h1] at a2; cases a2
    exact ⟨a1, a0, by rw [ho l hne]; exact a2⟩
  · intro d k
    obtain ⟨a1, a2⟩ := h.dok d k
    have hne : d ≠ g := by rintro rfl; rw [h1] at a2; cases a2
    exact ⟨a1, by rw [ho d hne]; exact a2⟩
  · intro b c' k
    obtain ⟨a1, a2, a3, a4, a5⟩ := h.rok b c' k
    exact ⟨a1, a2, a3, a4, a5.of_heap (ho b fun e => hs c' (e ▸ k))⟩
  · intro b s k
    by_cases e : b = g
    · subst e; exact (h.szok b s k).rewrite h0 h1 h2 rfl
    · exact (h.szok b s k).of_heap (ho b e)
theorem freeze_at {w : World} {g n : Nat} {c : Array Value} {t : TypeId} {f : Nat × Nat} (h : w.heap[g]? = some (.cells c t f)) (hn : n ≠ 0) : ∃ f', (w.freeze ⟨g, 0, none⟩ n).heap[g]? = some (.cells c t f') := by
  unfold World.freeze
  rw [if_neg hn]
  obtain ⟨lo, hi⟩ := f
  simp only [Array.getElem?_modify, if_true, h, Option.map_some]
  exact ⟨_, rfl⟩
theorem freeze_other {w : World} {g n k : Nat} (hk : k ≠ g) : (w.freeze ⟨g, 0, none⟩ n).heap[k]? = w.heap[k]? := by
  unfold World.freeze
  split
  · rfl
  · simp only [Array.getElem?_modify]
    rw [if_neg (fun e => hk e.symm)]
theorem freeze_size {w : World} {g n : Nat} : (w.freeze ⟨g, 0, none⟩ n).heap.size = w.heap.size := by
  unfold World.freeze
  split
  · rfl
  · simp
/-- A builder's row becomes a string's. -/
theorem SR.stringed {Ψ : Ty} {σ : Sg} {w : World} (h : SR Ψ σ w) {r n g cap : Nat} {t : TypeId} (hr : σ.rooms[r]? = some n) (hh : Ψ.hist r n = some (some (g, n, cap, 1))) (ht : (g, .ty t cap) ∈ Ψ.sz) (hi : ∀ o, o < n → Ψ.imm g o ≠ none) (hn : 0 < n) :
    ∃ Ψ', Ψ.le Ψ' ∧ SR Ψ' (σ.setRoom r (n + 1)) (w.drew.freeze ⟨g, 0, none⟩ n) ∧ Below Ψ.base w (w.drew.freeze ⟨g, 0, none⟩ n) := by
  obtain ⟨hb0, c, f, hc, hcs⟩ := h.szok g _ ht
  obtain ⟨Ψ2, le2, hs2, i1, i2, i0, i3, i4, i5⟩ := h.drew.roomStep (r' := r) (n' := n + 1) (σ2 := σ.setRoom r (n + 1)) (.inr ⟨n, hr, by omega, rfl⟩) none (fun b e c es k => by cases k)
  obtain ⟨f', hf'⟩ := freeze_at (w := w.drew) (n := n) hc (by omega)
  have hi2 : ∀ o, o < n → Ψ2.imm g o ≠ none := by rw [i1]; exact hi
  have hfin : SR Ψ2 (σ.setRoom r (n + 1)) (w.drew.freeze ⟨g, 0, none⟩ n) := by
    refine hs2.reframe hc hf' (fun k hk => freeze_other hk) freeze_size (by rw [le2.base]; exact hb0) (fun id cs k1 k2 => ?_) (fun r1 n1 e c1 es k1 k2 => ?_) (fun c1 k => ?_)
    · exact hi2 0 hn ((hs2.block id cs g k1 k2).2.1 0)
    · by_cases hr1 : r1 = r
      · subst hr1
        have : n1 = n + 1 := by
          simp only [Sg.setRoom] at k1
          rw [List.getElem?_set_self ((List.getElem?_eq_some_iff.1 hr).1)] at k1
          injection k1 with k1
          exact k1.symm
        subst this
        rw [i4] at k2
        injection k2 with k2
        cases k2
      · obtain ⟨q1, q2⟩ := i5 r1 n1 k1 hr1
        rw [q2] at k2
        rcases Nat.lt_or_ge e c1 with hlt | hge
        · exfalso
          obtain ⟨_, a2, _, cc, ⟨t3, a4⟩, a5⟩ := h.room r1 n1 g e c1 es q1 k2 hlt
          rw [show w.heap[g]? = w.drew.heap[g]? from rfl] at a4
          have hc' : w.drew.heap[g]? = some (.cells c t f) := hc
          rw [hc'] at a4
          injection a4 with a4
          injection a4 with a4 _ _
          subst a4
          have ha := h.roomsApart r n r1 n1 g n cap 1 e c1 es hr q1 (fun e => hr1 e.symm) hh k2 e
          have hen : e < n := by
            rcases Nat.lt_or_ge e n with h1 | h1
            · exact h1
            · exact absurd hlt (ha h1 (by omega) (Nat.le_refl _))
          exact hi e hen (a2 e (Nat.le_refl _) hlt)
        · exact hge
    · exact hi2 0 hn ((hs2.rok g c1 k).2.1 0)
  have hpl : (w.drew.freeze ⟨g, 0, none⟩ n).os = w.os ∧ (w.drew.freeze ⟨g, 0, none⟩ n).tape = w.tape ∧ (w.drew.freeze ⟨g, 0, none⟩ n).output = w.output := by
    unfold World.freeze
    split <;> exact ⟨rfl, rfl, rfl⟩
  refine ⟨Ψ2, le2, hfin, hpl.1, hpl.2.1, hpl.2.2, by rw [freeze_size]; exact Nat.le_refl _, fun k hk => ?_⟩
  rw [freeze_other (by omega)]
  rfl
theorem CleanSg_bld {σ : Sg} {id T r te n : Nat} {l m : List PV} (hcl : CleanSg σ) (hd : σ.store[id]? = some (some [.bself id T, .bbuf l r te])) (hr : r < σ.rooms.length) (hm : ∀ p, p ∈ m → Clean σ.store.length σ.rooms.length σ.ys.length p) :
    CleanSg ((σ.setRoom r n).setVar id [.bself id T, .bbuf (l ++ m) r te]) := by
  have hid := (List.getElem?_eq_some_iff.1 hd).1
  intro i cs hi hcs p hp
  have e1 : ((σ.setRoom r n).setVar id [.bself id T, .bbuf (l ++ m) r te]).store.length = σ.store.length := by simp [Sg.setVar, Sg.setRoom]
  have e2 : ((σ.setRoom r n).setVar id [.bself id T, .bbuf (l ++ m) r te]).rooms.length = σ.rooms.length := by simp [Sg.setVar, Sg.setRoom]
  have e3 : ((σ.setRoom r n).setVar id [.bself id T, .bbuf (l ++ m) r te]).ys.length = σ.ys.length := rfl
  rw [e1] at hi
  rw [e1, e2, e3]
  have h0 : (σ.store.set id (some [.bself id T, .bbuf (l ++ m) r te]))[i]? = some (some cs) := hcs
  rw [List.getElem?_set] at h0
  by_cases e : id = i
  · subst e
    rw [if_pos rfl, if_pos hid] at h0
    injection h0 with h0
    injection h0 with h0
    subst h0
    have hl := hcl id _ hid hd (.bbuf l r te) (by simp)
    simp only [List.mem_cons, List.not_mem_nil, or_false] at hp
    rcases hp with rfl | rfl
    · exact .bself _ _ hid
    · cases hl with
      | bbuf _ _ _ hl =>
      cases hl with
      | isl _ _ h1 h2 =>
      refine .bbuf _ _ _ (.isl _ _ (fun e he => ?_) fun r' n' es' e => by injection e with e _ _; subst e; exact hr)
      rcases List.mem_append.1 he with he | he
      · exact h1 e he
      · exact hm e he
  · rw [if_neg e] at h0
    exact hcl i cs hi h0 p hp
theorem strPV_clean {s : ByteArray} {a b c : Nat} : ∀ p, p ∈ strPV s → Clean a b c p := fun p hp => by
  obtain ⟨x, _, rfl⟩ := List.mem_map.1 hp
  exact .int _ _
end Go.Proofs.YteklodljdndcoaaGreatDoor
namespace Go.Proofs.YteklodljdndcoaaGreatDoor
open Go Go.RowKit
/-- A contract of the library's, as a contract. -/
theorem PC_of_calls {P : Program} {Y : YEnv} {f : FuncId} {args : List PV} {σ σ' : Sg} {v : PV} (hg : goFn P f = true)
    (h : ∀ Ψ vals w, SR Ψ σ w → VRs Ψ args vals → Calls P f vals w (fun e w' => ∃ x Ψ', e = .returned x ∧ Ψ.le Ψ' ∧ SR Ψ' σ' w' ∧ VR Ψ' v x ∧ Below Ψ.base w w')) : PC P Y f args σ v σ' :=
  ⟨hg, fun Ψ vals w hs ha _ => callsIn_wide.2 (h Ψ vals w hs ha)⟩
section
variable {P : Program} {Y : YEnv} {f : FuncId} {σ : Sg} {id : Nat} {xs ys : List Int}
end
section
variable {N : Nat} {lo : Nat × Nat} {E : Env} {σ : Sg}
end
end Go.Proofs.YteklodljdndcoaaGreatDoor
namespace Go.Proofs.YteklodljdndcoaaGreatDoor
open Go Go.RowKit
/-- A slice of numbers that grows in place: nothing yet, or the last of a row of variables (those before it are gone). -/
def glI (n : Nat) (out : List Int) : PV := match out with
  | [] => .gnil
  | _ :: t => .gsl (n + t.length) (t.length + 1) 1
theorem glI_cells (n : Nat) (out : List Int) : (glI n out).cells = [glI n out] := by cases out <;> rfl
theorem glI_scalar (n : Nat) (out : List Int) : (glI n out).scalar = true := by cases out <;> rfl
theorem glI_defd (n : Nat) (out : List Int) : defd (glI n out) = true := by cases out <;> rfl
theorem appendAny_gl {P : Program} {σ : Sg} {t t' : TypeId} {n : Nat} {out : List Int} {m : List PV} {o : Own} : appendAny P σ t t' (glI n out) (.isl m o) = appendG P σ t t' (glI n out) (.isl m o) := by cases out <;> rfl
theorem cells_gsl (a b c : Nat) : (PV.gsl a b c).cells = [PV.gsl a b c] := rfl
theorem cells_gnil : PV.gnil.cells = [PV.gnil] := rfl
attribute [go_sem] appendAny_gl cells_gsl cells_gnil
attribute [go_sem high] glI_cells glI_scalar glI_defd
theorem stX_glI {σ : Sg} {l : List (Option (List PV))} {rm : List Nat} {ys : List LState} {j off n : Nat} {out : List Int} : stX 1 (σ.ext l rm ys) (σ.store.length + j) off (glI n out) = match l[j]? with
    | some (some cs) => if off + 1 ≤ cs.length then some (σ.ext (l.set j (some (putCells cs off [glI n out]))) rm ys) else none
    | _ => none := by
  simp only [stX_ext, glI_defd, glI_cells, List.all_cons, List.all_nil, glI_scalar]
  rcases l[j]? with _ | _ | cs <;> simp
attribute [go_sem high] stX_glI
section
variable {σ : Sg} {A : List (Option (List PV))} {rm : List Nat} {ys : List LState} {N : Nat} {lo : Nat × Nat} {E : Env} {out : List Int}
/-- Compacted. -/
def glC (n : Nat) (s : List Int) : PV := match s with
  | [] => .gnil
  | _ :: t => .gsl (n + t.length) (Lib.compact s).length 1
theorem glC_cells (n : Nat) (out : List Int) : (glC n out).cells = [glC n out] := by cases out <;> rfl
theorem glC_scalar (n : Nat) (out : List Int) : (glC n out).scalar = true := by cases out <;> rfl
theorem glC_defd (n : Nat) (out : List Int) : defd (glC n out) = true := by cases out <;> rfl
attribute [go_sem high] glC_cells glC_scalar glC_defd
theorem stX_glC {σ : Sg} {l : List (Option (List PV))} {rm : List Nat} {ys : List LState} {j off n : Nat} {out : List Int} : stX 1 (σ.ext l rm ys) (σ.store.length + j) off (glC n out) = match l[j]? with
    | some (some cs) => if off + 1 ≤ cs.length then some (σ.ext (l.set j (some (putCells cs off [glC n out]))) rm ys) else none
    | _ => none := by
  simp only [stX_ext, glC_defd, glC_cells, List.all_cons, List.all_nil, glC_scalar]
  rcases l[j]? with _ | _ | cs <;> simp
attribute [go_sem high] stX_glC
end
end Go.Proofs.YteklodljdndcoaaGreatDoor
namespace Go.Proofs.YteklodljdndcoaaGreatDoor
open Go Go.RowKit Go.Shelf
set_option maxRecDepth 100000
def bld_ren : Go.Shelf.Ren := ⟨fun | 240 => 52 | 276 => 73 | 169 => 32 | 166 => 30 | n => n, fun | 37 => 76 | 70 => 75 | 72 => 78 | 164 => 125 | 127 => 106 | n => n, fun n => n⟩
theorem lays240 : Lays.n240 Tryz.prog bld_ren where
  mixed := by kernel_rfl
  f240 := Tryz.func52.trans (congrArg some (by kernel_rfl))
  f276 := Tryz.func73.trans (congrArg some (by kernel_rfl))
  t0 := Tryz.underlying0
  a0 := Tryz.isAgg0
  z0 := Tryz.sizeOf0
  v0 := Tryz.zeroValue0
  t4 := Tryz.underlying4
  a4 := Tryz.isAgg4
  z4 := Tryz.sizeOf4
  v4 := Tryz.zeroValue4
  t9 := Tryz.underlying9
  a9 := Tryz.isAgg9
  z9 := Tryz.sizeOf9
  v9 := Tryz.zeroValue9
  t20 := Tryz.underlying20
  a20 := Tryz.isAgg20
  z20 := Tryz.sizeOf20
  v20 := Tryz.zeroValue20
  t70 := Tryz.underlying75
  a70 := Tryz.isAgg75
  z70 := Tryz.sizeOf75
  v70 := Tryz.zeroValue75
  t72 := Tryz.underlying78
  a72 := Tryz.isAgg78
  z72 := Tryz.sizeOf78
  v72 := Tryz.zeroValue78
  t164 := Tryz.underlying125
  a164 := Tryz.isAgg125
  z164 := Tryz.sizeOf125
  v164 := Tryz.zeroValue125
theorem lays169 : Lays.n169 Tryz.prog bld_ren where
  mixed := by kernel_rfl
  f169 := Tryz.func32.trans (congrArg some (by kernel_rfl))
  t0 := Tryz.underlying0
  a0 := Tryz.isAgg0
  z0 := Tryz.sizeOf0
  v0 := Tryz.zeroValue0
  t3 := Tryz.underlying3
  a3 := Tryz.isAgg3
  z3 := Tryz.sizeOf3
  v3 := Tryz.zeroValue3
  t9 := Tryz.underlying9
  a9 := Tryz.isAgg9
  z9 := Tryz.sizeOf9
  v9 := Tryz.zeroValue9
  t37 := Tryz.underlying76
  a37 := Tryz.isAgg76
  z37 := Tryz.sizeOf76
  v37 := Tryz.zeroValue76
  t70 := Tryz.underlying75
  a70 := Tryz.isAgg75
  z70 := Tryz.sizeOf75
  v70 := Tryz.zeroValue75
  t72 := Tryz.underlying78
  a72 := Tryz.isAgg78
  z72 := Tryz.sizeOf78
  v72 := Tryz.zeroValue78
  t127 := Tryz.underlying106
  a127 := Tryz.isAgg106
  z127 := Tryz.sizeOf106
  v127 := Tryz.zeroValue106
def lays171_ren : Go.Shelf.Ren := ⟨fun | 171 => 31 | 243 => 53 | 246 => 74 | 283 => 93 | 284 => 94 | 285 => 95 | 286 => 96 | 129 => 108 | 317 => 107 | 318 => 109 | 319 => 110 | 320 => 111 | 337 => 119 | 338 => 120 | n => n, fun | 3 => 3 | 9 => 9 | 2 => 2 | 4 => 4 | 171 => 146 | 0 => 0 | 53 => 65 | 37 => 76 | 5 => 5 | 173 => 149 | 212 => 163 | 51 => 164 | 20 => 20 | 213 => 165 | 46 => 103 | 232 => 179 | 233 => 180 | n => n, fun | 17 => 2 | 18 => 6 | 19 => 7 | n => n⟩
theorem lays171_p : Lays.n171 Tryz.prog lays171_ren where
  mixed := by kernel_rfl
  f129 := Tryz.func108.trans (congrArg some (by kernel_rfl))
  f171 := Tryz.func31.trans (congrArg some (by kernel_rfl))
  f243 := Tryz.func53.trans (congrArg some (by kernel_rfl))
  f246 := Tryz.func74.trans (congrArg some (by kernel_rfl))
  f283 := Tryz.func93.trans (congrArg some (by kernel_rfl))
  f284 := Tryz.func94.trans (congrArg some (by kernel_rfl))
  f285 := Tryz.func95.trans (congrArg some (by kernel_rfl))
  f286 := Tryz.func96.trans (congrArg some (by kernel_rfl))
  f317 := Tryz.func107.trans (congrArg some (by kernel_rfl))
  f318 := Tryz.func109.trans (congrArg some (by kernel_rfl))
  f319 := Tryz.func110.trans (congrArg some (by kernel_rfl))
  f320 := Tryz.func111.trans (congrArg some (by kernel_rfl))
  f337 := Tryz.func119.trans (congrArg some (by kernel_rfl))
  f338 := Tryz.func120.trans (congrArg some (by kernel_rfl))
  t0 := Tryz.underlying0
  a0 := Tryz.isAgg0
  z0 := Tryz.sizeOf0
  v0 := Tryz.zeroValue0
  t2 := Tryz.underlying2
  a2 := Tryz.isAgg2
  z2 := Tryz.sizeOf2
  v2 := Tryz.zeroValue2
  t3 := Tryz.underlying3
  a3 := Tryz.isAgg3
  z3 := Tryz.sizeOf3
  v3 := Tryz.zeroValue3
  t4 := Tryz.underlying4
  a4 := Tryz.isAgg4
  z4 := Tryz.sizeOf4
  v4 := Tryz.zeroValue4
  t5 := Tryz.underlying5
  a5 := Tryz.isAgg5
  z5 := Tryz.sizeOf5
  v5 := Tryz.zeroValue5
  t9 := Tryz.underlying9
  a9 := Tryz.isAgg9
  z9 := Tryz.sizeOf9
  v9 := Tryz.zeroValue9
  t20 := Tryz.underlying20
  a20 := Tryz.isAgg20
  z20 := Tryz.sizeOf20
  v20 := Tryz.zeroValue20
  t37 := Tryz.underlying76
  a37 := Tryz.isAgg76
  z37 := Tryz.sizeOf76
  v37 := Tryz.zeroValue76
  t46 := Tryz.underlying103
  a46 := Tryz.isAgg103
  z46 := Tryz.sizeOf103
  v46 := Tryz.zeroValue103
  t51 := Tryz.underlying164
  a51 := Tryz.isAgg164
  z51 := Tryz.sizeOf164
  v51 := Tryz.zeroValue164
  t53 := Tryz.underlying65
  a53 := Tryz.isAgg65
  z53 := Tryz.sizeOf65
  v53 := Tryz.zeroValue65
  t171 := Tryz.underlying146
  a171 := Tryz.isAgg146
  z171 := Tryz.sizeOf146
  v171 := Tryz.zeroValue146
  t173 := Tryz.underlying149
  a173 := Tryz.isAgg149
  z173 := Tryz.sizeOf149
  v173 := Tryz.zeroValue149
  t212 := Tryz.underlying163
  a212 := Tryz.isAgg163
  z212 := Tryz.sizeOf163
  v212 := Tryz.zeroValue163
  t213 := Tryz.underlying165
  a213 := Tryz.isAgg165
  z213 := Tryz.sizeOf165
  t232 := Tryz.underlying179
  a232 := Tryz.isAgg179
  z232 := Tryz.sizeOf179
  v232 := Tryz.zeroValue179
  t233 := Tryz.underlying180
  a233 := Tryz.isAgg180
  z233 := Tryz.sizeOf180
  v233 := Tryz.zeroValue180
  g17 := by kernel_rfl
  g18 := by kernel_rfl
  g19 := by kernel_rfl
theorem lays171 : LaysM.n171 Tryz.prog lays171_ren := { lays171_p with
  i0 := by kernel_rfl,
  i2 := by kernel_rfl,
  i3 := by kernel_rfl,
  i4 := by kernel_rfl,
  i5 := by kernel_rfl,
  i9 := by kernel_rfl,
  i20 := by kernel_rfl,
  i37 := by kernel_rfl,
  i46 := by kernel_rfl,
  i51 := by kernel_rfl,
  i53 := by kernel_rfl,
  i171 := by kernel_rfl,
  i173 := by kernel_rfl,
  i212 := by kernel_rfl,
  i232 := by kernel_rfl,
  i233 := by kernel_rfl,
  m17 := by kernel_rfl,
  m18 := by kernel_rfl,
  m19 := by kernel_rfl }
theorem PC_of_callsG {P : Program} {Y : YEnv} {f : FuncId} {args : List PV} {σ σ' : Sg} {v : PV} (hg : goFn P f = true)
    (h : ∀ Ψ vals w, SR Ψ σ w → VRs Ψ args vals → GOK P Ψ → Calls P f vals w (fun e w' => ∃ x Ψ', e = .returned x ∧ Ψ.le Ψ' ∧ SR Ψ' σ' w' ∧ VR Ψ' v x ∧ Below Ψ.base w w')) : PC P Y f args σ v σ' :=
  ⟨hg, fun Ψ vals w hs ha hy => callsIn_wide.2 (h Ψ vals w hs ha hy.1)⟩
theorem one_arg {Ψ : Ty} {p : PV} {vals : Array Value} (ha : VRs Ψ [p] vals) : ∃ x, vals = #[x] ∧ VR Ψ p x := by
  have := ha.1
  match vals, this with
  | ⟨[x]⟩, _ => exact ⟨x, rfl, ha.2 0 _ _ rfl rfl⟩
theorem x72 : Builder.X72 Tryz.prog bld_ren := ⟨by kernel_rfl, by kernel_rfl⟩
/-- A builder in a variable. -/
theorem bld_at {Ψ : Ty} {σ : Sg} {w : World} (hs : SR Ψ σ w) {id T r te : Nat} {l : List PV} {b : Nat} (hst : σ.store[id]? = some (some [.bself id T, .bbuf l r te])) (hβ : Ψ.β[id]? = some b) :
    ∃ x v, Ψ.base ≤ b ∧ w.heap[b]? = some (.cells #[x, v] T (0, 0)) ∧ (x = .pointer none ∨ x = .pointer (some ⟨b, 0, none⟩)) ∧ VR Ψ (.bbuf l r te) v := by
  obtain ⟨a1, _, hk⟩ := hs.block id _ b hst hβ
  rcases hk with ⟨c, hb, h1, h2⟩ | ⟨arr, es, h0, _⟩ | ⟨mid, r', n, seen, h0, _⟩
  · simp only [List.length_cons, List.length_nil] at h1
    have v0 := h2 0 _ c[0] rfl (by simp)
    have v1 := h2 1 _ c[1] rfl (by simp)
    cases v0 with
    | bself _ _ b' _ hβ' hz hx =>
    rw [hβ] at hβ'
    injection hβ' with hβ'
    subst hβ'
    obtain ⟨_, c', f, hc', hsz⟩ := hs.szok _ _ hz
    obtain ⟨e, hbe⟩ := hb
    rw [hbe] at hc'
    injection hc' with hc'
    injection hc' with e1 e2 e3
    subst e1 e2
    refine ⟨c[0], c[1], a1, ?_, hx, v1⟩
    rw [hbe]
    congr 2
    apply Array.ext
    · simp [hsz]
    · intro i h1 h2
      match i, h2 with
      | 0, _ => rfl
      | 1, _ => rfl
  · cases h0
  · cases h0
theorem copyCheck_pc (Y : YEnv) (σ : Sg) {id r te : Nat} {l : List PV} (hst : σ.store[id]? = some (some [.bself id 78, .bbuf l r te])) : PC Tryz.prog Y 52 [.ptr id 0] σ (.tuple []) σ := by
  refine PC_of_calls (by kernel_rfl) fun Ψ vals w hs ha => ?_
  obtain ⟨x, rfl, hx⟩ := one_arg ha
  obtain ⟨b, hβ, hz, rfl⟩ := hx.ptr_inv
  obtain ⟨y, v, a1, hb, hy, hv⟩ := bld_at hs hst hβ
  have hc0 : w.cell? ⟨b, 0, none⟩ = some y := by rw [cell_eq, hb]; rfl
  rcases hy with rfl | rfl
  · refine (Any.Builder_copyCheck_fresh lays240 x72 b w hc0 (by simp [World.shape?, hb]; rfl) (by simp [World.frozen?, hb])).mono ?_
    rintro e w' ⟨rfl, rfl⟩
    have hself : VR Ψ (.bself id 78) (.pointer (some ⟨b, 0, none⟩)) := by
      obtain ⟨_, _, hk⟩ := hs.block id _ b hst hβ
      obtain ⟨_, h2⟩ := hk.cells ⟨_, hb⟩
      have v0 := h2 0 _ _ rfl rfl
      cases v0 with
      | bself _ _ b' _ hβ' hz' _ =>
      rw [hβ] at hβ'
      injection hβ' with hβ'
      subst hβ'
      exact .bself _ _ b _ hβ hz' (.inr rfl)
    have h2 : SR Ψ (σ.setVar id [.bself id 78, .bbuf l r te]) (w.setCell ⟨b, 0, none⟩ (.pointer (some ⟨b, 0, none⟩))) := hs.setVar hst hβ hz hself (off := 0)
    rw [setVar_same σ id _ hst] at h2
    exact ⟨_, Ψ, rfl, Ty.le.refl _, h2, skipped_ok _, (Below.refl _ _).setCell (p := ⟨b, 0, none⟩) a1 _⟩
  · refine (Any.Builder_copyCheck_used lays240 x72 b w hc0).mono ?_
    rintro e w' ⟨rfl, rfl⟩
    exact ⟨_, Ψ, rfl, Ty.le.refl _, hs, skipped_ok _, Below.refl _ _⟩
/-- What a builder holds, as a string: its row is marked. -/
theorem bldString (b g : Nat) (p : Value) (cap : Nat) (l : List UInt8) (w : World) (h0 : l ≠ []) (hbk : w.heap[b]? = some (.cells #[p, .slice (some ⟨g, 0, none⟩) l.length cap] 78 (0, 0))) {cur : Array Value} {fz : Nat × Nat} (hg : w.heap[g]? = some (.cells cur 5 fz)) (hn : l.length ≤ cur.size) (hcap : l.length ≤ cap) (h63 : l.length ≤ 9223372036854775807)
    (hcell : ∀ j x, l[j]? = some x → w.cell? ⟨g, j, none⟩ = some (.int .u8 x.toNat)) :
    Calls Tryz.prog 32 #[.pointer (some ⟨b, 0, none⟩)] w fun e w' => e = .returned (.string ⟨l.toArray⟩) ∧ w' = w.drew.freeze ⟨g, 0, none⟩ l.length := by
  have hl0 : l.length ≠ 0 := by simpa using h0
  have hb1 : w.drew.heap[b]? = some (.cells #[p, .slice (some ⟨g, 0, none⟩) l.length cap] 78 (0, 0)) := hbk
  have c1 : w.drew.cell? ⟨b, 1, none⟩ = some (.slice (some ⟨g, 0, none⟩) l.length cap) := by rw [Lib.cell_of_heap hb1]; rfl
  have hg' : w.drew.heap[g]? = some (.cells cur 5 fz) := hg
  have hSD : (Builtin.unsafeSliceData_ #[bld_ren.t 37] (bld_ren.t 127) #[.slice (some ⟨g, 0, none⟩) l.length cap]).run Tryz.prog w.drew = .ok (.pointer (some ⟨g, 0, none⟩)) w.drew :=
    Lib.run_unsafeSliceData_row _ _ _ _ _ _ (by omega)
  have hUS : (Builtin.unsafeString_ #[bld_ren.t 127, bld_ren.t 3] (bld_ren.t 9) #[.pointer (some ⟨g, 0, none⟩), .int .i64 l.length]).run Tryz.prog w.drew = .ok (.string ⟨l.toArray⟩) (w.drew.freeze ⟨g, 0, none⟩ l.length) :=
    Lib.run_unsafeString_row w.drew (bld_ren.t 127) (bld_ren.t 3) (bld_ren.t 9) 5 Tryz.underlying106 cells5 g cur.size (by simp [World.shape?, hg']) l h0 hn h63 fun j x hx => by
      have := hcell j x hx
      simpa using this
  have L := lays169
  have mixed := L.mixed
  have t72 := L.t72; have a72 := L.a72; have z72 := L.z72; have v72 := L.v72; have u72 := run_underlying L.t72
  have t70 := L.t70; have a70 := L.a70; have z70 := L.z70; have v70 := L.v70; have u70 := run_underlying L.t70
  have t37 := L.t37; have a37 := L.a37; have z37 := L.z37; have v37 := L.v37; have u37 := run_underlying L.t37
  have t127 := L.t127; have a127 := L.a127; have z127 := L.z127; have v127 := L.v127; have u127 := run_underlying L.t127
  have t3 := L.t3; have a3 := L.a3; have z3 := L.z3; have v3 := L.v3; have u3 := run_underlying L.t3
  have t9 := L.t9; have a9 := L.a9; have z9 := L.z9; have v9 := L.v9; have u9 := run_underlying L.t9
  go_enter L.f169, Body.n169_ntmps bld_ren
  go_wp2
  go_region_o
  all_goals (go_wp2; go_ret; exact ⟨rfl, rfl⟩)
theorem Itoa_pc (Y : YEnv) (σ : Sg) (n : Int) (h0 : -9223372036854775808 ≤ n) (h1 : n ≤ 9223372036854775807) : PC Tryz.prog Y 31 [I n] σ (.str ⟨(Lib.itoa n).toArray⟩) σ := by
  refine PC_of_callsG (by kernel_rfl) fun Ψ vals w hs ha hG => ?_
  obtain ⟨x, rfl, hx⟩ := one_arg ha
  obtain rfl := hx.int_inv
  have hgn : Tryz.prog.globalNamed "internal/strconv.uint64pow10" = some 2 := by kernel_rfl
  obtain ⟨_, e, f, hh⟩ := hs.szok _ _ (hG.tab 2 hgn)
  have htab : Lib.TabIs Tryz.prog w "internal/strconv.uint64pow10" .u64 Lib.pow10Tab := by
    unfold Lib.TabIs World.var?
    rw [hgn]
    simp only [Option.bind_some, hh]
    rfl
  refine (Any.strconv_Itoa lays171 n h0 h1 w htab).mono ?_
  rintro e2 w2 ⟨rfl, k, os, rfl⟩
  have ho : ∀ g, g < w.heap.size → (Sort.grow (w.drewN k) os).heap[g]? = w.heap[g]? := fun g hg => Sort.heap_grow_old (w.drewN k) os hg
  have hz : w.heap.size ≤ (Sort.grow (w.drewN k) os).heap.size := by simp [Sort.grow, World.drewN]
  exact ⟨_, Ψ, rfl, Ty.le.refl _, hs.more ho hz, .str _, ⟨rfl, rfl, rfl, hz, fun g hg => ho g (by have := hs.base; omega)⟩⟩
end Go.Proofs.YteklodljdndcoaaGreatDoor
namespace Go.Proofs.YteklodljdndcoaaGreatDoor
open Go
def splitL (b : UInt8) : List UInt8 → List (List UInt8)
  | [] => [[]]
  | c :: r => if c = b then [] :: splitL b r else match splitL b r with
    | p :: q => (c :: p) :: q
    | [] => [[c]]
def joinL (b : UInt8) : List (List UInt8) → List UInt8
  | [] => []
  | [p] => p
  | p :: q :: r => p ++ b :: joinL b (q :: r)
theorem splitL_ne (b : UInt8) (s : List UInt8) : splitL b s ≠ [] := by
  cases s with
  | nil => simp [splitL]
  | cons c r =>
    simp only [splitL]
    split
    · simp
    · split <;> simp
theorem join_split (b : UInt8) (s : List UInt8) : joinL b (splitL b s) = s := by
  induction s with
  | nil => rfl
  | cons c r ih =>
    simp only [splitL]
    have hne := splitL_ne b r
    cases hs : splitL b r with
    | nil => exact absurd hs hne
    | cons p q =>
      rw [hs] at ih
      split
      · rename_i h
        simp only [joinL, List.nil_append, ih, h]
      · cases q with
        | nil => simp only [joinL] at ih ⊢; rw [ih]
        | cons p2 q2 => simp only [joinL, List.cons_append] at ih ⊢; rw [ih]
theorem split_free (b : UInt8) (s : List UInt8) : ∀ p, p ∈ splitL b s → b ∉ p := by
  induction s with
  | nil => intro p hp; simp [splitL] at hp; subst hp; simp
  | cons c r ih =>
    intro p hp
    simp only [splitL] at hp
    split at hp
    · rcases List.mem_cons.1 hp with rfl | hp
      · simp
      · exact ih p hp
    · rename_i hc
      cases hs : splitL b r with
      | nil => exact absurd hs (splitL_ne b r)
      | cons p0 q =>
        rw [hs] at hp ih
        rcases List.mem_cons.1 hp with rfl | hp
        · have := ih p0 (List.mem_cons_self ..)
          simp only [List.mem_cons, not_or]
          exact ⟨fun e => hc e.symm, this⟩
        · exact ih p (List.mem_cons_of_mem _ hp)
theorem splitL_one {b : UInt8} : ∀ {p : List UInt8}, b ∉ p → splitL b p = [p]
  | [], _ => rfl
  | c :: p, h => by
    simp only [List.mem_cons, not_or] at h
    simp only [splitL, splitL_one h.2]
    rw [if_neg fun e => h.1 e.symm]
theorem splitL_app {b : UInt8} : ∀ {p : List UInt8} (s : List UInt8), b ∉ p → splitL b (p ++ b :: s) = p :: splitL b s
  | [], s, _ => by simp [splitL]
  | c :: p, s, h => by
    simp only [List.mem_cons, not_or] at h
    simp only [List.cons_append, splitL, splitL_app s h.2]
    rw [if_neg fun e => h.1 e.symm]
theorem splitL_len (b : UInt8) (s : List UInt8) : (splitL b s).length = s.count b + 1 := by
  induction s with
  | nil => rfl
  | cons c r ih =>
    simp only [splitL]
    split
    · rename_i h
      simp [ih, h]
    · rename_i h
      cases hs : splitL b r with
      | nil => exact absurd hs (splitL_ne b r)
      | cons p q =>
        rw [hs] at ih
        simp only [List.length_cons] at ih ⊢
        rw [List.count_cons_of_ne h]
        exact ih
/-- A text is free of the separator, or it is cut where it stands first. -/
theorem cut_at (b : UInt8) (s : List UInt8) : b ∉ s ∨ ∃ p r, s = p ++ b :: r ∧ b ∉ p := by
  induction s with
  | nil => exact .inl (by simp)
  | cons c s ih =>
    by_cases h : c = b
    · exact .inr ⟨[], s, by rw [h]; rfl, by simp⟩
    · rcases ih with h1 | ⟨p, r, h1, h2⟩
      · exact .inl (by simp only [List.mem_cons, not_or]; exact ⟨fun e => h e.symm, h1⟩)
      · exact .inr ⟨c :: p, r, by rw [h1]; rfl, by simp only [List.mem_cons, not_or]; exact ⟨fun e => h e.symm, h2⟩⟩
theorem indexByte_free {b : UInt8} : ∀ {s : List UInt8}, b ∉ s → Lib.indexByte s b = -1
  | [], _ => rfl
  | c :: s, h => by
    simp only [List.mem_cons, not_or] at h
    unfold Lib.indexByte
    rw [indexByte_free h.2, if_neg (by simpa using fun e => h.1 e.symm), if_pos (by decide)]
theorem indexByte_at {b : UInt8} (r : List UInt8) : ∀ {p : List UInt8}, b ∉ p → Lib.indexByte (p ++ b :: r) b = (p.length : Int)
  | [], _ => by simp [Lib.indexByte]
  | c :: p, h => by
    simp only [List.mem_cons, not_or] at h
    simp only [List.cons_append]
    unfold Lib.indexByte
    rw [indexByte_at r h.2, if_neg (by simpa using fun e => h.1 e.symm), if_neg (by simp)]
    simp
/-- The library's parts. -/
theorem splitK_one (b : UInt8) : ∀ (n : Nat) (s : List UInt8), s.length ≤ n → Lib.splitK [b] 0 (Lib.count s [b]) s = splitL b s := by
  intro n
  induction n with
  | zero =>
    intro s h
    have : s = [] := List.eq_nil_of_length_eq_zero (by omega)
    subst this
    have hm : Lib.index [] [b] = -1 := by rw [Lib.index_one]; rfl
    rw [Lib.count_miss hm]
    rfl
  | succ n ih =>
    intro s h
    rcases cut_at b s with hf | ⟨p, r, rfl, hp⟩
    · have hm : Lib.index s [b] = -1 := by rw [Lib.index_one]; exact indexByte_free hf
      rw [Lib.count_miss hm, splitL_one hf]
      rfl
    · have hm : Lib.index (p ++ b :: r) [b] = (p.length : Int) := by rw [Lib.index_one]; exact indexByte_at r hp
      have hd : (p ++ b :: r).drop (p.length + [b].length) = r := by
        rw [List.drop_append]
        simp
      rw [Lib.count_hit (by simp) hm, hd, Nat.add_comm 1, splitL_app r hp, Lib.splitK]
      rw [if_neg (by rw [hm]; simp), hm, Int.toNat_natCast, hd, ih r (by simp at h; omega)]
      simp
theorem splitB_one (b : UInt8) (s : ByteArray) : (Lib.splitB ⟨#[b]⟩ 0 (Lib.countB s ⟨#[b]⟩) s).map (·.data.toList) = splitL b s.data.toList := by
  rw [Lib.splitB_data]
  exact splitK_one b s.data.toList.length s.data.toList (Nat.le_refl _)
def numFrom (n : Nat) : List UInt8 → Option Nat
  | [] => some n
  | c :: r => if 48 ≤ c.toNat ∧ c.toNat ≤ 57 then numFrom (10 * n + (c.toNat - 48)) r else none
/-- A numeral of at most k digits. -/
def numE (k : Nat) (w : List UInt8) : Option Nat :=
  if w = [] ∨ k < w.length ∨ (w.head? = some 48 ∧ 1 < w.length) then none else numFrom 0 w
theorem numFrom_snoc (c : UInt8) : ∀ (l : List UInt8) (n : Nat), numFrom n (l ++ [c]) = (numFrom n l).bind fun m => if 48 ≤ c.toNat ∧ c.toNat ≤ 57 then some (10 * m + (c.toNat - 48)) else none
  | [], n => by simp only [List.nil_append, numFrom, Option.bind_some]
  | d :: l, n => by
    simp only [List.cons_append, numFrom]
    split
    · exact numFrom_snoc c l _
    · rfl
theorem numFrom_ge : ∀ (l : List UInt8) (n v : Nat), numFrom n l = some v → n ≤ v
  | [], n, v, h => by simp only [numFrom] at h; injection h with h; omega
  | c :: l, n, v, h => by
    simp only [numFrom] at h
    split at h
    · have := numFrom_ge l _ v h; omega
    · cases h
theorem dig_toNat {d : Nat} (h : d < 10) : (UInt8.ofNat (48 + d)).toNat = 48 + d := by simp; omega
theorem dec_ne (u : Nat) : Lib.decDigits u ≠ [] := by
  rw [Lib.decDigits]
  split <;> simp
theorem dec_num (u : Nat) : numFrom 0 (Lib.decDigits u) = some u := by
  induction u using Nat.strongRecOn with
  | _ u ih =>
    rw [Lib.decDigits]
    split
    · rename_i h
      simp only [numFrom, dig_toNat h]
      rw [if_pos (by omega)]
      congr 1; omega
    · rename_i h
      rw [numFrom_snoc, ih (u / 10) (by omega), Option.bind_some, dig_toNat (by omega), if_pos (by omega)]
      congr 1; omega
theorem head_app {α : Type} {l m : List α} (h : l ≠ []) : (l ++ m).head? = l.head? := by
  cases l with
  | nil => exact absurd rfl h
  | cons a l => rfl
theorem dec_head (u : Nat) : (Lib.decDigits u).head? = some 48 → u = 0 := by
  induction u using Nat.strongRecOn with
  | _ u ih =>
    rw [Lib.decDigits]
    split
    · rename_i h
      intro e
      simp only [List.head?_cons, Option.some.injEq] at e
      have := congrArg UInt8.toNat e
      rw [dig_toNat h] at this
      simp at this
      exact this
    · rename_i h
      intro e
      have hne := dec_ne (u / 10)
      rw [head_app hne] at e
      have := ih (u / 10) (by omega) e
      omega
theorem dec_one : Lib.decDigits 0 = [48] := by rw [Lib.decDigits]; rfl
theorem numE_dec {k u : Nat} (h : (Lib.decDigits u).length ≤ k) : numE k (Lib.decDigits u) = some u := by
  unfold numE
  rw [if_neg, dec_num]
  rintro (h1 | h1 | ⟨h1, h2⟩)
  · exact dec_ne u h1
  · omega
  · have := dec_head u h1
    subst this
    rw [dec_one] at h2
    simp at h2
theorem num_dec : ∀ (n : Nat) (w : List UInt8) (u : Nat), w.length = n → w ≠ [] → (w.head? = some 48 → w.length = 1) → numFrom 0 w = some u → w = Lib.decDigits u := by
  intro n
  induction n with
  | zero => intro w u hl hne; exact absurd (List.eq_nil_of_length_eq_zero hl) hne
  | succ n ih =>
    intro w u hl hne hz hn
    obtain ⟨l, c, rfl⟩ : ∃ l c, w = l ++ [c] := ⟨w.dropLast, w.getLast hne, (List.dropLast_concat_getLast hne).symm⟩
    rw [numFrom_snoc] at hn
    cases hm : numFrom 0 l with
    | none => rw [hm] at hn; cases hn
    | some m =>
      rw [hm, Option.bind_some] at hn
      split at hn
      · rename_i hc
        injection hn with hn
        have hcc : c = UInt8.ofNat (48 + (c.toNat - 48)) := by
          apply UInt8.toNat.inj
          rw [dig_toNat (by omega)]
          omega
        by_cases hl0 : l = []
        · subst hl0
          simp only [numFrom] at hm
          injection hm with hm
          subst hm
          rw [Lib.decDigits, dif_pos (by omega), ← hn, List.nil_append]
          rw [show 10 * 0 + (c.toNat - 48) = c.toNat - 48 by omega, ← hcc]
        · have hl1 : l.length = n := by simp at hl; exact hl
          have hlp : 0 < l.length := List.length_pos_iff.2 hl0
          have hh : l.head? ≠ some 48 := by
            intro e
            have := hz (by rw [head_app hl0]; exact e)
            simp at this
            exact hl0 this
          have e := ih l m hl1 hl0 (fun e => absurd e hh) hm
          have hm0 : m ≠ 0 := by
            rintro rfl
            rw [dec_one] at e
            rw [e] at hh
            exact hh rfl
          rw [Lib.decDigits, dif_neg (by omega), ← hn]
          rw [show (10 * m + (c.toNat - 48)) / 10 = m by omega, show (10 * m + (c.toNat - 48)) % 10 = c.toNat - 48 by omega, ← e, ← hcc]
      · cases hn
theorem numE_inv {k u : Nat} {w : List UInt8} (h : numE k w = some u) : w = Lib.decDigits u ∧ w.length ≤ k := by
  unfold numE at h
  split at h
  · cases h
  · rename_i hc
    simp only [not_or, not_and] at hc
    obtain ⟨h1, h2, h3⟩ := hc
    refine ⟨num_dec _ w u rfl h1 (fun e => ?_) h, by omega⟩
    have := h3 e
    have := List.length_pos_iff.2 h1
    omega
/-- The number that Atoi hands back, and whether there is no error. -/
def atoiV (w : List UInt8) : Int := match Lib.atoiAll w with
  | .ok v => v
  | .range => Lib.atoiSat w
  | _ => 0
def atoiOK (w : List UInt8) : Bool := match Lib.atoiAll w with
  | .ok _ => true
  | _ => false
theorem parse_num : ∀ (l : List UInt8) (n v : Nat), numFrom n l = some v → v < 18446744073709551616 → Lib.parseUint10 n l = .ok v
  | [], n, v, h, _ => by simp only [numFrom] at h; injection h with h; rw [Lib.parseUint10, h]
  | c :: l, n, v, h, hv => by
    simp only [numFrom] at h
    split at h
    · rename_i hc
      have hge := numFrom_ge l _ v h
      rw [Lib.parseUint10, if_pos hc, if_neg (by omega), if_neg (by omega), show n * 10 + (c.toNat - 48) = 10 * n + (c.toNat - 48) by omega]
      exact parse_num l _ v h hv
    · cases h
theorem dec_digits (u : Nat) : ∀ c, c ∈ Lib.decDigits u → 48 ≤ c.toNat ∧ c.toNat ≤ 57 := by
  induction u using Nat.strongRecOn with
  | _ u ih =>
    rw [Lib.decDigits]
    split
    · rename_i h
      intro c hc
      simp only [List.mem_singleton] at hc
      subst hc
      rw [dig_toNat h]
      omega
    · rename_i h
      intro c hc
      rcases List.mem_append.1 hc with hc | hc
      · exact ih (u / 10) (by omega) c hc
      · simp only [List.mem_singleton] at hc
        subst hc
        rw [dig_toNat (by omega)]
        omega
theorem atoi_dec {u : Nat} (h : u < 9223372036854775808) : Lib.atoiAll (Lib.decDigits u) = .ok (u : Int) := by
  have hd := dec_digits u
  have hn := dec_num u
  cases hw : Lib.decDigits u with
  | nil => exact absurd hw (dec_ne u)
  | cons c r =>
    rw [hw] at hd hn
    have hc := hd c (List.mem_cons_self ..)
    unfold Lib.atoiAll
    simp only
    rw [if_neg (by omega)]
    unfold Lib.parseMag
    rw [if_neg (by simp), parse_num _ _ _ hn (by omega)]
    simp only
    rw [if_neg (by omega), if_neg (by omega), if_neg (by omega)]
/-- A word, as the program tells whether it is a number. -/
def wordOK (k : Nat) (w : List UInt8) : Bool := atoiOK w && decide (0 ≤ atoiV w) && decide (w.length ≤ k) && decide (Lib.itoa (atoiV w) = w)
theorem pow_dec (u : Nat) : 10 ^ ((Lib.decDigits u).length - 1) ≤ u ∨ u = 0 := by
  induction u using Nat.strongRecOn with
  | _ u ih =>
    rw [Lib.decDigits]
    split
    · rcases Nat.eq_zero_or_pos u with h | h
      · exact .inr h
      · left; simp; omega
    · rename_i h
      left
      have hne := List.length_pos_iff.2 (dec_ne (u / 10))
      rcases ih (u / 10) (by omega) with h1 | h1
      · simp only [List.length_append, List.length_cons, List.length_nil, Nat.zero_add, Nat.add_sub_cancel]
        obtain ⟨m, hm⟩ : ∃ m, (Lib.decDigits (u / 10)).length = m + 1 := ⟨(Lib.decDigits (u / 10)).length - 1, by omega⟩
        rw [hm] at h1 ⊢
        rw [Nat.add_sub_cancel] at h1
        rw [Nat.pow_succ]
        omega
      · omega
theorem dec_small {k u : Nat} (h : (Lib.decDigits u).length ≤ k) : u < 10 ^ k := by
  have h1 := Lib.lt_pow_nDigits u
  rw [← Lib.decDigits_length] at h1
  exact Nat.lt_of_lt_of_le h1 (Nat.pow_le_pow_right (by omega) h)
theorem wordOK_num {k : Nat} (hk : k ≤ 18) (w : List UInt8) : wordOK k w = (numE k w).isSome ∧ ∀ n, numE k w = some n → atoiV w = (n : Int) := by
  have key : ∀ n, numE k w = some n → atoiV w = (n : Int) ∧ atoiOK w = true ∧ Lib.itoa (n : Int) = w ∧ w.length ≤ k := by
    intro n hn
    obtain ⟨h1, h2⟩ := numE_inv hn
    have hs : n < 10 ^ k := dec_small (by rw [← h1]; exact h2)
    have hb : 10 ^ k ≤ 10 ^ 18 := Nat.pow_le_pow_right (by omega) hk
    have ha := atoi_dec (u := n) (by omega)
    rw [← h1] at ha
    refine ⟨by unfold atoiV; rw [ha], by unfold atoiOK; rw [ha], ?_, h2⟩
    unfold Lib.itoa
    rw [if_neg (by omega), Int.toNat_natCast, ← h1]
  refine ⟨?_, fun n hn => (key n hn).1⟩
  cases hn : numE k w with
  | some n =>
    obtain ⟨h1, h2, h3, h4⟩ := key n hn
    unfold wordOK
    rw [h1, h2, h3]
    simp [h4]
  | none =>
    cases hw : wordOK k w with
    | false => rfl
    | true =>
      exfalso
      unfold wordOK at hw
      simp only [Bool.and_eq_true, decide_eq_true_eq] at hw
      obtain ⟨⟨⟨h1, h2⟩, h3⟩, h4⟩ := hw
      unfold Lib.itoa at h4
      rw [if_neg (by omega)] at h4
      have := numE_dec (k := k) (u := (atoiV w).toNat) (by rw [h4]; exact h3)
      rw [h4, hn] at this
      cases this
end Go.Proofs.YteklodljdndcoaaGreatDoor
namespace Go.Proofs.YteklodljdndcoaaGreatDoor
open Go Go.RowKit Go.Shelf
set_option maxRecDepth 100000
def lays146_ren : Go.Shelf.Ren := ⟨fun | 146 => 37 | 221 => 58 | 268 => 79 | 138 => 80 | 143 => 81 | 195 => 99 | 197 => 100 | 218 => 101 | 219 => 102 | 260 => 112 | 217 => 113 | 225 => 114 | 224 => 115 | 267 => 116 | 266 => 121 | 314 => 122 | n => n, fun | 9 => 9 | 31 => 42 | 3 => 3 | 4 => 4 | 0 => 0 | 105 => 153 | 21 => 21 | 5 => 5 | 46 => 103 | 119 => 173 | 139 => 176 | 138 => 175 | 146 => 177 | 51 => 164 | n => n, fun | 1 => 3 | 3 => 4 | 4 => 5 | n => n⟩
theorem lays146 : Lays.n146 Tryz.prog lays146_ren where
  mixed := by kernel_rfl
  f138 := Tryz.func80.trans (congrArg some (by kernel_rfl))
  f143 := Tryz.func81.trans (congrArg some (by kernel_rfl))
  f146 := Tryz.func37.trans (congrArg some (by kernel_rfl))
  f195 := Tryz.func99.trans (congrArg some (by kernel_rfl))
  f197 := Tryz.func100.trans (congrArg some (by kernel_rfl))
  f217 := Tryz.func113.trans (congrArg some (by kernel_rfl))
  f218 := Tryz.func101.trans (congrArg some (by kernel_rfl))
  f219 := Tryz.func102.trans (congrArg some (by kernel_rfl))
  f221 := Tryz.func58.trans (congrArg some (by kernel_rfl))
  f224 := Tryz.func115.trans (congrArg some (by kernel_rfl))
  f225 := Tryz.func114.trans (congrArg some (by kernel_rfl))
  f260 := Tryz.func112.trans (congrArg some (by kernel_rfl))
  f266 := Tryz.func121.trans (congrArg some (by kernel_rfl))
  f267 := Tryz.func116.trans (congrArg some (by kernel_rfl))
  f268 := Tryz.func79.trans (congrArg some (by kernel_rfl))
  f314 := Tryz.func122.trans (congrArg some (by kernel_rfl))
  t0 := Tryz.underlying0
  a0 := Tryz.isAgg0
  z0 := Tryz.sizeOf0
  v0 := Tryz.zeroValue0
  t3 := Tryz.underlying3
  a3 := Tryz.isAgg3
  z3 := Tryz.sizeOf3
  v3 := Tryz.zeroValue3
  t4 := Tryz.underlying4
  a4 := Tryz.isAgg4
  z4 := Tryz.sizeOf4
  v4 := Tryz.zeroValue4
  t5 := Tryz.underlying5
  a5 := Tryz.isAgg5
  z5 := Tryz.sizeOf5
  v5 := Tryz.zeroValue5
  t9 := Tryz.underlying9
  a9 := Tryz.isAgg9
  z9 := Tryz.sizeOf9
  v9 := Tryz.zeroValue9
  t21 := Tryz.underlying21
  a21 := Tryz.isAgg21
  z21 := Tryz.sizeOf21
  v21 := Tryz.zeroValue21
  t31 := Tryz.underlying42
  a31 := Tryz.isAgg42
  z31 := Tryz.sizeOf42
  v31 := Tryz.zeroValue42
  t46 := Tryz.underlying103
  a46 := Tryz.isAgg103
  z46 := Tryz.sizeOf103
  v46 := Tryz.zeroValue103
  t51 := Tryz.underlying164
  a51 := Tryz.isAgg164
  z51 := Tryz.sizeOf164
  v51 := Tryz.zeroValue164
  t105 := Tryz.underlying153
  a105 := Tryz.isAgg153
  z105 := Tryz.sizeOf153
  v105 := Tryz.zeroValue153
  t119 := Tryz.underlying173
  a119 := Tryz.isAgg173
  z119 := Tryz.sizeOf173
  t138 := Tryz.underlying175
  a138 := Tryz.isAgg175
  z138 := Tryz.sizeOf175
  v138 := Tryz.zeroValue175
  t139 := Tryz.underlying176
  a139 := Tryz.isAgg176
  z139 := Tryz.sizeOf176
  v139 := Tryz.zeroValue176
  t146 := Tryz.underlying177
  a146 := Tryz.isAgg177
  z146 := Tryz.sizeOf177
  v146 := Tryz.zeroValue177
  g1 := by kernel_rfl
  g3 := by kernel_rfl
  g4 := by kernel_rfl
def lays172_ren : Go.Shelf.Ren := ⟨fun | 172 => 38 | 244 => 59 | 245 => 60 | 247 => 82 | 279 => 83 | 280 => 84 | 281 => 85 | 282 => 86 | 287 => 103 | 316 => 104 | 171 => 31 | 205 => 105 | 321 => 117 | 322 => 118 | 243 => 53 | 246 => 74 | 283 => 93 | 284 => 94 | 285 => 95 | 286 => 96 | 129 => 108 | 317 => 107 | 318 => 109 | 319 => 110 | 320 => 111 | 337 => 119 | 338 => 120 | n => n, fun | 9 => 9 | 3 => 3 | 75 => 80 | 76 => 81 | 4 => 4 | 5 => 5 | 167 => 133 | 37 => 76 | 0 => 0 | 85 => 134 | 2 => 2 | 168 => 136 | 53 => 65 | 175 => 156 | 46 => 103 | 210 => 160 | 127 => 106 | 145 => 171 | 143 => 169 | 21 => 21 | 171 => 146 | 173 => 149 | 212 => 163 | 51 => 164 | 20 => 20 | 213 => 165 | 232 => 179 | 233 => 180 | 80 => 84 | n => n, fun | 15 => 0 | 16 => 1 | 17 => 2 | 18 => 6 | 19 => 7 | n => n⟩
theorem lays172 : LaysC.n172 Tryz.prog lays172_ren where
  mixed := by kernel_rfl
  f129 := Tryz.func108.trans (congrArg some (by kernel_rfl))
  f171 := Tryz.func31.trans (congrArg some (by kernel_rfl))
  f172 := Tryz.func38.trans (congrArg some (by kernel_rfl))
  f205 := Tryz.func105.trans (congrArg some (by kernel_rfl))
  f243 := Tryz.func53.trans (congrArg some (by kernel_rfl))
  f244 := Tryz.func59.trans (congrArg some (by kernel_rfl))
  f245 := Tryz.func60.trans (congrArg some (by kernel_rfl))
  f246 := Tryz.func74.trans (congrArg some (by kernel_rfl))
  f247 := Tryz.func82.trans (congrArg some (by kernel_rfl))
  f279 := Tryz.func83.trans (congrArg some (by kernel_rfl))
  f280 := Tryz.func84.trans (congrArg some (by kernel_rfl))
  f281 := Tryz.func85.trans (congrArg some (by kernel_rfl))
  f282 := Tryz.func86.trans (congrArg some (by kernel_rfl))
  f283 := Tryz.func93.trans (congrArg some (by kernel_rfl))
  f284 := Tryz.func94.trans (congrArg some (by kernel_rfl))
  f285 := Tryz.func95.trans (congrArg some (by kernel_rfl))
  f286 := Tryz.func96.trans (congrArg some (by kernel_rfl))
  f287 := Tryz.func103.trans (congrArg some (by kernel_rfl))
  f316 := Tryz.func104.trans (congrArg some (by kernel_rfl))
  f317 := Tryz.func107.trans (congrArg some (by kernel_rfl))
  f318 := Tryz.func109.trans (congrArg some (by kernel_rfl))
  f319 := Tryz.func110.trans (congrArg some (by kernel_rfl))
  f320 := Tryz.func111.trans (congrArg some (by kernel_rfl))
  f321 := Tryz.func117.trans (congrArg some (by kernel_rfl))
  f322 := Tryz.func118.trans (congrArg some (by kernel_rfl))
  f337 := Tryz.func119.trans (congrArg some (by kernel_rfl))
  f338 := Tryz.func120.trans (congrArg some (by kernel_rfl))
  t0 := Tryz.underlying0
  a0 := Tryz.isAgg0
  z0 := Tryz.sizeOf0
  v0 := Tryz.zeroValue0
  t2 := Tryz.underlying2
  a2 := Tryz.isAgg2
  z2 := Tryz.sizeOf2
  v2 := Tryz.zeroValue2
  t3 := Tryz.underlying3
  a3 := Tryz.isAgg3
  z3 := Tryz.sizeOf3
  v3 := Tryz.zeroValue3
  t4 := Tryz.underlying4
  a4 := Tryz.isAgg4
  z4 := Tryz.sizeOf4
  v4 := Tryz.zeroValue4
  t5 := Tryz.underlying5
  a5 := Tryz.isAgg5
  z5 := Tryz.sizeOf5
  v5 := Tryz.zeroValue5
  t9 := Tryz.underlying9
  a9 := Tryz.isAgg9
  z9 := Tryz.sizeOf9
  v9 := Tryz.zeroValue9
  t20 := Tryz.underlying20
  a20 := Tryz.isAgg20
  z20 := Tryz.sizeOf20
  v20 := Tryz.zeroValue20
  t21 := Tryz.underlying21
  a21 := Tryz.isAgg21
  z21 := Tryz.sizeOf21
  v21 := Tryz.zeroValue21
  t37 := Tryz.underlying76
  a37 := Tryz.isAgg76
  z37 := Tryz.sizeOf76
  v37 := Tryz.zeroValue76
  t46 := Tryz.underlying103
  a46 := Tryz.isAgg103
  z46 := Tryz.sizeOf103
  v46 := Tryz.zeroValue103
  t51 := Tryz.underlying164
  a51 := Tryz.isAgg164
  z51 := Tryz.sizeOf164
  v51 := Tryz.zeroValue164
  t53 := Tryz.underlying65
  a53 := Tryz.isAgg65
  z53 := Tryz.sizeOf65
  v53 := Tryz.zeroValue65
  t75 := Tryz.underlying80
  a75 := Tryz.isAgg80
  z75 := Tryz.sizeOf80
  v75 := Tryz.zeroValue80
  t76 := Tryz.underlying81
  a76 := Tryz.isAgg81
  z76 := Tryz.sizeOf81
  v76 := Tryz.zeroValue81
  t85 := Tryz.underlying134
  a85 := Tryz.isAgg134
  z85 := Tryz.sizeOf134
  v85 := Tryz.zeroValue134
  t127 := Tryz.underlying106
  a127 := Tryz.isAgg106
  z127 := Tryz.sizeOf106
  v127 := Tryz.zeroValue106
  t143 := Tryz.underlying169
  a143 := Tryz.isAgg169
  z143 := Tryz.sizeOf169
  v143 := Tryz.zeroValue169
  t145 := Tryz.underlying171
  a145 := Tryz.isAgg171
  z145 := Tryz.sizeOf171
  v145 := Tryz.zeroValue171
  t167 := Tryz.underlying133
  a167 := Tryz.isAgg133
  z167 := Tryz.sizeOf133
  v167 := Tryz.zeroValue133
  t168 := Tryz.underlying136
  a168 := Tryz.isAgg136
  z168 := Tryz.sizeOf136
  v168 := Tryz.zeroValue136
  t171 := Tryz.underlying146
  a171 := Tryz.isAgg146
  z171 := Tryz.sizeOf146
  v171 := Tryz.zeroValue146
  t173 := Tryz.underlying149
  a173 := Tryz.isAgg149
  z173 := Tryz.sizeOf149
  v173 := Tryz.zeroValue149
  t175 := Tryz.underlying156
  a175 := Tryz.isAgg156
  z175 := Tryz.sizeOf156
  v175 := Tryz.zeroValue156
  t210 := Tryz.underlying160
  a210 := Tryz.isAgg160
  z210 := Tryz.sizeOf160
  v210 := Tryz.zeroValue160
  t212 := Tryz.underlying163
  a212 := Tryz.isAgg163
  z212 := Tryz.sizeOf163
  v212 := Tryz.zeroValue163
  t213 := Tryz.underlying165
  a213 := Tryz.isAgg165
  z213 := Tryz.sizeOf165
  t232 := Tryz.underlying179
  a232 := Tryz.isAgg179
  z232 := Tryz.sizeOf179
  v232 := Tryz.zeroValue179
  t233 := Tryz.underlying180
  a233 := Tryz.isAgg180
  z233 := Tryz.sizeOf180
  v233 := Tryz.zeroValue180
  g15 := by kernel_rfl
  g16 := by kernel_rfl
  g17 := by kernel_rfl
  g18 := by kernel_rfl
  g19 := by kernel_rfl
  t80 := Tryz.underlying84
  a80 := Tryz.isAgg84
  z80 := Tryz.sizeOf84
  v80 := Tryz.zeroValue84
  i0 := by kernel_rfl
  i2 := by kernel_rfl
  i3 := by kernel_rfl
  i4 := by kernel_rfl
  i5 := by kernel_rfl
  i9 := by kernel_rfl
  i20 := by kernel_rfl
  i21 := by kernel_rfl
  i37 := by kernel_rfl
  i46 := by kernel_rfl
  i51 := by kernel_rfl
  i53 := by kernel_rfl
  i75 := by kernel_rfl
  i76 := by kernel_rfl
  i80 := by kernel_rfl
  i85 := by kernel_rfl
  i127 := by kernel_rfl
  i143 := by kernel_rfl
  i145 := by kernel_rfl
  i167 := by kernel_rfl
  i168 := by kernel_rfl
  i171 := by kernel_rfl
  i173 := by kernel_rfl
  i175 := by kernel_rfl
  i210 := by kernel_rfl
  i212 := by kernel_rfl
  i232 := by kernel_rfl
  i233 := by kernel_rfl
  m15 := by kernel_rfl
  m16 := by kernel_rfl
  m17 := by kernel_rfl
  m18 := by kernel_rfl
  m19 := by kernel_rfl
  c0 := by kernel_rfl
  c2 := by kernel_rfl
  c3 := by kernel_rfl
  c4 := by kernel_rfl
  c5 := by kernel_rfl
  c9 := by kernel_rfl
  c20 := by kernel_rfl
  c21 := by kernel_rfl
  c37 := by kernel_rfl
  c46 := by kernel_rfl
  c51 := by kernel_rfl
  c53 := by kernel_rfl
  c75 := by kernel_rfl
  c76 := by kernel_rfl
  c80 := by kernel_rfl
  c85 := by kernel_rfl
  c127 := by kernel_rfl
  c143 := by kernel_rfl
  c145 := by kernel_rfl
  c167 := by kernel_rfl
  c168 := by kernel_rfl
  c171 := by kernel_rfl
  c173 := by kernel_rfl
  c175 := by kernel_rfl
  c210 := by kernel_rfl
  c212 := by kernel_rfl
  c213 := by kernel_rfl
  c232 := by kernel_rfl
  c233 := by kernel_rfl
theorem two_arg {Ψ : Ty} {p q : PV} {vals : Array Value} (ha : VRs Ψ [p, q] vals) : ∃ x y, vals = #[x, y] ∧ VR Ψ p x ∧ VR Ψ q y := by
  have := ha.1
  match vals, this with
  | ⟨[x, y]⟩, _ => exact ⟨x, y, rfl, ha.2 0 _ _ rfl rfl, ha.2 1 _ _ rfl rfl⟩
theorem Split_pc (Y : YEnv) (σ : Sg) (l : List UInt8) (b : UInt8) (hl : l.length < 4294967281) :
    PC Tryz.prog Y 37 [.str ⟨l.toArray⟩, .str ⟨#[b]⟩] σ (.isl ((splitL b l).map txt) .exact) σ := by
  refine PC_of_callsG (by kernel_rfl) fun Ψ vals w hs ha hG => ?_
  obtain ⟨x, y, rfl, hx, hy⟩ := two_arg ha
  obtain rfl := hx.str_inv
  obtain rfl := hy.str_inv
  have hgn : Tryz.prog.globalNamed "internal/bytealg.MaxLen" = some 3 := by kernel_rfl
  obtain ⟨m, hm⟩ := hG.max 3 hgn
  have hm' := hs.imm _ _ _ hm
  have hsz : (⟨l.toArray⟩ : ByteArray).size = l.length := by simp [ByteArray.size]
  refine (Any.strings_Split lays146 (by kernel_rfl) ⟨l.toArray⟩ ⟨#[b]⟩ m w (by rw [hsz]; exact hl) hm' (Nat.le_refl 1)).mono ?_
  rintro e2 w2 ⟨rfl, rfl⟩
  have hsp := splitB_one b ⟨l.toArray⟩
  have hdl : (⟨l.toArray⟩ : ByteArray).data.toList = l := by simp
  rw [hdl] at hsp
  have hlen := Lib.splitB_all ⟨#[b]⟩ (Nat.le_refl 1) 0 _ (⟨l.toArray⟩ : ByteArray) rfl
  have hln : ((splitL b l).map txt).length = Lib.countB ⟨l.toArray⟩ ⟨#[b]⟩ + 1 := by
    rw [List.length_map, ← hsp, List.length_map, hlen]
  obtain ⟨Ψ', le, hs', hv⟩ := hs.newSlice (es := 1) (l := (splitL b l).map txt) (C := ((Lib.splitB ⟨#[b]⟩ 0 (Lib.countB ⟨l.toArray⟩ ⟨#[b]⟩) ⟨l.toArray⟩).map Value.string).toArray) 9 (fun k e hk => by
    obtain ⟨p, _, rfl⟩ := List.mem_map.1 (List.mem_of_getElem? hk)
    rfl) (fun k e j p hk hj => by
    rw [← hsp, List.map_map, List.getElem?_map, Option.map_eq_some_iff] at hk
    obtain ⟨q, hq, rfl⟩ := hk
    obtain ⟨rfl, rfl⟩ := one_get hj
    refine ⟨.string q, by simp [hq], ?_⟩
    have : (⟨q.data.toList.toArray⟩ : ByteArray) = q := by simp
    show VR Ψ (.str ⟨q.data.toList.toArray⟩) _
    rw [this]
    exact .str q)
  rw [hln] at hv
  exact ⟨_, Ψ', rfl, le, hs', hv, (Below.refl _ _).alloc hs.base _⟩
def errPV (ok : Bool) : PV := match ok with
  | true => .niliface
  | false => .iface 136 .undef
theorem Atoi_pc (Y : YEnv) (σ : Sg) (l : List UInt8) (hl : l.length ≤ 281474976710656) :
    PC Tryz.prog Y 38 [.str ⟨l.toArray⟩] σ (.tuple [I (atoiV l), errPV (atoiOK l)]) σ := by
  refine PC_of_callsG (by kernel_rfl) fun Ψ vals w hs ha hG => ?_
  obtain ⟨x, rfl, hx⟩ := one_arg ha
  obtain rfl := hx.str_inv
  have hsz : (⟨l.toArray⟩ : ByteArray).size = l.length := by simp [ByteArray.size]
  have hdl : (⟨l.toArray⟩ : ByteArray).data.toList = l := by simp
  have low : ∀ {w2 : World}, Below w.heap.size w w2 → SR Ψ σ w2 ∧ Below Ψ.base w w2 := fun hb =>
    ⟨hs.more (fun k hk => hb.block k hk) hb.size, ⟨hb.os, hb.tape, hb.output, hb.size, fun k hk => hb.block k (Nat.lt_of_lt_of_le hk hs.base)⟩⟩
  have tup : ∀ (n : Int) (p : PV) (v : Value), VR Ψ p v → VR Ψ (.tuple [I n, p]) (.tuple #[.int .i64 n, v]) := fun n p v hp =>
    .tuple _ _ rfl fun j q y h1 h2 => by
      match j, h1, h2 with
      | 0, h1, h2 => simp at h1 h2; subst h1 h2; exact .int _ _
      | 1, h1, h2 => simp at h1 h2; subst h1 h2; exact hp
      | j + 2, h1, h2 => simp at h1
  unfold atoiV atoiOK
  cases hA : Lib.atoiAll l with
  | ok v =>
    refine (Any.strconv_Atoi_ok lays172 ⟨l.toArray⟩ (by rw [hsz]; omega) v (by rw [hdl]; exact hA) w).mono ?_
    rintro e2 w2 ⟨rfl, hw⟩
    have hb : Below w.heap.size w w2 := by
      rcases hw with rfl | ⟨t, rfl⟩
      · exact Below.refl _ _
      · exact Lib.bytesWorld_below _ _ _
    exact ⟨_, Ψ, rfl, Ty.le.refl _, (low hb).1, tup v _ _ .niliface, (low hb).2⟩
  | range =>
    have hgn : Tryz.prog.globalNamed "strconv.ErrRange" = some 1 := by kernel_rfl
    obtain ⟨te, xe, he⟩ := hG.err "strconv.ErrRange" (by simp) 1 hgn
    refine (Any.strconv_Atoi_range lays172 ⟨l.toArray⟩ (by rw [hsz]; exact hl) (by rw [hdl]; exact hA) _ w (hs.imm _ _ _ he) (.inr ⟨_, _, rfl⟩)).mono ?_
    rintro e2 w2 ⟨N, rfl, _, _, hb⟩
    rw [hdl]
    exact ⟨_, Ψ, rfl, Ty.le.refl _, (low hb).1, tup _ _ _ (.iface _ _ _ (.undef _)), (low hb).2⟩
  | _ =>
    have hgn : Tryz.prog.globalNamed "strconv.ErrSyntax" = some 0 := by kernel_rfl
    obtain ⟨te, xe, he⟩ := hG.err "strconv.ErrSyntax" (by simp) 0 hgn
    refine (Any.strconv_Atoi_syntax lays172 ⟨l.toArray⟩ (by rw [hsz]; exact hl) (by rw [hdl]; exact hA) _ w (hs.imm _ _ _ he) (.inr ⟨_, _, rfl⟩)).mono ?_
    rintro e2 w2 ⟨N, rfl, _, _, hb⟩
    exact ⟨_, Ψ, rfl, Ty.le.refl _, (low hb).1, tup 0 _ _ (.iface _ _ _ (.undef _)), (low hb).2⟩
end Go.Proofs.YteklodljdndcoaaGreatDoor
namespace Go.Proofs.YteklodljdndcoaaGreatDoor
open Go
def rowT (w : List UInt8) (l : List Int) : List UInt8 := w ++ l.flatMap fun n => 32 :: Lib.itoa n
theorem rowT_nil (w : List UInt8) : rowT w [] = w := by simp [rowT]
theorem rowT_cons (w : List UInt8) (n : Int) (l : List Int) : rowT w (n :: l) = rowT (w ++ 32 :: Lib.itoa n) l := by simp [rowT]
theorem rowT_take {w : List UInt8} {l : List Int} {i : Nat} {n : Int} (h : l[i]? = some n) : rowT w (l.take (i + 1)) = rowT w (l.take i) ++ 32 :: Lib.itoa n := by
  unfold rowT
  rw [List.take_add_one, h, List.flatMap_append]
  simp
/-- The numbers of some words; none: one of them is no number. -/
def numsE (k : Nat) : List (List UInt8) → Option (List Int)
  | [] => some []
  | w :: r => match numE k w with
    | none => none
    | some n => (numsE k r).map fun l => (n : Int) :: l
def parseE (k : Nat) (s : List UInt8) : Option (List UInt8 × List Int) := match splitL 32 s with
  | [] => none
  | w :: r => (numsE k r).map fun l => (w, l)
theorem numsE_len {k : Nat} : ∀ {ws : List (List UInt8)} {l : List Int}, numsE k ws = some l → l.length = ws.length := by
  intro ws
  induction ws with
  | nil => intro l h; simp [numsE] at h; subst h; rfl
  | cons w r ih =>
    intro l h
    simp only [numsE] at h
    split at h
    · cases h
    · simp only [Option.map_eq_some_iff] at h
      obtain ⟨l0, h0, rfl⟩ := h
      simp [ih h0]
theorem joinL_cons (b : UInt8) (p : List UInt8) (q : List (List UInt8)) : joinL b (p :: q) = p ++ q.flatMap fun x => b :: x := by
  induction q generalizing p with
  | nil => simp [joinL]
  | cons r q ih => simp only [joinL, List.flatMap_cons]; rw [ih]; simp
theorem rowT_join (w : List UInt8) (l : List Int) : rowT w l = joinL 32 (w :: l.map Lib.itoa) := by
  rw [joinL_cons, List.flatMap_map]
  rfl
/-- A number as it is written: not negative, of at most k digits. -/
def Short (k : Nat) (n : Int) : Prop := 0 ≤ n ∧ (Lib.itoa n).length ≤ k
theorem itoa_nat {n : Int} (h : 0 ≤ n) : Lib.itoa n = Lib.decDigits n.toNat := by unfold Lib.itoa; rw [if_neg (by omega)]
theorem numsE_inv {k : Nat} : ∀ {ws : List (List UInt8)} {l : List Int}, numsE k ws = some l → ws = l.map Lib.itoa ∧ ∀ n, n ∈ l → Short k n := by
  intro ws
  induction ws with
  | nil => intro l h; simp [numsE] at h; subst h; exact ⟨rfl, fun n h => by cases h⟩
  | cons w r ih =>
    intro l h
    simp only [numsE] at h
    split at h
    · cases h
    · rename_i n hn
      simp only [Option.map_eq_some_iff] at h
      obtain ⟨l0, h0, rfl⟩ := h
      obtain ⟨h1, h2⟩ := ih h0
      obtain ⟨k1, k2⟩ := numE_inv hn
      have e : Lib.itoa (n : Int) = w := by rw [itoa_nat (by omega), Int.toNat_natCast, k1]
      refine ⟨by rw [List.map_cons, e, ← h1], fun m hm => ?_⟩
      rcases List.mem_cons.1 hm with rfl | hm
      · exact ⟨by omega, by rw [e]; exact k2⟩
      · exact h2 m hm
theorem parse_inv {k : Nat} {s w : List UInt8} {l : List Int} (h : parseE k s = some (w, l)) : s = rowT w l ∧ ∀ n, n ∈ l → Short k n := by
  unfold parseE at h
  split at h
  · cases h
  · rename_i w0 r hs
    simp only [Option.map_eq_some_iff, Prod.mk.injEq] at h
    obtain ⟨l0, h0, rfl, rfl⟩ := h
    obtain ⟨h1, h2⟩ := numsE_inv h0
    refine ⟨?_, h2⟩
    rw [rowT_join, ← h1, ← hs, join_split]
/-- Rows, each with its end. -/
theorem rows_join : ∀ (l : List (List UInt8)), l.flatMap (fun r => r ++ [10]) = joinL 10 (l ++ [[]]) := by
  intro l
  induction l with
  | nil => rfl
  | cons r l ih =>
    cases l with
    | nil => simp [joinL]
    | cons q l =>
      simp only [List.flatMap_cons, List.cons_append, joinL] at ih ⊢
      rw [ih]
      simp
/-- A text whose last part is empty is made of rows. -/
theorem rows_of {s : List UInt8} (h : (splitL 10 s)[(splitL 10 s).length - 1]? = some []) : s = ((splitL 10 s).take ((splitL 10 s).length - 1)).flatMap (fun r => r ++ [10]) := by
  obtain ⟨ws, hws⟩ : ∃ z, splitL 10 s = z := ⟨_, rfl⟩
  have hj := join_split 10 s
  rw [hws] at h hj ⊢
  have hl := (List.getElem?_eq_some_iff.1 h).1
  have e : ws = ws.take (ws.length - 1) ++ [[]] := by
    have h1 := (List.take_append_drop (ws.length - 1) ws).symm
    rw [List.drop_eq_getElem_cons hl, (List.getElem?_eq_some_iff.1 h).2, List.drop_eq_nil_of_le (by omega)] at h1
    exact h1
  rw [rows_join, ← e]
  exact hj.symm
theorem short_lt {k : Nat} {n : Int} (h : 0 ≤ n) (h2 : n < ((10 ^ k : Nat) : Int)) (hk : 1 ≤ k) : Short k n := by
  refine ⟨h, ?_⟩
  rw [itoa_nat h]
  have hs := pow_dec n.toNat
  rcases Nat.lt_or_ge k (Lib.decDigits n.toNat).length with hl | hl
  · exfalso
    rcases hs with hs | hs
    · have := Nat.pow_le_pow_right (n := 10) (by omega) (show k ≤ (Lib.decDigits n.toNat).length - 1 by omega)
      omega
    · rw [hs, dec_one] at hl
      simp at hl
      omega
  · exact hl
end Go.Proofs.YteklodljdndcoaaGreatDoor
namespace Go.Proofs.YteklodljdndcoaaGreatDoor
open Go Go.RowKit
set_option maxRecDepth 100000
def Fits (l : List Int) : Prop := ∀ n, n ∈ l → -9223372036854775808 ≤ n ∧ n ≤ 9223372036854775807
theorem u8_48 {c : UInt8} : (c = 48) ↔ c.toNat = 48 := ⟨fun h => by rw [h]; rfl, fun h => UInt8.toNat.inj h⟩
theorem numFrom_cons (n : Nat) (c : UInt8) (r : List UInt8) : numFrom n (c :: r) = if 48 ≤ c.toNat ∧ c.toNat ≤ 57 then numFrom (10 * n + (c.toNat - 48)) r else none := rfl
theorem take_free {b : UInt8} {s : List UInt8} {f i : Nat} {c : UInt8} (h : b ∉ (s.drop f).take (i - f)) (hf : f ≤ i) (hx : s[i]? = some c) (hc : c ≠ b) : b ∉ (s.drop f).take (i + 1 - f) := by
  rw [show i + 1 - f = (i - f) + 1 by omega, List.take_add_one, List.getElem?_drop, show f + (i - f) = i by omega, hx]
  simp only [Option.toList_some, List.mem_append, List.mem_singleton, not_or]
  exact ⟨h, fun e => hc e.symm⟩
theorem drop_cut {s : List UInt8} {f i : Nat} {c : UInt8} (hf : f ≤ i) (hx : s[i]? = some c) : s.drop f = (s.drop f).take (i - f) ++ c :: s.drop (i + 1) := by
  have hl : i < s.length := (List.getElem?_eq_some_iff.1 hx).1
  have hv : s[i] = c := (List.getElem?_eq_some_iff.1 hx).2
  have h1 := (List.take_append_drop (i - f) (s.drop f)).symm
  rw [List.drop_drop, show f + (i - f) = i by omega, List.drop_eq_getElem_cons hl, hv] at h1
  exact h1
set_option maxHeartbeats 2000000 in
theorem rrow_pc (Y : YEnv) (σ : Sg) (w : List UInt8) (l : List Int) (o : Own) (hw : w.length ≤ 2 ^ 40) (hl : l.length ≤ 2 ^ 30) (hv : Fits l) :
  PC Tryz.prog Y 34 [txt w, .isl (l.map I) o] σ (txt (rowT w l ++ [10])) (σ) := by
 refine PC_of_W Tryz.func34 rfl (by kernel_rfl) Tryz.ntmps34 (by simp) fun hcl hca => ?_
 refine W_seq fun kz1 kq1 => ?_
 refine W_region [0, 1] fun R hR => ?_
 simp only [go_sem]
 refine hR _ _ (kq1 _ _ ?_); clear hR R; try clear kq1 kz1
 try simp only [go_sem]
 refine W_seq fun kz2 kq2 => ?_
 refine W_seq fun kz3 kq3 => ?_
 refine W_region [0, 1, 5] fun R hR => ?_
 simp only [go_sem]
 refine hR _ _ (kq3 _ _ ?_); clear hR R; try clear kq3 kz3
 try simp only [go_sem]
 refine W_block ?_
 refine W_loopS (α := Nat × (List UInt8)) (fun ⟨i, acc⟩ => [(0, txt acc), (5, I i)]) (fun ⟨i, acc⟩ => i ≤ l.length ∧ rowT acc (l.drop i) = rowT w l ∧ acc.length ≤ w.length + 22 * i) (fun ⟨i, acc⟩ => l.length - i) ((0, w)) rfl (⟨Nat.zero_le _, rfl, by omega⟩) ?_
 rintro ⟨i, acc⟩ ⟨hi, hinv, hal⟩
 refine W_seq fun kz4 kq4 => ?_
 refine W_seq fun kz5 kq5 => ?_
 refine W_region [0, 1, 5, 9] fun R hR => ?_
 simp only [go_sem]
 refine hR _ _ (kq5 _ _ ?_); clear hR R; try clear kq5 kz5
 try simp only [go_sem]
 refine W_cond rfl (fun c1 => ?_) (fun c1 => ?_)
 ·
  try simp only [nrm] at c1
  have hi' : i < l.length := by first | assumption | omega
  obtain ⟨x, hx⟩ : ∃ x, l[i]? = some x := ⟨l[i], by simp [hi']⟩
  have hdrop : l.drop i = x :: l.drop (i + 1) := by
   rw [List.drop_eq_getElem_cons hi']; congr 1; exact (List.getElem?_eq_some_iff.1 hx).2
  have hxv := hv x (List.mem_of_getElem? hx)
  have hxl := Lib.itoa_length_le x hxv.1 hxv.2
  rw [hdrop, rowT_cons] at hinv
  refine W_skip (kq4 _ _ ?_)
  refine W_seq fun kz6 kq6 => ?_
  refine W_block ?_
  refine W_region [0, 1, 5] fun R hR => ?_
  simp only [go_sem, hx]
  try simp (disch := (first | omega | (simp only [go_sem, List.length_append] <;> omega))) only [wrapI, wrapU, appX_exact, appX_tok, strAdd, slT, slTa, slTb]
  try simp only [go_sem, hx]
  try simp (disch := (first | omega | (simp only [go_sem, List.length_append] <;> omega))) only [wrapI, wrapU, strAdd, slT, slTa, slTb]
  refine GCall_of (Itoa_pc Y _ x hxv.1 hxv.2) ?_
  simp only [go_sem, hx]
  try simp (disch := (first | omega | (simp only [go_sem, List.length_append] <;> omega))) only [wrapI, wrapU, appX_exact, appX_tok, strAdd, slT, slTa, slTb]
  try simp only [go_sem, hx]
  refine hR _ _ (kq6 _ _ ?_); clear hR R; try clear kq6 kz6
  try simp only [go_sem, hx]
  refine W_region [0, 1, 5] fun R hR => ?_
  simp only [go_sem, hx]
  try simp (disch := (first | omega | (simp only [go_sem, List.length_append] <;> omega))) only [wrapI, wrapU, strAdd, slT, slTa, slTb]
  refine hR _ _ ?_; clear hR R
  try simp only [go_sem, hx]
  refine ⟨(i + 1, acc ++ 32 :: Lib.itoa x), ?_, by (try simp only []); omega, ?_⟩
  ·refine Weak.eq (by simp only [List.append_assoc, List.cons_append, List.nil_append]; first | done | rfl) rfl
  ·try dsimp only
   exact ⟨hi', hinv, by simp only [List.length_append, List.length_cons]; omega⟩
 ·
  try simp only [nrm] at c1
  have hdrop : l.drop i = [] := List.drop_eq_nil_of_le (by omega)
  rw [hdrop, rowT_nil] at hinv
  refine W_exit ?_
  simp only [go_sem]
  refine kq2 _ _ ?_
  refine W_seq fun kz7 kq7 => ?_
  refine W_region [4] fun R hR => ?_
  simp only [go_sem]
  try simp (disch := (first | omega | (simp only [go_sem, List.length_append] <;> omega))) only [wrapI, wrapU, appX_exact, appX_tok, strAdd, slT, slTa, slTb]
  try simp only [go_sem]
  refine hR _ _ (kq7 _ _ ?_); clear hR R; try clear kq7 kz7
  try simp only [go_sem]
  refine W_ret ?_
  simp only [go_sem]
  refine ⟨.inr (by trivial), ?_⟩
  first | refine Fin_same hcl rfl (Wk_eq ?_ (by simp only [go_sem])) | refine Fin_self hcl rfl (Wk_eq ?_ (by simp only [go_sem]))
  try simp only [go_sem]
  all_goals
   first | rw [← hinv] | rfl
set_option maxHeartbeats 2000000 in
theorem rsplit_pc (Y : YEnv) (σ : Sg) (s : List UInt8) (b : UInt8) (hs : s.length ≤ 2 ^ 40) :
  PC Tryz.prog Y 40 [txt s, .int .u8 b.toNat] σ (.isl ((splitL b s).map txt) .ro) (σ) := by
 refine PC_of_W Tryz.func40 rfl (by kernel_rfl) Tryz.ntmps40 (by simp) fun hcl hca => ?_
 refine W_seq fun kz1 kq1 => ?_
 refine W_region [0, 1] fun R hR => ?_
 simp only [go_sem]
 refine hR _ _ (kq1 _ _ ?_); clear hR R; try clear kq1 kz1
 try simp only [go_sem]
 refine W_seq fun kz2 kq2 => ?_
 refine W_region [0, 1, 5] fun R hR => ?_
 simp only [go_sem]
 refine hR _ _ (kq2 _ _ ?_); clear hR R; try clear kq2 kz2
 try simp only [go_sem]
 refine W_seq fun kz3 kq3 => ?_
 refine W_region [0, 1, 5, 6] fun R hR => ?_
 simp only [go_sem]
 refine hR _ _ (kq3 _ _ ?_); clear hR R; try clear kq3 kz3
 try simp only [go_sem]
 refine W_seq fun kz4 kq4 => ?_
 refine W_seq fun kz5 kq5 => ?_
 refine W_region [0, 1, 5, 6, 7] fun R hR => ?_
 simp only [go_sem]
 refine hR _ _ (kq5 _ _ ?_); clear hR R; try clear kq5 kz5
 try simp only [go_sem]
 refine W_block ?_
 refine W_weak (Weak.room (t := 5) (es := 1) rfl (by simp)) ?_
 refine W_weak (Weak.keep [0, 1, 5, 6, 7]) ?_
 simp only [go_sem]
 refine W_loopT (α := Nat × Nat × (List (List UInt8))) (fun ⟨i, f, out⟩ => [(5, .isl (out.map txt) (.tok σ.rooms.length out.length 1)), (6, I f), (7, I i)]) (fun ⟨i, f, out⟩ => σ.ext [] [out.length]) (fun ⟨i, f, out⟩ => i ≤ s.length + 1 ∧ out.length ≤ i ∧ (i ≤ s.length → f ≤ i ∧ out ++ splitL b (s.drop f) = splitL b s ∧ b ∉ (s.drop f).take (i - f)) ∧ (i = s.length + 1 → out = splitL b s)) (fun ⟨i, f, out⟩ => s.length + 1 - i) ((0, 0, [])) rfl (by first | rfl | (simp only [go_sem]; done) | (simp only [go_sem]; rfl)) (⟨by omega, Nat.le_refl _, fun _ => ⟨Nat.le_refl _, rfl, by simp⟩, fun h => by omega⟩) ?_
 rintro ⟨i, f, out⟩ ⟨hi, hol, hin, hend⟩
 refine W_seq fun kz6 kq6 => ?_
 refine W_seq fun kz7 kq7 => ?_
 refine W_region [0, 1, 5, 6, 7, 11] fun R hR => ?_
 simp only [go_sem]
 refine hR _ _ (kq7 _ _ ?_); clear hR R; try clear kq7 kz7
 try simp only [go_sem]
 refine W_cond rfl (fun c1 => ?_) (fun c1 => ?_)
 ·
  try simp only [nrm] at c1
  have hi1 : i ≤ s.length := by first | omega | (simp at c1; omega)
  obtain ⟨hfi, hsp, hfree⟩ := hin hi1
  refine W_skip (kq6 _ _ ?_)
  refine W_seq fun kz8 kq8 => ?_
  refine W_block ?_
  refine W_seq fun kz9 kq9 => ?_
  refine W_regionJ [0, 1, 5, 6, 7, 24] [(24, .bool (decide (i = s.length) || decide (s[i]? = some b)))] ?_ fun R hR => ?_
  ·refine kq9 _ _ ?_
   simp only [go_sem]
   refine W_cond rfl (fun c2 => ?_) (fun c2 => ?_)
   ·
    try simp only [nrm] at c2
    have hcut : ∀ c, s[i]? = some c → c = b := fun c hc => by
     simp only [Bool.or_eq_true, decide_eq_true_eq] at c2
     rcases c2 with h | h
     ·rw [h] at hc; simp at hc
     ·rw [hc] at h; injection h
    refine W_seq fun kz10 kq10 => ?_
    refine W_region [0, 1, 5, 7] fun R hR => ?_
    simp only [go_sem]
    try simp (disch := (first | omega | (simp only [go_sem, List.length_append] <;> omega))) only [wrapI, wrapU, appX_exact, appX_tok, strAdd, slT, slTa, slTb]
    try simp only [go_sem]
    try simp (disch := (first | omega | (simp only [go_sem, List.length_append] <;> omega))) only [wrapI, wrapU, appX_exact, appX_tok, strAdd, slT, slTa, slTb]
    try simp only [go_sem]
    refine hR _ _ (kq10 _ _ ?_); clear hR R; try clear kq10 kz10
    try simp only [go_sem]
    refine W_region [0, 1, 5, 6, 7] fun R hR => ?_
    simp only [go_sem]
    try simp (disch := (first | omega | (simp only [go_sem, List.length_append] <;> omega))) only [wrapI, wrapU, strAdd, slT, slTa, slTb]
    refine hR _ _ (kq8 _ _ ?_); clear hR R; try clear kq8 kz8
    try simp only [go_sem]
    refine W_region [0, 1, 5, 6, 7] fun R hR => ?_
    simp only [go_sem]
    try simp (disch := (first | omega | (simp only [go_sem, List.length_append] <;> omega))) only [wrapI, wrapU, strAdd, slT, slTa, slTb]
    refine hR _ _ ?_; clear hR R
    try simp only [go_sem]
    refine ⟨(i + 1, i + 1, out ++ [(s.drop f).take (i - f)]), ?_, by (try simp only []); omega, ?_⟩
    ·first | exact Weak.refl | exact Weak.eq (by first | rfl | (simp only [go_sem]; done) | (simp only [go_sem]; rfl) | (simp [go_sem]; done) | (simp [go_sem]; omega)) (by first | rfl | (simp only [go_sem]; done) | (simp [go_sem]; done))
    ·try dsimp only
     refine ⟨by omega, by simp; omega, fun h1 => ?_, fun h1 => ?_⟩
     ·obtain ⟨c, hx⟩ : ∃ c, s[i]? = some c := ⟨s[i]'(by omega), by simp⟩
      have hcb : c = b := hcut c hx
      have hd := drop_cut hfi hx
      rw [hcb] at hd
      refine ⟨Nat.le_refl _, ?_, by simp⟩
      rw [← hsp, hd, splitL_app _ hfree, List.append_assoc]
      rw [← hd]
      simp
     ·have hil : i = s.length := by omega
      have hd : (s.drop f).take (i - f) = s.drop f := List.take_of_length_le (by simp; omega)
      rw [hd] at hfree ⊢
      rw [← hsp, splitL_one hfree]
   ·
    try simp only [nrm] at c2
    have hnot : ∃ c, s[i]? = some c ∧ c ≠ b := by
     simp only [Bool.or_eq_false_iff, decide_eq_false_iff_not] at c2
     refine ⟨s[i]'(by omega), by simp, fun e => c2.2 ?_⟩
     rw [← e]; simp
    refine W_skip (kq8 _ _ ?_)
    refine W_region [0, 1, 5, 6, 7] fun R hR => ?_
    simp only [go_sem]
    try simp (disch := (first | omega | (simp only [go_sem, List.length_append] <;> omega))) only [wrapI, wrapU, strAdd, slT, slTa, slTb]
    refine hR _ _ ?_; clear hR R
    try simp only [go_sem]
    refine ⟨(i + 1, f, out), ?_, by (try simp only []); omega, ?_⟩
    ·first | exact Weak.refl | exact Weak.eq (by first | rfl | (simp only [go_sem]; done) | (simp only [go_sem]; rfl) | (simp [go_sem]; done) | (simp [go_sem]; omega)) (by first | rfl | (simp only [go_sem]; done) | (simp [go_sem]; done))
    ·try dsimp only
     obtain ⟨c, hx, hcb⟩ := hnot
     exact ⟨by omega, by omega, fun _ => ⟨by omega, hsp, take_free hfree hfi hx hcb⟩, fun h => by have := (List.getElem?_eq_some_iff.1 hx).1; omega⟩
  ·simp only [go_sem]
   refine GWant_split (fun g1 => ?_) (fun g1 => ?_)
   ·try simp only [Bool.not_eq_true', Bool.not_eq_false'] at g1
    have n1 := g1; try simp only [nrm] at n1
    have hil : i < s.length := by simp at g1; omega
    obtain ⟨c, hx⟩ : ∃ c, s[i]? = some c := ⟨s[i], by simp [hil]⟩
    have hix := ixT (k := .i64) hx
    simp only [go_sem, hix, g1]
    refine hR _ ?_
    all_goals try simp only [go_sem, hix]
    all_goals
     first | rfl | (simp [*]; done) | (simp_all; done) | (rw [u8_beq, hx]; simp [show ¬ i = s.length by omega])
   ·try simp only [Bool.not_eq_true', Bool.not_eq_false'] at g1
    have n1 := g1; try simp only [nrm] at n1
    simp only [go_sem, g1]
    refine hR _ ?_
    all_goals try simp only [go_sem]
    all_goals
     first | rfl | (simp [*]; done) | (simp_all; done) | (rw [u8_beq, hx]; simp [show ¬ i = s.length by omega])
 ·
  try simp only [nrm] at c1
  have hie : i = s.length + 1 := by first | omega | (simp at c1; omega)
  have hout := hend hie
  refine W_exit ?_
  simp only [go_sem]
  refine kq4 _ _ ?_
  refine W_seq fun kz11 kq11 => ?_
  refine W_region [4] fun R hR => ?_
  simp only [go_sem]
  refine hR _ _ (kq11 _ _ ?_); clear hR R; try clear kq11 kz11
  try simp only [go_sem]
  refine W_ret ?_
  simp only [go_sem]
  refine ⟨.inr (by trivial), ?_⟩
  refine Fin_same hcl rfl (Wk.ro (by simp only [go_sem]) ?_)
  try simp only [go_sem]
  all_goals
   subst hout; first | rfl | (simp only [go_sem]; done)
set_option maxHeartbeats 2000000 in
theorem rnumber_pc (Y : YEnv) (σ : Sg) (w : List UInt8) (hw : w.length ≤ 2 ^ 40) :
  PC Tryz.prog Y 63 [txt w] σ (.tuple [I (((numE 7 w).getD 0 : Nat) : Int), .bool (numE 7 w).isSome]) (σ) := by
 refine PC_of_W Tryz.func63 rfl (by kernel_rfl) Tryz.ntmps63 (by simp) fun hcl hca => ?_
 refine W_seq fun kz1 kq1 => ?_
 refine W_region [0] fun R hR => ?_
 simp only [go_sem]
 refine hR _ _ (kq1 _ _ ?_); clear hR R; try clear kq1 kz1
 try simp only [go_sem]
 refine W_seq fun kz2 kq2 => ?_
 refine W_seq fun kz3 kq3 => ?_
 refine W_regionJ [0, 23] [(23, .bool (decide (w = [] ∨ 7 < w.length ∨ (w.head? = some 48 ∧ 1 < w.length))))] ?_ fun R hR => ?_
 ·refine kq3 _ _ ?_
  simp only [go_sem]
  refine W_cond rfl (fun c1 => ?_) (fun c1 => ?_)
  ·
   try simp only [nrm] at c1
   have hnone : numE 7 w = none := by unfold numE; exact if_pos (by simpa using c1)
   refine W_seq fun kz4 kq4 => ?_
   refine W_region [2, 3] fun R hR => ?_
   simp only [go_sem]
   refine hR _ _ (kq4 _ _ ?_); clear hR R; try clear kq4 kz4
   try simp only [go_sem]
   refine W_ret ?_
   simp only [go_sem]
   refine ⟨.inr (by trivial), ?_⟩
   first | refine Fin_same hcl rfl (Wk_eq ?_ (by simp only [go_sem])) | refine Fin_self hcl rfl (Wk_eq ?_ (by simp only [go_sem]))
   try simp only [go_sem]
   all_goals
    first | rfl | (rw [hnone]; rfl) | (rw [hsome, ← hinv]; rfl) | simp_all
  ·
   try simp only [nrm] at c1
   have hsome : numE 7 w = numFrom 0 w := by unfold numE; exact if_neg (by simpa using c1)
   have hl7 : w.length ≤ 7 := by simp at c1; omega
   refine W_skip (kq2 _ _ ?_)
   refine W_seq fun kz5 kq5 => ?_
   refine W_region [0, 4] fun R hR => ?_
   simp only [go_sem]
   refine hR _ _ (kq5 _ _ ?_); clear hR R; try clear kq5 kz5
   try simp only [go_sem]
   refine W_seq fun kz6 kq6 => ?_
   refine W_seq fun kz7 kq7 => ?_
   refine W_region [0, 4, 5] fun R hR => ?_
   simp only [go_sem]
   refine hR _ _ (kq7 _ _ ?_); clear hR R; try clear kq7 kz7
   try simp only [go_sem]
   refine W_block ?_
   refine W_loopS (α := Nat × Nat) (fun ⟨i, n⟩ => [(4, I n), (5, I i)]) (fun ⟨i, n⟩ => i ≤ w.length ∧ numFrom n (w.drop i) = numFrom 0 w ∧ n < 10 ^ i) (fun ⟨i, n⟩ => w.length - i) ((0, 0)) rfl (⟨Nat.zero_le _, rfl, by simp⟩) ?_
   rintro ⟨i, n⟩ ⟨hi, hinv, hn⟩
   refine W_seq fun kz8 kq8 => ?_
   refine W_seq fun kz9 kq9 => ?_
   refine W_region [0, 4, 5, 27] fun R hR => ?_
   simp only [go_sem]
   refine hR _ _ (kq9 _ _ ?_); clear hR R; try clear kq9 kz9
   try simp only [go_sem]
   refine W_cond rfl (fun c2 => ?_) (fun c2 => ?_)
   ·
    try simp only [nrm] at c2
    have hi' : i < w.length := by first | assumption | omega
    obtain ⟨c, hx⟩ : ∃ c, w[i]? = some c := ⟨w[i], by simp [hi']⟩
    have hdrop : w.drop i = c :: w.drop (i + 1) := by
     rw [List.drop_eq_getElem_cons hi']; congr 1; exact (List.getElem?_eq_some_iff.1 hx).2
    rw [hdrop, numFrom_cons] at hinv
    have hix := ixT (k := .i64) hx
    have hcb := c.toNat_lt
    refine W_skip (kq8 _ _ ?_)
    refine W_seq fun kz10 kq10 => ?_
    refine W_block ?_
    refine W_seq fun kz11 kq11 => ?_
    refine W_seq fun kz12 kq12 => ?_
    refine W_regionJ [0, 4, 5, 39] [(39, .bool (!decide (48 ≤ c.toNat ∧ c.toNat ≤ 57)))] ?_ fun R hR => ?_
    ·refine kq12 _ _ ?_
     simp only [go_sem, hix]
     refine W_cond rfl (fun c3 => ?_) (fun c3 => ?_)
     ·
      try simp only [nrm] at c3
      have hnd : ¬ (48 ≤ c.toNat ∧ c.toNat ≤ 57) := by simpa using c3
      rw [if_neg hnd] at hinv
      have hnone := hsome.trans hinv.symm
      refine W_seq fun kz13 kq13 => ?_
      refine W_region [2, 3] fun R hR => ?_
      simp only [go_sem, hix]
      refine hR _ _ (kq13 _ _ ?_); clear hR R; try clear kq13 kz13
      try simp only [go_sem, hix]
      refine W_ret ?_
      simp only [go_sem, hix]
      refine ⟨.inr (by trivial), ?_⟩
      first | refine Fin_same hcl rfl (Wk_eq ?_ (by simp only [go_sem])) | refine Fin_self hcl rfl (Wk_eq ?_ (by simp only [go_sem]))
      try simp only [go_sem]
      all_goals
       first | rfl | (rw [hnone]; rfl) | (rw [hsome, ← hinv]; rfl) | simp_all
     ·
      try simp only [nrm] at c3
      have hd : 48 ≤ c.toNat ∧ c.toNat ≤ 57 := by simpa using c3
      rw [if_pos hd] at hinv
      have hp : 10 ^ i ≤ 10 ^ 7 := Nat.pow_le_pow_right (by omega) (by omega)
      have hw1 : IntKind.u8.wrap ((c.toNat : Int) - 48) = ((c.toNat - 48 : Nat) : Int) := by rw [wrap8 (by omega) (by omega)]; omega
      have hw2 : IntKind.i64.wrap ((c.toNat - 48 : Nat) : Int) = ((c.toNat - 48 : Nat) : Int) := wrapI (by omega) (by omega)
      have hw3 : IntKind.i64.wrap (10 * (n : Int)) = ((10 * n : Nat) : Int) := by rw [wrapI (by omega) (by omega)]; omega
      have hw4 : IntKind.i64.wrap (((10 * n : Nat) : Int) + ((c.toNat - 48 : Nat) : Int)) = ((10 * n + (c.toNat - 48) : Nat) : Int) := by rw [wrapI (by omega) (by omega)]; omega
      refine W_skip (kq11 _ _ ?_)
      refine W_region [0, 4, 5] fun R hR => ?_
      simp only [go_sem, hix, hw1, hw2, hw3, hw4]
      try simp (disch := (first | omega | (simp only [go_sem, List.length_append] <;> omega))) only [wrapI, wrapU, strAdd, slT, slTa, slTb]
      refine hR _ _ (kq10 _ _ ?_); clear hR R; try clear kq10 kz10
      try simp only [go_sem, hix, hw1, hw2, hw3, hw4]
      refine W_region [0, 4, 5] fun R hR => ?_
      simp only [go_sem, hix, hw1, hw2, hw3, hw4]
      try simp (disch := (first | omega | (simp only [go_sem, List.length_append] <;> omega))) only [wrapI, wrapU, strAdd, slT, slTa, slTb]
      refine hR _ _ ?_; clear hR R
      try simp only [go_sem, hix, hw1, hw2, hw3, hw4]
      refine ⟨(i + 1, 10 * n + (c.toNat - 48)), ?_, by (try simp only []); omega, ?_⟩
      ·first | exact Weak.refl | exact Weak.eq (by first | rfl | (simp only [go_sem]; done) | (simp only [go_sem]; rfl) | (simp [go_sem]; done) | (simp [go_sem]; omega)) (by first | rfl | (simp only [go_sem]; done) | (simp [go_sem]; done))
      ·try dsimp only
       exact ⟨hi', hinv, by rw [Nat.pow_succ]; omega⟩
    ·simp only [go_sem, hix]
     refine GWant_split (fun g1 => ?_) (fun g1 => ?_)
     ·try simp only [Bool.not_eq_true', Bool.not_eq_false'] at g1
      have n1 := g1; try simp only [nrm] at n1
      simp only [go_sem, hix, g1]
      refine hR _ ?_
      all_goals try simp only [go_sem, hix]
      all_goals
       first | rfl | (simp [*]; done) | (simp only [List.cons.injEq, Prod.mk.injEq, PV.bool.injEq, true_and, and_true]; rw [Bool.eq_iff_iff]; simp only [Bool.not_eq_true', decide_eq_false_iff_not, decide_eq_true_eq, Bool.or_eq_true, Bool.and_eq_true]; first | omega | (simp_all; done) | (simp_all; omega))
     ·try simp only [Bool.not_eq_true', Bool.not_eq_false'] at g1
      have n1 := g1; try simp only [nrm] at n1
      simp only [go_sem, hix, g1]
      refine hR _ ?_
      all_goals try simp only [go_sem, hix]
      all_goals
       first | rfl | (simp [*]; done) | (simp only [List.cons.injEq, Prod.mk.injEq, PV.bool.injEq, true_and, and_true]; rw [Bool.eq_iff_iff]; simp only [Bool.not_eq_true', decide_eq_false_iff_not, decide_eq_true_eq, Bool.or_eq_true, Bool.and_eq_true]; first | omega | (simp_all; done) | (simp_all; omega))
   ·
    try simp only [nrm] at c2
    have hdrop : w.drop i = [] := List.drop_eq_nil_of_le (by omega)
    rw [hdrop] at hinv
    simp only [numFrom] at hinv
    refine W_exit ?_
    simp only [go_sem]
    refine kq6 _ _ ?_
    refine W_seq fun kz14 kq14 => ?_
    refine W_region [2, 3] fun R hR => ?_
    simp only [go_sem]
    refine hR _ _ (kq14 _ _ ?_); clear hR R; try clear kq14 kz14
    try simp only [go_sem]
    refine W_ret ?_
    simp only [go_sem]
    refine ⟨.inr (by trivial), ?_⟩
    first | refine Fin_same hcl rfl (Wk_eq ?_ (by simp only [go_sem])) | refine Fin_self hcl rfl (Wk_eq ?_ (by simp only [go_sem]))
    try simp only [go_sem]
    all_goals
     first | rfl | (rw [hnone]; rfl) | (rw [hsome, ← hinv]; rfl) | simp_all
 ·simp only [go_sem]
  refine GWant_split (fun g2 => ?_) (fun g2 => ?_)
  ·try simp only [Bool.not_eq_true', Bool.not_eq_false'] at g2
   have n2 := g2; try simp only [nrm] at n2
   simp only [go_sem, g2]
   refine GWant_split (fun g3 => ?_) (fun g3 => ?_)
   ·try simp only [Bool.not_eq_true', Bool.not_eq_false'] at g3
    have n3 := g3; try simp only [nrm] at n3
    have hwl : 0 < w.length := by first | omega | (simp at g2; omega) | (simp at n2; omega) | (rcases w with _ | ⟨c, r⟩ <;> simp_all; done)
    obtain ⟨c0, hc0⟩ : ∃ c, w[0]? = some c := ⟨w[0], by simp [hwl]⟩
    have hh : w.head? = some c0 := by rw [← hc0]; cases w <;> rfl
    have hix := ixT0 (k := .i64) hc0
    simp only [go_sem, hix, g2, g3]
    refine GWant_split (fun g4 => ?_) (fun g4 => ?_)
    ·try simp only [Bool.not_eq_true', Bool.not_eq_false'] at g4
     have n4 := g4; try simp only [nrm] at n4
     simp only [go_sem, hix, g2, g3, g4]
     refine hR _ ?_
     all_goals try simp only [go_sem, hix]
     all_goals
      first | rfl | (simp [*]; done) | (simp_all; done) | (simp only [List.cons.injEq, Prod.mk.injEq, PV.bool.injEq, true_and, and_true]; rw [Bool.eq_iff_iff]; rcases w with _ | ⟨c1, r⟩ <;> simp_all [u8_48] <;> omega) | (rcases w with _ | ⟨c1, r⟩ <;> simp_all [u8_48] <;> omega)
    ·try simp only [Bool.not_eq_true', Bool.not_eq_false'] at g4
     have n4 := g4; try simp only [nrm] at n4
     simp only [go_sem, hix, g2, g3, g4]
     refine hR _ ?_
     all_goals try simp only [go_sem, hix]
     all_goals
      first | rfl | (simp [*]; done) | (simp_all; done) | (simp only [List.cons.injEq, Prod.mk.injEq, PV.bool.injEq, true_and, and_true]; rw [Bool.eq_iff_iff]; rcases w with _ | ⟨c1, r⟩ <;> simp_all [u8_48] <;> omega) | (rcases w with _ | ⟨c1, r⟩ <;> simp_all [u8_48] <;> omega)
   ·try simp only [Bool.not_eq_true', Bool.not_eq_false'] at g3
    have n3 := g3; try simp only [nrm] at n3
    simp only [go_sem, g2, g3]
    refine hR _ ?_
    all_goals try simp only [go_sem]
    all_goals
     first | rfl | (simp [*]; done) | (simp_all; done) | (simp only [List.cons.injEq, Prod.mk.injEq, PV.bool.injEq, true_and, and_true]; rw [Bool.eq_iff_iff]; rcases w with _ | ⟨c1, r⟩ <;> simp_all [u8_48] <;> omega) | (rcases w with _ | ⟨c1, r⟩ <;> simp_all [u8_48] <;> omega)
  ·try simp only [Bool.not_eq_true', Bool.not_eq_false'] at g2
   have n2 := g2; try simp only [nrm] at n2
   simp only [go_sem, g2]
   refine hR _ ?_
   all_goals try simp only [go_sem]
   all_goals
    first | rfl | (simp [*]; done) | (simp_all; done) | (simp only [List.cons.injEq, Prod.mk.injEq, PV.bool.injEq, true_and, and_true]; rw [Bool.eq_iff_iff]; rcases w with _ | ⟨c1, r⟩ <;> simp_all [u8_48] <;> omega) | (rcases w with _ | ⟨c1, r⟩ <;> simp_all [u8_48] <;> omega)
end Go.Proofs.YteklodljdndcoaaGreatDoor
namespace Go.Proofs.YteklodljdndcoaaGreatDoor
open Go Go.RowKit
theorem keyInt : KeyOK Tryz.prog 3 I := fun a b => by
  simp only [I, keyEq, if_true]
  congr 1
theorem lkI {m : List (Int × Int)} {k : Int} {ok : Bool} : lkM Tryz.prog 3 (I 0) (some (some (.mark :: mapE I I m))) (.int .i64 k) ok = some (packPV ok (I ((aget k m).getD 0)) (aget k m).isSome) := by
  have := lkM_map (z := I 0) keyInt I m k ok
  simp only [I] at this ⊢
  rw [this]
  cases aget k m <;> rfl
theorem upI {m : List (Int × Int)} {k v : Int} : upM Tryz.prog 3 (some (some (.mark :: mapE I I m))) (.int .i64 k) (.int .i64 v) = some (.mark :: mapE I I (aput k v m)) := upM_map keyInt I m k v
theorem upI0 {k v : Int} : upM Tryz.prog 3 (some (some [.mark])) (.int .i64 k) (.int .i64 v) = some (.mark :: mapE I I [(k, v)]) := upM_map keyInt I [] k v
theorem packT {v : PV} {b : Bool} : packPV true v b = .tuple [v, .bool b] := rfl
theorem packF {v : PV} {b : Bool} : packPV false v b = v := rfl
theorem evN_tmp {E : Env} {t : Nat} : evN E (.tmp t) = E.get t := rfl
theorem evN_int {E : Env} {k : IntKind} {n : Int} : evN E (.const (.int k n)) = .int k n := rfl
theorem evN_bool {E : Env} {b : Bool} : evN E (.const (.bool b)) = .bool b := rfl
theorem evN_nil {E : Env} : evN E (.const (.slice none 0 0)) = .nilsl := rfl
theorem sll22 {xs : List Int} {own : Own} {k : IntKind} {n : Int} : slicePV Tryz.prog 22 (.isl (xs.map I) own) (some (.int k n)) none none = if 0 ≤ n then if n.toNat ≤ xs.length then some (.isl ((xs.drop n.toNat).map I) own) else none else none := slLo_of Tryz.underlying22 Tryz.underlying3 cells3 (fun _ => rfl) xs own k n
attribute [go_sem] sll22 lkI upI upI0 packT packF evN_tmp evN_int evN_bool evN_nil lkX_ext lkX_ext0 upX_ext upX_ext0 lkX_svx Cl_map Cl_nilmap Cl_mark Cl_gsl Cl_gnil CleanAll_mapI setI setB
end Go.Proofs.YteklodljdndcoaaGreatDoor
namespace Go.Proofs.YteklodljdndcoaaGreatDoor
open Go Go.RowKit
set_option maxRecDepth 100000
theorem splitL_mem {b : UInt8} : ∀ {s : List UInt8} {p : List UInt8}, p ∈ splitL b s → p.length ≤ s.length := by
  intro s
  induction s with
  | nil => intro p h; simp [splitL] at h; simp [h]
  | cons c r ih =>
    intro p h
    simp only [splitL] at h
    split at h
    · rcases List.mem_cons.1 h with rfl | h
      · simp
      · have := ih h; simp; omega
    · cases hs : splitL b r with
      | nil => exact absurd hs (splitL_ne b r)
      | cons p0 q =>
        rw [hs] at h ih
        rcases List.mem_cons.1 h with rfl | h
        · have := ih (List.mem_cons_self ..); simp; omega
        · have := ih (List.mem_cons_of_mem _ h); simp; omega
theorem splitL_le {b : UInt8} {s : List UInt8} : (splitL b s).length ≤ s.length + 1 := by
  rw [splitL_len]
  have := List.count_le_length (a := b) (l := s)
  omega
def parsePV : Option (List UInt8 × List Int) → PV
  | some p => .tuple [txt p.1, ints p.2, .bool true]
  | none => .tuple [txt [], ints [], .bool false]
theorem parseE_of {k : Nat} {s w : List UInt8} {ws : List (List UInt8)} (h : splitL 32 s = ws) (h0 : ws[0]? = some w) : parseE k s = (numsE k ws.tail).map fun l => (w, l) := by
  unfold parseE
  rw [h]
  cases ws with
  | nil => simp at h0
  | cons a r => simp at h0; subst h0; rfl
theorem tail_drop {α : Type} (l : List α) : l.tail = l.drop 1 := by cases l <;> rfl
theorem rsplit_32 (Y : YEnv) (σ : Sg) (s : List UInt8) (hs : s.length ≤ 2 ^ 40) : PC Tryz.prog Y 40 [txt s, .int .u8 32] σ (.isl ((splitL 32 s).map txt) .ro) σ := rsplit_pc Y σ s 32 hs
theorem rsplit_10 (Y : YEnv) (σ : Sg) (s : List UInt8) (hs : s.length ≤ 2 ^ 40) : PC Tryz.prog Y 40 [txt s, .int .u8 10] σ (.isl ((splitL 10 s).map txt) .ro) σ := rsplit_pc Y σ s 10 hs
/-- The numbers of a band, in a row. -/
def bandNums (b : Band) : List Int := [b.first, b.lo, b.hi, b.stay, b.people] ++ b.path
def bandW : List UInt8 := [98, 97, 110, 100]
def endW : List UInt8 := [101, 110, 100]
def bandRow (b : Band) : List UInt8 := rowT bandW (bandNums b) ++ [10]
def endRow (n : Nat) : List UInt8 := rowT endW [(n : Int)] ++ [10]
def bandsT (l : List Band) : List UInt8 := l.flatMap bandRow
def writeT (l : List Band) : List UInt8 := bandsT l ++ endRow l.length
def writeA (c : City) (l : List Band) : List UInt8 × Int := if chkAll c l ≠ 0 then ([], chkAll c l) else (writeT l, 0)
theorem bandsT_take {l : List Band} {i : Nat} {b : Band} (h : l[i]? = some b) : bandsT (l.take (i + 1)) = bandsT (l.take i) ++ bandRow b := by
  unfold bandsT
  rw [List.take_add_one, h, List.flatMap_append]
  simp
/-- What is known of a band that may be. -/
structure BandK (b : Band) : Prop where
  f : 0 ≤ b.first ∧ b.first < 12
  p : b.path.length ≤ 12
  ps : ∀ n, n ∈ b.path → 0 ≤ n ∧ n < 12
  lo : 0 ≤ b.lo ∧ b.lo ≤ 720
  hi : 0 ≤ b.hi ∧ b.hi ≤ 720
  st : 1 ≤ b.stay ∧ b.stay ≤ 120
  pe : 0 ≤ b.people ∧ b.people ≤ 1000000
theorem chkTown_lens {t : Town} (h : chkTown t = 0) : t.rooms.length ≤ 12 ∧ t.streets.length ≤ 12 := by
  unfold chkTown at h
  repeat' (split at h <;> try (first | omega | (cases h; done)))
theorem walkSq_in {st : List (Int × Int)} : ∀ (p : List Int) (a : Int) (out : List Int), (walkSq st p a out).2 = 0 → ∀ n, n ∈ p → 0 ≤ n ∧ n < st.length := by
  intro p
  induction p with
  | nil => intro a out _ n h; cases h
  | cons m p ih =>
    intro a out h n hn
    simp only [walkSq] at h
    split at h
    · cases h
    · rename_i hm
      have hm' : 0 ≤ m ∧ m ≤ st.length - 1 := by simpa [inR] using hm
      split at h
      · cases h
      · rename_i s hs
        have hl := (List.getElem?_eq_some_iff.1 hs).1
        split at h
        · rcases List.mem_cons.1 hn with rfl | hn
          · omega
          · exact ih _ _ h n hn
        · split at h
          · rcases List.mem_cons.1 hn with rfl | hn
            · omega
            · exact ih _ _ h n hn
          · cases h
theorem chkBand_k {c : City} {b : Band} (hc : chkCity c = 0) (h : chkBand c b = 0) : BandK b := by
  have ht : chkTown c.town = 0 := by
    unfold chkCity at hc
    split at hc
    · omega
    · rename_i h; simpa using h
  obtain ⟨h1, h2⟩ := chkTown_lens ht
  have hs : (sqs c b).2 = 0 := by
    unfold chkBand at h
    split at h
    · omega
    · rename_i hn; simpa using hn
  have htm : timesOf b = 0 := by
    unfold chkBand at h
    rw [if_neg (by simpa using hs)] at h
    exact h
  unfold sqs at hs
  split at hs
  · cases hs
  · rename_i g1
    have g1' : 0 ≤ b.first ∧ b.first ≤ c.town.rooms.length - 1 := by simpa [inR] using g1
    split at hs
    · cases hs
    · rename_i g2
      have hps := walkSq_in _ _ _ hs
      unfold timesOf at htm
      repeat' (split at htm <;> try (first | omega | (cases htm; done)))
      rename_i k1 k2 k3 k4 k5 k6 k7
      simp only [inR_false, Decidable.not_not] at k1 k2 k5 k6
      exact ⟨⟨g1'.1, by omega⟩, by omega, fun n hn => by have := hps n hn; omega, k1, k2, k5, k6⟩
theorem chkBands_mem {c : City} : ∀ {l : List Band}, chkBands c l = 0 → ∀ b, b ∈ l → chkBand c b = 0 := by
  intro l
  induction l with
  | nil => intro _ b h; cases h
  | cons x l ih =>
    intro h b hb
    simp only [chkBands] at h
    split at h
    · omega
    · rename_i hx
      rcases List.mem_cons.1 hb with rfl | hb
      · simpa using hx
      · exact ih h b hb
theorem chkAll_k {c : City} {l : List Band} (h : chkAll c l = 0) : l.length ≤ 10 ∧ ∀ b, b ∈ l → BandK b := by
  unfold chkAll at h
  split at h
  · omega
  · rename_i hc
    split at h
    · cases h
    · rename_i hl
      exact ⟨by omega, fun b hb => chkBand_k (by simpa using hc) (chkBands_mem h b hb)⟩
theorem BandK.fits {b : Band} (h : BandK b) : Fits (bandNums b) := by
  intro n hn
  have := h.f; have := h.lo; have := h.hi; have := h.st; have := h.pe
  simp only [bandNums, List.cons_append, List.nil_append, List.mem_cons] at hn
  rcases hn with rfl | rfl | rfl | rfl | rfl | hn <;> try omega
  have := h.ps n hn
  omega
theorem rowT_len : ∀ (l : List Int) (w : List UInt8), Fits l → (rowT w l).length ≤ w.length + 22 * l.length := by
  intro l
  induction l with
  | nil => intro w _; simp [rowT]
  | cons n l ih =>
    intro w h
    rw [rowT_cons]
    have h1 := ih (w ++ 32 :: Lib.itoa n) fun m hm => h m (List.mem_cons_of_mem _ hm)
    have h2 := h n (List.mem_cons_self ..)
    have h3 := Lib.itoa_length_le n h2.1 h2.2
    simp only [List.length_append, List.length_cons] at h1 ⊢
    omega
theorem bandRow_len2 {b : Band} (h : BandK b) : (rowT bandW (bandNums b)).length ≤ 399 := by
  have h1 := rowT_len (bandNums b) bandW h.fits
  have h2 := h.p
  have e1 : (bandNums b).length = 5 + b.path.length := by simp [bandNums]; omega
  have e2 : bandW.length = 4 := rfl
  omega
theorem bandRow_len {b : Band} (h : BandK b) : (bandRow b).length ≤ 400 := by
  have := bandRow_len2 h
  simp only [bandRow, List.length_append, List.length_cons, List.length_nil]
  omega
theorem endRow_len {n : Nat} (h : n ≤ 2 ^ 60) : (rowT endW [(n : Int)]).length ≤ 25 := by
  have := rowT_len [(n : Int)] endW (fun m hm => by simp at hm; subst hm; omega)
  have e2 : endW.length = 3 := rfl
  simp only [List.length_cons, List.length_nil] at this
  omega
theorem bandsT_len : ∀ {l : List Band}, (∀ b, b ∈ l → BandK b) → (bandsT l).length ≤ 400 * l.length := by
  intro l
  induction l with
  | nil => intro _; simp [bandsT]
  | cons b l ih =>
    intro h
    have h1 := ih fun x hx => h x (List.mem_cons_of_mem _ hx)
    have h2 := bandRow_len (h b (List.mem_cons_self ..))
    simp only [bandsT, List.flatMap_cons, List.length_append, List.length_cons] at h1 ⊢
    omega
set_option maxHeartbeats 2000000 in
theorem rparse_pc (Y : YEnv) (σ : Sg) (s : List UInt8) (hs : s.length ≤ 2 ^ 40) :
  PC Tryz.prog Y 41 [txt s] σ (parsePV (parseE 7 s)) (σ) := by
 refine PC_of_W Tryz.func41 rfl (by kernel_rfl) Tryz.ntmps41 (by simp) fun hcl hca => ?_
 obtain ⟨ws, hws⟩ : ∃ z, splitL 32 s = z := ⟨_, rfl⟩
 have hwm : ∀ p, p ∈ ws → p.length ≤ 2 ^ 40 := fun p hp => by rw [← hws] at hp; have := splitL_mem hp; omega
 have hwn : ws ≠ [] := by rw [← hws]; exact splitL_ne 32 s
 have hwl : 0 < ws.length := List.length_pos_iff.2 hwn
 have hw40 : ws.length ≤ 2 ^ 40 + 1 := by rw [← hws]; have := splitL_le (b := 32) (s := s); omega
 obtain ⟨w0, hx0⟩ : ∃ w, ws[0]? = some w := ⟨ws[0], by simp [hwl]⟩
 have hpe := parseE_of (k := 7) hws hx0
 refine W_seq fun kz1 kq1 => ?_
 refine W_region [0] fun R hR => ?_
 simp only [go_sem]
 refine hR _ _ (kq1 _ _ ?_); clear hR R; try clear kq1 kz1
 try simp only [go_sem]
 refine W_seq fun kz2 kq2 => ?_
 refine W_region [5] fun R hR => ?_
 simp only [go_sem]
 refine GCall_of (PC.val (v' := .isl (ws.map txt) .ro) (rsplit_32 Y _ s hs) (by rw [hws])) ?_
 simp only [go_sem]
 refine hR _ _ (kq2 _ _ ?_); clear hR R; try clear kq2 kz2
 try simp only [go_sem]
 refine W_seq fun kz3 kq3 => ?_
 refine W_region [5, 6] fun R hR => ?_
 simp only [go_sem]
 refine hR _ _ (kq3 _ _ ?_); clear hR R; try clear kq3 kz3
 try simp only [go_sem]
 refine W_seq fun kz4 kq4 => ?_
 refine W_seq fun kz5 kq5 => ?_
 refine W_region [5, 6, 7] fun R hR => ?_
 simp only [go_sem]
 refine hR _ _ (kq5 _ _ ?_); clear hR R; try clear kq5 kz5
 try simp only [go_sem]
 refine W_block ?_
 refine W_weak (Weak.room (t := 6) (es := 1) rfl (by simp)) ?_
 refine W_weak (Weak.keep [5, 6, 7]) ?_
 simp only [go_sem]
 refine W_loopT (α := Nat × (List Int)) (fun ⟨i, l⟩ => [(6, .isl (l.map I) (.tok σ.rooms.length l.length 1)), (7, I i)]) (fun ⟨i, l⟩ => σ.ext [] [l.length]) (fun ⟨i, l⟩ => 1 ≤ i ∧ i ≤ ws.length ∧ l.length ≤ i ∧ numsE 7 ws.tail = (numsE 7 (ws.drop i)).map fun r => l ++ r) (fun ⟨i, l⟩ => ws.length - i) ((1, [])) rfl (by first | rfl | (simp only [go_sem]; done) | (simp only [go_sem]; rfl)) (⟨Nat.le_refl _, hwl, Nat.zero_le _, by rw [tail_drop]; simp⟩) ?_
 rintro ⟨i, l⟩ ⟨hi0, hi, hll, hinv⟩
 refine W_seq fun kz6 kq6 => ?_
 refine W_seq fun kz7 kq7 => ?_
 refine W_region [5, 6, 7, 15] fun R hR => ?_
 simp only [go_sem]
 refine hR _ _ (kq7 _ _ ?_); clear hR R; try clear kq7 kz7
 try simp only [go_sem]
 refine W_cond rfl (fun c1 => ?_) (fun c1 => ?_)
 ·
  try simp only [nrm] at c1
  have hi' : i < ws.length := by first | assumption | omega
  obtain ⟨w, hx⟩ : ∃ w, ws[i]? = some w := ⟨ws[i], by simp [hi']⟩
  have hdrop : ws.drop i = w :: ws.drop (i + 1) := by
   rw [List.drop_eq_getElem_cons hi']; congr 1; exact (List.getElem?_eq_some_iff.1 hx).2
  rw [hdrop] at hinv
  simp only [numsE] at hinv
  obtain ⟨q, hq⟩ : ∃ z, numE 7 w = z := ⟨_, rfl⟩
  refine W_skip (kq6 _ _ ?_)
  refine W_seq fun kz8 kq8 => ?_
  refine W_block ?_
  refine W_seq fun kz9 kq9 => ?_
  refine W_region [5, 6, 7, 8, 9] fun R hR => ?_
  simp only [go_sem, hx]
  refine GCall_of (PC.val (v' := .tuple [I ((q.getD 0 : Nat) : Int), .bool q.isSome]) (rnumber_pc Y _ w (hwm w (List.mem_of_getElem? hx))) (by rw [hq])) ?_
  simp only [go_sem, hx]
  refine hR _ _ (kq9 _ _ ?_); clear hR R; try clear kq9 kz9
  try simp only [go_sem, hx]
  refine W_seq fun kz10 kq10 => ?_
  refine W_seq fun kz11 kq11 => ?_
  refine W_region [5, 6, 7, 8, 27] fun R hR => ?_
  simp only [go_sem, hx]
  refine hR _ _ (kq11 _ _ ?_); clear hR R; try clear kq11 kz11
  try simp only [go_sem, hx]
  refine W_cond rfl (fun c2 => ?_) (fun c2 => ?_)
  ·
   try simp only [nrm] at c2
   have hqn : q = none := by cases q with
    | none => rfl
    | some n => simp at c2
   subst hqn
   rw [hq] at hinv
   simp only [Option.map_none] at hinv
   refine W_seq fun kz12 kq12 => ?_
   refine W_region [2, 3, 4] fun R hR => ?_
   simp only [go_sem, hx]
   refine hR _ _ (kq12 _ _ ?_); clear hR R; try clear kq12 kz12
   try simp only [go_sem, hx]
   rw [hpe, hinv]
   simp only [Option.map_none, parsePV]
   refine W_ret ?_
   simp only [go_sem, hx]
   refine ⟨.inr (by trivial), ?_⟩
   refine Fin_same hcl rfl (Wk.ro (by simp only [go_sem]) ?_)
   try simp only [go_sem]
   all_goals
    first | done | rfl
  ·
   try simp only [nrm] at c2
   obtain ⟨n, rfl⟩ : ∃ n, q = some n := by cases q with
    | none => simp at c2
    | some n => exact ⟨n, rfl⟩
   rw [hq] at hinv
   simp only at hinv
   refine W_skip (kq10 _ _ ?_)
   refine W_region [5, 6, 7] fun R hR => ?_
   simp only [go_sem, hx]
   try simp (disch := (first | omega | (simp only [go_sem, List.length_append] <;> omega))) only [wrapI, wrapU, appX_exact, appX_tok, strAdd, slT, slTa, slTb]
   try simp only [go_sem, hx]
   refine hR _ _ (kq8 _ _ ?_); clear hR R; try clear kq8 kz8
   try simp only [go_sem, hx]
   refine W_region [5, 6, 7] fun R hR => ?_
   simp only [go_sem, hx]
   try simp (disch := (first | omega | (simp only [go_sem, List.length_append] <;> omega))) only [wrapI, wrapU, strAdd, slT, slTa, slTb]
   refine hR _ _ ?_; clear hR R
   try simp only [go_sem, hx]
   refine ⟨(i + 1, l ++ [(n : Int)]), ?_, by (try simp only []); omega, ?_⟩
   ·first | exact Weak.refl | exact Weak.eq (by first | rfl | (simp only [go_sem]; done) | (simp only [go_sem]; rfl) | (simp [go_sem]; done) | (simp [go_sem]; omega)) (by first | rfl | (simp only [go_sem]; done) | (simp [go_sem]; done))
   ·try dsimp only
    exact ⟨by omega, hi', by simp; omega, by rw [hinv]; cases numsE 7 (ws.drop (i + 1)) <;> simp⟩
 ·
  try simp only [nrm] at c1
  have hdrop : ws.drop i = [] := List.drop_eq_nil_of_le (by omega)
  rw [hdrop] at hinv
  simp only [numsE, Option.map_some, List.append_nil] at hinv
  rw [hinv] at hpe
  refine W_exit ?_
  simp only [go_sem, hx0]
  refine kq4 _ _ ?_
  refine W_seq fun kz13 kq13 => ?_
  refine W_region [2, 3, 4] fun R hR => ?_
  simp only [go_sem, hx0, Int.toNat_zero, Int.le_refl]
  refine hR _ _ (kq13 _ _ ?_); clear hR R; try clear kq13 kz13
  try simp only [go_sem, hx0]
  rw [hpe]
  simp only [Option.map_some, parsePV]
  refine W_ret ?_
  simp only [go_sem, hx0]
  refine ⟨.inr (by trivial), ?_⟩
  refine Fin_same hcl rfl (Wk.ro (by simp only [go_sem]) ?_)
  try simp only [go_sem]
  all_goals
   first | done | rfl
set_option maxHeartbeats 2000000 in
theorem rWrite_pc (Y : YEnv) (σ : Sg) (ct : City) (l : List Band) (hc : ct.Ok) (hl : BandsOk l) :
  PC Tryz.prog Y 11 [ctPV ct, bands l] σ (.tuple [txt (writeA ct l).1, I (writeA ct l).2]) (σ) := by
 refine PC_of_W Tryz.func11 rfl (by kernel_rfl) Tryz.ntmps11 (by simp) fun hcl hca => ?_
 have hl1 := hl.1
 have hl2 := hl.2
 refine W_seq fun kz1 kq1 => ?_
 refine W_region [1, 2] fun R hR => ?_
 simp only [go_sem]
 refine hR _ _ (kq1 _ _ ?_); clear hR R; try clear kq1 kz1
 try simp only [go_sem]
 refine W_seq fun kz2 kq2 => ?_
 refine W_seq fun kz3 kq3 => ?_
 refine W_region [1, 6] fun R hR => ?_
 simp only [go_sem]
 refine GCall_of (rcheckBands_pc Y _ ct l hc hl) ?_
 simp only [go_sem]
 refine hR _ _ (kq3 _ _ ?_); clear hR R; try clear kq3 kz3
 try simp only [go_sem]
 refine W_seq fun kz4 kq4 => ?_
 refine W_region [1, 6, 14] fun R hR => ?_
 simp only [go_sem]
 refine hR _ _ (kq4 _ _ ?_); clear hR R; try clear kq4 kz4
 try simp only [go_sem]
 refine W_cond rfl (fun c1 => ?_) (fun c1 => ?_)
 ·
  try simp only [nrm] at c1
  have hwr : writeA ct l = ([], chkAll ct l) := by unfold writeA; rw [if_pos (by simpa using c1)]
  refine W_seq fun kz5 kq5 => ?_
  refine W_region [4, 5] fun R hR => ?_
  simp only [go_sem]
  refine hR _ _ (kq5 _ _ ?_); clear hR R; try clear kq5 kz5
  try simp only [go_sem]
  refine W_ret ?_
  simp only [go_sem]
  refine ⟨.inr (by trivial), ?_⟩
  first | refine Fin_same hcl rfl (Wk_eq ?_ (by simp only [go_sem])) | refine Fin_self hcl rfl (Wk_eq ?_ (by simp only [go_sem]))
  try simp only [go_sem]
  all_goals
   rw [hwr]
 ·
  try simp only [nrm] at c1
  have hck : chkAll ct l = 0 := by simpa using c1
  have hwr : writeA ct l = (writeT l, 0) := by unfold writeA; rw [if_neg (by simpa using hck)]
  obtain ⟨hl10, hbs⟩ := chkAll_k hck
  have hbl := bandsT_len hbs
  have hel := endRow_len (n := l.length) (by omega)
  refine W_skip (kq2 _ _ ?_)
  refine W_seq fun kz6 kq6 => ?_
  refine W_region [1, 7] fun R hR => ?_
  simp only [go_sem]
  refine hR _ _ (kq6 _ _ ?_); clear hR R; try clear kq6 kz6
  try simp only [go_sem]
  refine W_seq fun kz7 kq7 => ?_
  refine W_seq fun kz8 kq8 => ?_
  refine W_region [1, 7, 8] fun R hR => ?_
  simp only [go_sem]
  refine hR _ _ (kq8 _ _ ?_); clear hR R; try clear kq8 kz8
  try simp only [go_sem]
  refine W_block ?_
  refine W_loopS (α := Nat) (fun (i : Nat) => [(7, txt (bandsT (l.take i))), (8, I i)]) (fun (i : Nat) => i ≤ l.length) (fun (i : Nat) => l.length - i) (0) rfl (Nat.zero_le _) ?_
  rintro i hi
  have hbt : (bandsT (l.take i)).length ≤ 400 * 10 := by
   have := bandsT_len (l := l.take i) (fun b hb => hbs b (List.mem_of_mem_take hb))
   rw [List.length_take] at this
   omega
  refine W_seq fun kz9 kq9 => ?_
  refine W_seq fun kz10 kq10 => ?_
  refine W_region [1, 7, 8, 19] fun R hR => ?_
  simp only [go_sem]
  refine hR _ _ (kq10 _ _ ?_); clear hR R; try clear kq10 kz10
  try simp only [go_sem]
  refine W_cond rfl (fun c2 => ?_) (fun c2 => ?_)
  ·
   try simp only [nrm] at c2
   have hi' : i < l.length := by first | assumption | omega
   obtain ⟨b, hx⟩ : ∃ b, l[i]? = some b := ⟨l[i], by simp [hi']⟩
   have hdrop : l.drop i = b :: l.drop (i + 1) := by
    rw [List.drop_eq_getElem_cons hi']; congr 1; exact (List.getElem?_eq_some_iff.1 hx).2
   have hbk := hbs b (List.mem_of_getElem? hx)
   have hrl := bandRow_len2 hbk
   have hbp := hbk.p
   refine W_skip (kq9 _ _ ?_)
   refine W_seq fun kz11 kq11 => ?_
   refine W_block ?_
   refine W_seq fun kz12 kq12 => ?_
   refine W_region [1, 7, 8, 9] fun R hR => ?_
   simp only [go_sem, hx]
   refine hR _ _ (kq12 _ _ ?_); clear hR R; try clear kq12 kz12
   try simp only [go_sem, hx]
   refine W_region [1, 7, 8] fun R hR => ?_
   simp only [go_sem, hx]
   try simp (disch := (first | omega | (simp only [go_sem, List.length_append] <;> omega))) only [wrapI, wrapU, appX_exact, appX_tok, strAdd, slT, slTa, slTb]
   try simp only [go_sem, hx]
   refine GCall_of (rrow_pc Y _ bandW (bandNums b) _ (by decide) (by have := hbk.p; simp [bandNums]; omega) hbk.fits) ?_
   simp only [go_sem, hx]
   try simp (disch := (first | omega | (simp only [go_sem, List.length_append] <;> omega))) only [wrapI, wrapU, appX_exact, appX_tok, strAdd, slT, slTa, slTb]
   try simp only [go_sem, hx]
   refine hR _ _ (kq11 _ _ ?_); clear hR R; try clear kq11 kz11
   try simp only [go_sem, hx]
   refine W_region [1, 7, 8] fun R hR => ?_
   simp only [go_sem, hx]
   try simp (disch := (first | omega | (simp only [go_sem, List.length_append] <;> omega))) only [wrapI, wrapU, strAdd, slT, slTa, slTb]
   refine hR _ _ ?_; clear hR R
   try simp only [go_sem, hx]
   refine ⟨i + 1, ?_, by (try simp only []); omega, ?_⟩
   ·refine Weak.trans (Weak.cutX 1 0 (by omega) (by omega) hcl (by simp only [go_sem] <;> omega) (by simp only [go_sem] <;> omega)) ?_
    simp only [go_sem]
    exact Weak.eq (by rw [bandsT_take hx]; rfl) rfl
   ·try dsimp only
    omega
  ·
   try simp only [nrm] at c2
   have hdrop : l.drop i = [] := List.drop_eq_nil_of_le (by omega)
   have hie : i = l.length := by omega
   subst hie
   rw [List.take_length] at hbt ⊢
   refine W_exit ?_
   simp only [go_sem]
   refine kq7 _ _ ?_
   refine W_seq fun kz13 kq13 => ?_
   refine W_region [4, 5] fun R hR => ?_
   simp only [go_sem]
   refine GCall_of (rrow_pc Y _ endW [(l.length : Int)] _ (by decide) (by simp) (fun n hn => by simp at hn; subst hn; omega)) ?_
   simp only [go_sem]
   try simp (disch := (first | omega | (simp only [go_sem, List.length_append] <;> omega))) only [wrapI, wrapU, appX_exact, appX_tok, strAdd, slT, slTa, slTb]
   try simp only [go_sem]
   refine hR _ _ (kq13 _ _ ?_); clear hR R; try clear kq13 kz13
   try simp only [go_sem]
   refine W_ret ?_
   simp only [go_sem]
   refine ⟨.inr (by trivial), ?_⟩
   first | refine Fin_same hcl rfl (Wk_eq ?_ (by simp only [go_sem])) | refine Fin_self hcl rfl (Wk_eq ?_ (by simp only [go_sem]))
   try simp only [go_sem]
   all_goals
    rw [hwr]; rfl
end Go.Proofs.YteklodljdndcoaaGreatDoor
namespace Go.Proofs.YteklodljdndcoaaGreatDoor
open Go Go.RowKit
set_option maxRecDepth 100000
theorem strPV_app (a b : ByteArray) : strPV (a ++ b) = strPV a ++ strPV b := by simp [strPV]
theorem strPV_ok (s : ByteArray) : okC 1 (strPV s) := by
  unfold okC
  rw [List.all_eq_true]
  intro q hq
  obtain ⟨x, _, rfl⟩ := List.mem_map.1 hq
  rfl
theorem appB (σ : Sg) {r : Nat} (B s : ByteArray) (hr : σ.rooms[r]? = some B.size) (hl : B.size + s.size ≤ 2 ^ 46) :
    appendAny Tryz.prog σ 76 9 (.bbuf (strPV B) r 5) (.str s) = some (.bbuf (strPV (B ++ s)) r 5, σ.setRoom r (B.size + s.size)) := by
  rw [appendAny_bbuf]
  unfold appendB bytesArg
  simp only [Tryz.underlying76, Tryz.underlying9]
  rw [if_pos ⟨trivial, cells5⟩, app76, strPV_len, appX_tok (strPV_ok s) hr (by rw [strPV_len, strPV_len]; omega)]
  simp only [Option.map_some, strPV_app, strPV_len]
theorem String_pc (Y : YEnv) (σ : Sg) {id r : Nat} (B : ByteArray) (hst : σ.store[id]? = some (some [.bself id 78, .bbuf (strPV B) r 5])) (hr : σ.rooms[r]? = some B.size) (h0 : 0 < B.size) (hl : B.size ≤ 2 ^ 46) :
    PC Tryz.prog Y 32 [.ptr id 0] σ (.str B) (σ.setRoom r (B.size + 1)) := by
  refine PC_of_calls (by kernel_rfl) fun Ψ vals w hs ha => ?_
  obtain ⟨x, rfl, hx⟩ := one_arg ha
  obtain ⟨b, hβ, hz, rfl⟩ := hx.ptr_inv
  obtain ⟨y, v, a1, hb, hy, hv⟩ := bld_at hs hst hβ
  have hBl : B.data.toList.length = B.size := by simp
  have hget : ∀ (j : Nat) (x : UInt8), B.data.toList[j]? = some x → (strPV B)[j]? = some (.int .u8 x.toNat) := fun j x h => by
    unfold strPV; rw [List.getElem?_map, h]; rfl
  have hpl := strPV_len B
  generalize hL : strPV B = L at *
  cases hv with
  | bbuf _ _ _ _ h ht =>
  cases h with
  | islnil _ _ _ => simp at hpl; omega
  | isl es _ _ g o cap vals hes k1 k2 hc ho =>
  obtain ⟨hes1, hh⟩ := ho
  subst hes1
  obtain ⟨rfl, hty⟩ := ht g o _ cap rfl (by omega)
  obtain ⟨_, cur, f, hcur, hcs⟩ := hs.szok _ _ hty
  rw [Nat.zero_add, Nat.zero_add, Nat.mul_one, Nat.mul_one, hpl] at hh
  have hat : ∀ (j : Nat) (x : UInt8), B.data.toList[j]? = some x → Ψ.imm g j = some (.int .u8 x.toNat) := fun j x hj => by
    have e1 := k1 j _ 0 (.int .u8 x.toNat) (hget j x hj) rfl
    have e2 := k2 j _ 0 (.int .u8 x.toNat) (hget j x hj) rfl
    rw [e2.int_inv] at e1
    rw [← e1]
    congr 1
    omega
  have hbb : w.heap[b]? = some (.cells #[y, .slice (some ⟨g, 0, none⟩) B.data.toList.length cap] 78 (0, 0)) := by rw [hb, hBl, hpl]
  refine (bldString b g y cap B.data.toList w (fun e => by rw [e] at hBl; simp at hBl; omega) hbb hcur (by rw [hBl]; omega) (by rw [hBl]; omega) (by rw [hBl]; omega) fun j x hj => hs.imm _ _ _ (hat j x hj)).mono ?_
  rintro e2 w2 ⟨rfl, rfl⟩
  rw [hBl]
  obtain ⟨Ψ', le, hs', hbel⟩ := hs.stringed hr hh hty (fun o ho => by
    have hlt : o < B.data.toList.length := by rw [hBl]; exact ho
    rw [hat o _ (List.getElem?_eq_getElem hlt)]
    simp) h0
  have e : (⟨B.data.toList.toArray⟩ : ByteArray) = B := by simp
  exact ⟨_, Ψ', rfl, le, hs', by rw [e]; exact .str B, hbel⟩
set_option maxHeartbeats 2000000 in
theorem WriteString_pc (Y : YEnv) (σ : Sg) {id r : Nat} (B s : ByteArray) (hst : σ.store[id]? = some (some [.bself id 78, .bbuf (strPV B) r 5])) (hr : σ.rooms[r]? = some B.size) (hl : B.size + s.size ≤ 2 ^ 46) :
  PC Tryz.prog Y 30 [.ptr id 0, .str s] σ (.tuple [I s.size, .niliface]) ((σ.setRoom r (B.size + s.size)).setVar id [.bself id 78, .bbuf (strPV (B ++ s)) r 5]) := by
 refine PC_of_W Tryz.func30 rfl (by kernel_rfl) Tryz.ntmps30 (by simp) fun hcl hca => ?_
 have hld : ldS σ id 1 = some (.bbuf (strPV B) r 5) := by simp [ldS, hst]
 have happ := appB σ B s hr hl
 have hsto : stX 1 (σ.setRoom r (B.size + s.size)) id 1 (.bbuf (strPV (B ++ s)) r 5) = some ((σ.setRoom r (B.size + s.size)).setVar id [.bself id 78, .bbuf (strPV (B ++ s)) r 5]) := by
  have : (σ.setRoom r (B.size + s.size)).store[id]? = some (some [.bself id 78, .bbuf (strPV B) r 5]) := hst
  unfold stX
  rw [this]
  rfl
 refine W_seq fun kz1 kq1 => ?_
 refine W_region [0, 1] fun R hR => ?_
 simp only [go_sem, hld, happ, hsto, Nat.zero_add]
 refine hR _ _ (kq1 _ _ ?_); clear hR R; try clear kq1 kz1
 try simp only [go_sem, hld, happ, hsto, Nat.zero_add]
 refine W_seq fun kz2 kq2 => ?_
 refine W_region [0, 1] fun R hR => ?_
 simp only [go_sem, hld, happ, hsto, Nat.zero_add]
 refine GCall_of (copyCheck_pc Y _ hst) ?_
 simp only [go_sem, hld, happ, hsto, Nat.zero_add]
 refine hR _ _ (kq2 _ _ ?_); clear hR R; try clear kq2 kz2
 try simp only [go_sem, hld, happ, hsto, Nat.zero_add]
 refine W_seq fun kz3 kq3 => ?_
 refine W_region [1] fun R hR => ?_
 simp only [go_sem, hld, happ, hsto, Nat.zero_add]
 try simp (disch := first | omega | (simp only [go_sem] <;> omega)) only [wrapI, wrapU, appX_exact, appX_tok]
 try simp only [go_sem, hld, happ, hsto, Nat.zero_add]
 refine hR _ _ (kq3 _ _ ?_); clear hR R; try clear kq3 kz3
 try simp only [go_sem, hld, happ, hsto, Nat.zero_add]
 refine W_seq fun kz4 kq4 => ?_
 refine W_region [4, 5] fun R hR => ?_
 simp only [go_sem, hld, happ, hsto, Nat.zero_add]
 refine hR _ _ (kq4 _ _ ?_); clear hR R; try clear kq4 kz4
 try simp only [go_sem, hld, happ, hsto, Nat.zero_add]
 refine W_ret ?_
 simp only [go_sem, hld, happ, hsto, Nat.zero_add]
 refine ⟨.inr (by trivial), ?_⟩
 have hrl := (List.getElem?_eq_some_iff.1 hr).1
 have hcl2 := CleanSg_bld (n := B.size + s.size) (m := strPV s) hcl hst hrl strPV_clean
 rw [← strPV_app] at hcl2
 have e1 : ((σ.setRoom r (B.size + s.size)).setVar id [.bself id 78, .bbuf (strPV (B ++ s)) r 5]).store.length = σ.store.length := by simp [Sg.setVar, Sg.setRoom]
 have e2 : ((σ.setRoom r (B.size + s.size)).setVar id [.bself id 78, .bbuf (strPV (B ++ s)) r 5]).rooms.length = σ.rooms.length := by simp [Sg.setVar, Sg.setRoom]
 refine ⟨_, σ.store.length, σ.rooms.length, rfl, Nat.le_refl _, Nat.le_refl _, Wk_eq ?_ (by simp only [go_sem]), ?_, ?_, rfl⟩
 rotate_left
 ·simp only [Sg.cut, Sg.setVar, Sg.setRoom]
  rw [List.take_of_length_le (l := σ.store.set _ _) (by simp), List.take_of_length_le (l := σ.rooms.set _ _) (by simp), List.take_of_length_le (l := σ.ys) (Nat.le_refl _)]
 ·have := hcl2; unfold CleanSg at this; rw [e1, e2] at this; exact this
 try simp only [go_sem]
 all_goals
  first | rfl | simp
end Go.Proofs.YteklodljdndcoaaGreatDoor
namespace Go.Proofs.YteklodljdndcoaaGreatDoor
open Go Go.RowKit
set_option maxRecDepth 100000
/-- A builder's cells. -/
def bldC (id r : Nat) (b : List UInt8) : List PV := [.bself id 78, .bbuf (strPV ⟨b.toArray⟩) r 5]
theorem app_txt (a b : List UInt8) : (⟨a.toArray⟩ : ByteArray) ++ ⟨b.toArray⟩ = ⟨(a ++ b).toArray⟩ := by
  try (apply ByteArray.ext)
  simp [ByteArray.data_append]
theorem zeroB : zeroPV Tryz.prog 78 = some [.nilptr, .isl [] .exact] := by kernel_rfl
section
variable {σ : Sg} {L : List (Option (List PV))} {rm : List Nat} {ys : List LState} {j k : Nat} {b s : List UInt8}
theorem rooms_at (k : Nat) : (σ.ext L rm ys).rooms[σ.rooms.length + k]? = rm[k]? := by
  show (σ.rooms ++ rm)[σ.rooms.length + k]? = _
  rw [List.getElem?_append_right (by omega)]
  congr 1; omega
theorem WriteT_pc (Y : YEnv) (h : L[j]? = some (some (bldC (σ.store.length + j) (σ.rooms.length + k) b))) (hr : rm[k]? = some b.length) (hl : b.length + s.length ≤ 2 ^ 46) :
    PC Tryz.prog Y 30 [.ptr (σ.store.length + j) 0, txt s] (σ.ext L rm ys) (.tuple [I s.length, .niliface]) (σ.ext (L.set j (some (bldC (σ.store.length + j) (σ.rooms.length + k) (b ++ s)))) (rm.set k (b.length + s.length)) ys) := by
  have h1 := WriteString_pc Y (σ.ext L rm ys) (id := σ.store.length + j) (r := σ.rooms.length + k) ⟨b.toArray⟩ ⟨s.toArray⟩ (by rw [Sg.get_ext]; exact h) (by rw [rooms_at, hr, size_txt]) (by rw [size_txt, size_txt]; exact hl)
  rw [size_txt, size_txt, Sg.setRoom_ext, setVar_ext, app_txt] at h1
  exact h1
theorem StringT_pc (Y : YEnv) (h : L[j]? = some (some (bldC (σ.store.length + j) (σ.rooms.length + k) b))) (hr : rm[k]? = some b.length) (h0 : 0 < b.length) (hl : b.length ≤ 2 ^ 46) :
    PC Tryz.prog Y 32 [.ptr (σ.store.length + j) 0] (σ.ext L rm ys) (txt b) (σ.ext L (rm.set k (b.length + 1)) ys) := by
  have h1 := String_pc Y (σ.ext L rm ys) (id := σ.store.length + j) (r := σ.rooms.length + k) ⟨b.toArray⟩ (by rw [Sg.get_ext]; exact h) (by rw [rooms_at, hr, size_txt]) (by rw [size_txt]; exact h0) (by rw [size_txt]; exact hl)
  rw [size_txt, Sg.setRoom_ext] at h1
  exact h1
end
theorem Cl_bself {a b c id t : Nat} : Clean a b c (.bself id t) = (id < a) := propext ⟨fun h => by cases h; assumption, fun h => .bself _ _ h⟩
theorem Cl_bbufS {a b c r t : Nat} {s : ByteArray} : Clean a b c (.bbuf (strPV s) r t) = (r < b) := propext ⟨fun h => by
    cases h with
    | bbuf _ _ _ hh =>
    cases hh with
    | isl _ _ _ hlt => exact hlt r _ 1 rfl, fun h => .bbuf _ _ _ (.isl _ _ (fun e he => strPV_clean e he) fun r' n es e => by injection e with e _ _; omega)⟩
attribute [go_sem] Cl_bself Cl_bbufS
end Go.Proofs.YteklodljdndcoaaGreatDoor
namespace Go.Proofs.YteklodljdndcoaaGreatDoor
open Go Go.RowKit
set_option maxRecDepth 100000
attribute [go_sem] bldC
set_option maxHeartbeats 4000000 in
theorem Write_pc (Y : YEnv) (σ : Sg) (ct : City) (l : List Band) (hc : ct.Ok) (hl : BandsOk l) :
  PC Tryz.prog Y 10 [ctPV ct, bands l] σ (.tuple [txt (writeA ct l).1, I (writeA ct l).2]) (σ) := by
 refine PC_of_W Tryz.func10 rfl (by kernel_rfl) Tryz.ntmps10 (by simp) fun hcl hca => ?_
 have hl1 := hl.1
 have hl2 := hl.2
 refine W_seq fun kz1 kq1 => ?_
 refine W_region [1, 2] fun R hR => ?_
 simp only [go_sem]
 refine hR _ _ (kq1 _ _ ?_); clear hR R; try clear kq1 kz1
 try simp only [go_sem]
 refine W_seq fun kz2 kq2 => ?_
 refine W_seq fun kz3 kq3 => ?_
 refine W_region [1, 6] fun R hR => ?_
 simp only [go_sem]
 refine GCall_of (checkBands_pc Y _ ct l hc hl) ?_
 simp only [go_sem]
 refine hR _ _ (kq3 _ _ ?_); clear hR R; try clear kq3 kz3
 try simp only [go_sem]
 refine W_seq fun kz4 kq4 => ?_
 refine W_region [1, 6, 16] fun R hR => ?_
 simp only [go_sem]
 refine hR _ _ (kq4 _ _ ?_); clear hR R; try clear kq4 kz4
 try simp only [go_sem]
 refine W_cond rfl (fun c1 => ?_) (fun c1 => ?_)
 ·
  try simp only [nrm] at c1
  have hwr : writeA ct l = ([], chkAll ct l) := by unfold writeA; rw [if_pos (by simpa using c1)]
  refine W_seq fun kz5 kq5 => ?_
  refine W_region [4, 5] fun R hR => ?_
  simp only [go_sem]
  refine hR _ _ (kq5 _ _ ?_); clear hR R; try clear kq5 kz5
  try simp only [go_sem]
  refine W_ret ?_
  simp only [go_sem]
  refine ⟨.inr (by trivial), ?_⟩
  first | refine Fin_same hcl rfl (Wk_eq ?_ (by simp only [go_sem])) | refine Fin_self hcl rfl (Wk_eq ?_ (by simp only [go_sem]))
  try simp only [go_sem]
  all_goals
   rw [hwr]
 ·
  try simp only [nrm] at c1
  have hck : chkAll ct l = 0 := by simpa using c1
  have hwr : writeA ct l = (writeT l, 0) := by unfold writeA; rw [if_neg (by simpa using hck)]
  obtain ⟨hl10, hbs⟩ := chkAll_k hck
  have hbl := bandsT_len hbs
  have hel := endRow_len (n := l.length) (by omega)
  have hil := Lib.itoa_length_le (l.length : Int) (by omega) (by omega)
  refine W_skip (kq2 _ _ ?_)
  refine W_seq fun kz6 kq6 => ?_
  refine W_newB [1, 7] (T := 78) 5 rfl rfl rfl rfl (by decide) zeroB ?_
  refine kq6 _ _ ?_
  try simp only [go_sem]
  refine W_seq fun kz7 kq7 => ?_
  refine W_seq fun kz8 kq8 => ?_
  refine W_region [1, 7, 18, 19, 20] fun R hR => ?_
  simp only [go_sem]
  refine hR _ _ (kq8 _ _ ?_); clear hR R; try clear kq8 kz8
  try simp only [go_sem]
  refine W_block ?_
  refine W_loopT (α := Nat) (fun (i : Nat) => [(20, I i)]) (fun (i : Nat) => σ.ext [some (ctCells ct), some (bldC (σ.store.length + 1) σ.rooms.length (bandsT (l.take i)))] [(bandsT (l.take i)).length]) (fun (i : Nat) => i ≤ l.length) (fun (i : Nat) => l.length - i) (0) rfl (by first | rfl | (simp only [go_sem]; done) | (simp only [go_sem]; rfl)) (Nat.zero_le _) ?_
  rintro i hi
  have hbt : (bandsT (l.take i)).length ≤ 400 * 10 := by
   have := bandsT_len (l := l.take i) (fun b hb => hbs b (List.mem_of_mem_take hb))
   rw [List.length_take] at this
   omega
  refine W_seq fun kz9 kq9 => ?_
  refine W_region [1, 7, 18, 19, 20, 21] fun R hR => ?_
  simp only [go_sem]
  refine hR _ _ (kq9 _ _ ?_); clear hR R; try clear kq9 kz9
  try simp only [go_sem]
  refine W_seq fun kz10 kq10 => ?_
  refine W_cond rfl (fun c2 => ?_) (fun c2 => ?_)
  ·
   try simp only [nrm] at c2
   have hi' : i < l.length := by first | assumption | omega
   obtain ⟨b, hx⟩ : ∃ b, l[i]? = some b := ⟨l[i], by simp [hi']⟩
   have hdrop : l.drop i = b :: l.drop (i + 1) := by
    rw [List.drop_eq_getElem_cons hi']; congr 1; exact (List.getElem?_eq_some_iff.1 hx).2
   have hbk := hbs b (List.mem_of_getElem? hx)
   have hrl := bandRow_len2 hbk
   have hbp := hbk.p
   have hbf := hbk.fits
   have hbn : (bandNums b).length = 5 + b.path.length := by simp [bandNums]; omega
   refine W_skip (kq10 _ _ ?_)
   refine W_seq fun kz11 kq11 => ?_
   refine W_block ?_
   refine W_seq fun kz12 kq12 => ?_
   refine W_region [1, 7, 9, 18, 19, 20] fun R hR => ?_
   simp only [go_sem, hx]
   refine hR _ _ (kq12 _ _ ?_); clear hR R; try clear kq12 kz12
   try simp only [go_sem, hx]
   refine W_seq fun kz13 kq13 => ?_
   refine W_region [1, 7, 9, 18, 19, 20] fun R hR => ?_
   simp only [go_sem, hx]
   refine GCall_of (WriteT_pc (j := 1) (k := 0) (b := bandsT (l.take i)) (s := bandW) Y rfl (by simp) (by simp [bandW]; omega)) ?_
   simp only [go_sem, hx]
   refine hR _ _ (kq13 _ _ ?_); clear hR R; try clear kq13 kz13
   try simp only [go_sem, hx]
   refine W_seq fun kz14 kq14 => ?_
   refine W_seq fun kz15 kq15 => ?_
   refine W_region [1, 7, 18, 19, 20, 40, 41, 42] fun R hR => ?_
   simp only [go_sem, hx]
   try simp (disch := (first | omega | (simp only [go_sem, List.length_append] <;> omega))) only [wrapI, wrapU, appX_exact, appX_tok, strAdd, slT, slTa, slTb]
   try simp only [go_sem, hx]
   refine hR _ _ (kq15 _ _ ?_); clear hR R; try clear kq15 kz15
   try simp only [go_sem, hx]
   refine W_block ?_
   have hbm : (I b.first :: I b.lo :: I b.hi :: I b.stay :: I b.people :: List.map I b.path) = (bandNums b).map I := rfl
   simp only [hbm]
   refine W_loopT (α := Nat) (fun (k : Nat) => [(42, I k)]) (fun (k : Nat) => σ.ext [some (ctCells ct), some (bldC (σ.store.length + 1) σ.rooms.length (bandsT (l.take i) ++ rowT bandW ((bandNums b).take k))), some (bdCells b)] [(bandsT (l.take i) ++ rowT bandW ((bandNums b).take k)).length, (bandNums b).length]) (fun (k : Nat) => k ≤ (bandNums b).length) (fun (k : Nat) => (bandNums b).length - k) (0) rfl (by simp only [go_sem, rowT_nil, List.length_append, hbn]) (Nat.zero_le _) ?_
   rintro k hk
   have hrk : (rowT bandW ((bandNums b).take k)).length ≤ 399 := by
    have h1 := rowT_len ((bandNums b).take k) bandW (fun n hn => hbf n (List.mem_of_mem_take hn))
    have h2 : ((bandNums b).take k).length ≤ 17 := by rw [List.length_take]; omega
    have e2 : bandW.length = 4 := rfl
    omega
   refine W_seq fun kz16 kq16 => ?_
   refine W_region [1, 7, 18, 19, 20, 40, 41, 42, 43] fun R hR => ?_
   simp only [go_sem, hx]
   refine hR _ _ (kq16 _ _ ?_); clear hR R; try clear kq16 kz16
   try simp only [go_sem, hx]
   refine W_seq fun kz17 kq17 => ?_
   refine W_cond rfl (fun c3 => ?_) (fun c3 => ?_)
   ·
    try simp only [nrm] at c3
    have hi' : k < (bandNums b).length := by first | assumption | omega
    obtain ⟨x, hx⟩ : ∃ x, (bandNums b)[k]? = some x := ⟨(bandNums b)[k], by simp [hi']⟩
    have hdrop : (bandNums b).drop k = x :: (bandNums b).drop (k + 1) := by
     rw [List.drop_eq_getElem_cons hi']; congr 1; exact (List.getElem?_eq_some_iff.1 hx).2
    have hxv := hbf x (List.mem_of_getElem? hx)
    have hxl := Lib.itoa_length_le x hxv.1 hxv.2
    refine W_skip (kq17 _ _ ?_)
    refine W_seq fun kz18 kq18 => ?_
    refine W_block ?_
    refine W_seq fun kz19 kq19 => ?_
    refine W_region [1, 7, 11, 18, 19, 20, 40, 41, 42] fun R hR => ?_
    simp only [go_sem, hx, hx]
    refine hR _ _ (kq19 _ _ ?_); clear hR R; try clear kq19 kz19
    try simp only [go_sem, hx, hx]
    refine W_region [1, 7, 18, 19, 20, 40, 41, 42] fun R hR => ?_
    simp only [go_sem, hx, hx]
    refine GCall_of (Itoa_pc Y _ x hxv.1 hxv.2) ?_
    simp only [go_sem, hx, hx]
    try simp (disch := (first | omega | (simp only [go_sem, List.length_append] <;> omega))) only [wrapI, wrapU, appX_exact, appX_tok, strAdd, slT, slTa, slTb]
    try simp only [go_sem, hx, hx]
    try simp (disch := (first | omega | (simp only [go_sem, List.length_append] <;> omega))) only [wrapI, wrapU, strAdd, slT, slTa, slTb]
    refine GCall_of (WriteT_pc (j := 1) (k := 0) (b := bandsT (l.take i) ++ rowT bandW ((bandNums b).take k)) (s := 32 :: Lib.itoa x) Y rfl (by simp) (by simp only [List.length_append, List.length_cons]; omega)) ?_
    simp only [go_sem, hx, hx]
    try simp (disch := (first | omega | (simp only [go_sem, List.length_append] <;> omega))) only [wrapI, wrapU, strAdd, slT, slTa, slTb]
    refine hR _ _ (kq18 _ _ ?_); clear hR R; try clear kq18 kz18
    try simp only [go_sem, hx, hx]
    refine W_region [1, 7, 18, 19, 20, 40, 41, 42] fun R hR => ?_
    simp only [go_sem, hx, hx]
    try simp (disch := (first | omega | (simp only [go_sem, List.length_append] <;> omega))) only [wrapI, wrapU, strAdd, slT, slTa, slTb]
    refine hR _ _ ?_; clear hR R
    try simp only [go_sem, hx, hx]
    refine ⟨k + 1, ?_, by (try simp only []); omega, ?_⟩
    ·refine Weak.eq (by first | rfl | (simp only [go_sem]; done) | (simp only [go_sem]; rfl)) ?_
     rw [rowT_take hx]
     simp only [go_sem, List.append_assoc, List.length_append, List.length_cons, Nat.add_assoc]
    ·try dsimp only
     omega
   ·
    try simp only [nrm] at c3
    have hke : k = (bandNums b).length := by first | omega | (simp at c3; omega)
    subst hke
    rw [List.take_length]
    refine W_exit ?_
    simp only [go_sem, hx]
    refine kq14 _ _ ?_
    refine W_region [1, 7, 18, 19, 20] fun R hR => ?_
    simp only [go_sem, hx]
    refine GCall_of (WriteT_pc (j := 1) (k := 0) (b := bandsT (l.take i) ++ rowT bandW (bandNums b)) (s := [10]) Y rfl (by simp) (by simp only [List.length_append, List.length_cons, List.length_nil]; omega)) ?_
    simp only [go_sem, hx]
    refine hR _ _ (kq11 _ _ ?_); clear hR R; try clear kq11 kz11
    try simp only [go_sem, hx]
    refine W_region [1, 7, 18, 19, 20] fun R hR => ?_
    simp only [go_sem, hx]
    try simp (disch := (first | omega | (simp only [go_sem, List.length_append] <;> omega))) only [wrapI, wrapU, strAdd, slT, slTa, slTb]
    refine hR _ _ ?_; clear hR R
    try simp only [go_sem, hx]
    refine ⟨i + 1, ?_, by (try simp only []); omega, ?_⟩
    ·refine Weak.trans (Weak.cutX 2 1 (by omega) (by omega) hcl (by simp only [go_sem] <;> omega) (by simp only [go_sem] <;> omega)) ?_
     simp only [go_sem]
     refine Weak.eq (by first | rfl | (simp only [go_sem]; done) | (simp only [go_sem]; rfl)) ?_
     rw [bandsT_take hx]
     simp only [go_sem, bandRow, List.append_assoc, List.length_append, List.length_cons, List.length_nil, Nat.add_assoc]
    ·try dsimp only
     omega
  ·
   try simp only [nrm] at c2
   have hdrop : l.drop i = [] := List.drop_eq_nil_of_le (by omega)
   have hie : i = l.length := by omega
   subst hie
   rw [List.take_length] at hbt ⊢
   refine W_exit ?_
   simp only [go_sem]
   refine kq7 _ _ ?_
   refine W_seq fun kz20 kq20 => ?_
   refine W_region [7] fun R hR => ?_
   simp only [go_sem]
   refine GCall_of (Itoa_pc Y _ (l.length : Int) (by omega) (by omega)) ?_
   simp only [go_sem]
   try simp (disch := (first | omega | (simp only [go_sem, List.length_append] <;> omega))) only [wrapI, wrapU, appX_exact, appX_tok, strAdd, slT, slTa, slTb]
   try simp only [go_sem]
   try simp (disch := (first | omega | (simp only [go_sem, List.length_append] <;> omega))) only [wrapI, wrapU, appX_exact, appX_tok, strAdd, slT, slTa, slTb]
   try simp only [go_sem]
   try simp (disch := (first | omega | (simp only [go_sem, List.length_append] <;> omega))) only [wrapI, wrapU, strAdd, slT, slTa, slTb]
   refine GCall_of (WriteT_pc (j := 1) (k := 0) (b := bandsT l) (s := 101 :: 110 :: 100 :: 32 :: (Lib.itoa (l.length : Int) ++ [10])) Y rfl (by simp) (by simp only [List.length_append, List.length_cons, List.length_nil]; omega)) ?_
   simp only [go_sem]
   try simp (disch := (first | omega | (simp only [go_sem, List.length_append] <;> omega))) only [wrapI, wrapU, strAdd, slT, slTa, slTb]
   refine hR _ _ (kq20 _ _ ?_); clear hR R; try clear kq20 kz20
   try simp only [go_sem]
   refine W_seq fun kz21 kq21 => ?_
   refine W_region [4, 5] fun R hR => ?_
   simp only [go_sem]
   refine GCall_of (StringT_pc (j := 1) (k := 0) (b := bandsT l ++ 101 :: 110 :: 100 :: 32 :: (Lib.itoa (l.length : Int) ++ [10])) Y rfl (by simp) (by simp only [List.length_append, List.length_cons]; omega) (by simp only [List.length_append, List.length_cons, List.length_nil]; omega)) ?_
   simp only [go_sem]
   refine hR _ _ (kq21 _ _ ?_); clear hR R; try clear kq21 kz21
   try simp only [go_sem]
   refine W_ret ?_
   simp only [go_sem]
   refine ⟨.inr (by trivial), ?_⟩
   first | refine Fin_same hcl rfl (Wk_eq ?_ (by simp only [go_sem])) | refine Fin_self hcl rfl (Wk_eq ?_ (by simp only [go_sem]))
   try simp only [go_sem]
   all_goals
    rw [hwr]; simp [writeT, endRow, rowT, endW]
end Go.Proofs.YteklodljdndcoaaGreatDoor
namespace Go.Proofs.YteklodljdndcoaaGreatDoor
open Go Go.RowKit
set_option maxRecDepth 100000
theorem tmod_bd {x n : Int} (hn : 2 ≤ n) : -n < x.tmod n ∧ x.tmod n < n := by
  have h1 := Int.tmod_lt_of_pos x (show 0 < n by omega)
  have h2 := Int.lt_tmod_of_pos x (show 0 < n by omega)
  exact ⟨h2, h1⟩
/-- A text in which a byte is another one, missing, or more. -/
def blotT (s : List UInt8) (at' how by' : Int) : List UInt8 :=
  if s = [] then s else
  let a := (fit at' s.length).toNat
  if fit how 3 = 0 then s.take a ++ [UInt8.ofNat by'.toNat] ++ s.drop (a + 1) else if fit how 3 = 1 then s.take a ++ s.drop (a + 1) else s.take a ++ [UInt8.ofNat by'.toNat] ++ s.drop a
theorem bytes_one {n : Int} : bytesStr [n] = ⟨([UInt8.ofNat n.toNat] : List UInt8).toArray⟩ := by
  unfold bytesStr
  simp only [List.foldl_cons, List.foldl_nil]
  rfl
set_option maxHeartbeats 2000000 in
theorem Fit2_pc (Y : YEnv) (σ : Sg) (x n : Int) (hn : n < 2 ^ 60) (h1 : -9223372036854775808 ≤ x) (h2 : x ≤ 9223372036854775807) :
  PC Tryz.prog Y 35 [I x, I n] σ (I (fit x n)) (σ) := by
 refine PC_of_W Tryz.func35 rfl (by kernel_rfl) Tryz.ntmps35 (by simp) fun hcl hca => ?_
 refine W_seq fun kz1 kq1 => ?_
 refine W_region [0, 1] fun R hR => ?_
 simp only [go_sem]
 refine hR _ _ (kq1 _ _ ?_); clear hR R; try clear kq1 kz1
 try simp only [go_sem]
 refine W_seq fun kz2 kq2 => ?_
 refine W_seq fun kz3 kq3 => ?_
 refine W_region [0, 1, 6] fun R hR => ?_
 simp only [go_sem]
 refine hR _ _ (kq3 _ _ ?_); clear hR R; try clear kq3 kz3
 try simp only [go_sem]
 refine W_cond rfl (fun c1 => ?_) (fun c1 => ?_)
 ·
  try simp only [nrm] at c1
  have hf : fit x n = 0 := by unfold fit; rw [if_pos (by omega)]
  refine W_seq fun kz4 kq4 => ?_
  refine W_region [4] fun R hR => ?_
  simp only [go_sem]
  refine hR _ _ (kq4 _ _ ?_); clear hR R; try clear kq4 kz4
  try simp only [go_sem]
  refine W_ret ?_
  simp only [go_sem]
  refine ⟨.inr (by trivial), ?_⟩
  first | refine Fin_same hcl rfl (Wk_eq ?_ (by simp only [go_sem])) | refine Fin_self hcl rfl (Wk_eq ?_ (by simp only [go_sem]))
  try simp only [go_sem]
  all_goals
   rw [hf]
 ·
  try simp only [nrm] at c1
  have hn2 : 2 ≤ n := by omega
  obtain ⟨hb1, hb2⟩ := tmod_bd (x := x) hn2
  have hf : fit x n = if x.tmod n < 0 then x.tmod n + n else x.tmod n := by unfold fit; rw [if_neg (by omega)]
  have hnz : ¬ n = 0 := by omega
  have hnz2 : (n == 0) = false := by simp; omega
  have hw : IntKind.i64.wrap (x.tmod n) = x.tmod n := wrapI (by omega) (by omega)
  refine W_skip (kq2 _ _ ?_)
  refine W_seq fun kz5 kq5 => ?_
  refine W_region [0, 1] fun R hR => ?_
  simp only [go_sem, hnz, hnz2, hw]
  try simp (disch := (first | omega | (simp only [go_sem, List.length_append] <;> omega))) only [wrapI, wrapU, strAdd, slT, slTa, slTb]
  refine hR _ _ (kq5 _ _ ?_); clear hR R; try clear kq5 kz5
  try simp only [go_sem, hnz, hnz2, hw]
  refine W_seq fun kz6 kq6 => ?_
  refine W_seq fun kz7 kq7 => ?_
  refine W_region [0, 1, 11] fun R hR => ?_
  simp only [go_sem, hnz, hnz2, hw]
  refine hR _ _ (kq7 _ _ ?_); clear hR R; try clear kq7 kz7
  try simp only [go_sem, hnz, hnz2, hw]
  refine W_cond rfl (fun c2 => ?_) (fun c2 => ?_)
  ·
   try simp only [nrm] at c2
   rw [if_pos (by omega)] at hf
   refine W_region [0] fun R hR => ?_
   simp only [go_sem, hnz, hnz2, hw]
   try simp (disch := (first | omega | (simp only [go_sem, List.length_append] <;> omega))) only [wrapI, wrapU, strAdd, slT, slTa, slTb]
   refine hR _ _ (kq6 _ _ ?_); clear hR R; try clear kq6 kz6
   try simp only [go_sem, hnz, hnz2, hw]
   refine W_seq fun kz8 kq8 => ?_
   refine W_region [4] fun R hR => ?_
   simp only [go_sem, hnz, hnz2, hw]
   refine hR _ _ (kq8 _ _ ?_); clear hR R; try clear kq8 kz8
   try simp only [go_sem, hnz, hnz2, hw]
   refine W_ret ?_
   simp only [go_sem, hnz, hnz2, hw]
   refine ⟨.inr (by trivial), ?_⟩
   first | refine Fin_same hcl rfl (Wk_eq ?_ (by simp only [go_sem])) | refine Fin_self hcl rfl (Wk_eq ?_ (by simp only [go_sem]))
   try simp only [go_sem]
   all_goals
    rw [hf]
  ·
   try simp only [nrm] at c2
   rw [if_neg (by omega)] at hf
   refine W_skip (kq6 _ _ ?_)
   refine W_seq fun kz9 kq9 => ?_
   refine W_region [4] fun R hR => ?_
   simp only [go_sem, hnz, hnz2, hw]
   refine hR _ _ (kq9 _ _ ?_); clear hR R; try clear kq9 kz9
   try simp only [go_sem, hnz, hnz2, hw]
   refine W_ret ?_
   simp only [go_sem, hnz, hnz2, hw]
   refine ⟨.inr (by trivial), ?_⟩
   first | refine Fin_same hcl rfl (Wk_eq ?_ (by simp only [go_sem])) | refine Fin_self hcl rfl (Wk_eq ?_ (by simp only [go_sem]))
   try simp only [go_sem]
   all_goals
    rw [hf]
set_option maxHeartbeats 2000000 in
theorem Blot_pc (Y : YEnv) (σ : Sg) (s : List UInt8) (at' how by' : Int) (hs : s.length ≤ 2 ^ 40) (h1 : -9223372036854775808 ≤ at') (h2 : at' ≤ 9223372036854775807) (h3 : -9223372036854775808 ≤ how) (h4 : how ≤ 9223372036854775807) :
  PC Tryz.prog Y 12 [txt s, I at', I how, .int .u8 by'] σ (txt (blotT s at' how by')) (σ) := by
 refine PC_of_W Tryz.func12 rfl (by kernel_rfl) Tryz.ntmps12 (by simp) fun hcl hca => ?_
 obtain ⟨a, ha⟩ : ∃ z : Nat, fit at' s.length = z := ⟨(fit at' s.length).toNat, by have := fit_bd at' s.length; omega⟩
 obtain ⟨q, hq⟩ : ∃ z, fit how 3 = z := ⟨_, rfl⟩
 have hab := fit_bd at' s.length
 rw [ha] at hab
 refine W_seq fun kz1 kq1 => ?_
 refine W_region [0, 1, 2, 3] fun R hR => ?_
 simp only [go_sem]
 refine hR _ _ (kq1 _ _ ?_); clear hR R; try clear kq1 kz1
 try simp only [go_sem]
 refine W_seq fun kz2 kq2 => ?_
 refine W_seq fun kz3 kq3 => ?_
 refine W_region [0, 1, 2, 3, 11] fun R hR => ?_
 simp only [go_sem]
 refine hR _ _ (kq3 _ _ ?_); clear hR R; try clear kq3 kz3
 try simp only [go_sem]
 refine W_cond rfl (fun c1 => ?_) (fun c1 => ?_)
 ·
  try simp only [nrm] at c1
  have hs0 : s = [] := by simpa using c1
  subst hs0
  have hb : blotT [] at' how by' = [] := by unfold blotT; rw [if_pos rfl]
  refine W_seq fun kz4 kq4 => ?_
  refine W_region [8] fun R hR => ?_
  simp only [go_sem]
  refine hR _ _ (kq4 _ _ ?_); clear hR R; try clear kq4 kz4
  try simp only [go_sem]
  refine W_ret ?_
  simp only [go_sem]
  refine ⟨.inr (by trivial), ?_⟩
  first | refine Fin_same hcl rfl (Wk_eq ?_ (by simp only [go_sem])) | refine Fin_self hcl rfl (Wk_eq ?_ (by simp only [go_sem]))
  try simp only [go_sem]
  all_goals
   rw [hb]
 ·
  try simp only [nrm] at c1
  have hs0 : s ≠ [] := by simpa using c1
  have hsl : 0 < s.length := List.length_pos_iff.2 hs0
  have hal : a < s.length := by omega
  have hb : blotT s at' how by' = if q = 0 then s.take a ++ [UInt8.ofNat by'.toNat] ++ s.drop (a + 1) else if q = 1 then s.take a ++ s.drop (a + 1) else s.take a ++ [UInt8.ofNat by'.toNat] ++ s.drop a := by
   unfold blotT
   rw [if_neg hs0, ha, hq]
   simp only [Int.toNat_natCast]
  have htk : (s.take a).length = a := by rw [List.length_take]; omega
  have hdr : (s.drop (a + 1)).length ≤ s.length := by rw [List.length_drop]; omega
  have hdr2 : (s.drop a).length ≤ s.length := by rw [List.length_drop]; omega
  have hsa : slicePV Tryz.prog 9 (txt s) (some (.int .i64 ((a : Int) + 1))) none none = some (txt (s.drop (a + 1))) := slTa (a := a + 1) (by omega)
  refine W_skip (kq2 _ _ ?_)
  refine W_seq fun kz5 kq5 => ?_
  refine W_region [0, 1, 2, 3] fun R hR => ?_
  simp only [go_sem]
  refine GCall_of (PC.val (v' := I (a : Int)) (Fit2_pc Y _ at' (s.length : Int) (by omega) h1 h2) (by rw [ha])) ?_
  simp only [go_sem]
  refine hR _ _ (kq5 _ _ ?_); clear hR R; try clear kq5 kz5
  try simp only [go_sem]
  refine W_seq fun kz6 kq6 => ?_
  refine W_region [0, 1, 2, 9] fun R hR => ?_
  simp only [go_sem, bytesOfPV, bytes_one]
  try simp (disch := (first | omega | (simp only [go_sem, List.length_append] <;> omega))) only [wrapI, wrapU, strAdd, slT, slTa, slTb]
  refine hR _ _ (kq6 _ _ ?_); clear hR R; try clear kq6 kz6
  try simp only [go_sem]
  refine W_seq fun kz7 kq7 => ?_
  refine W_seq fun kz8 kq8 => ?_
  refine W_region [0, 1, 9, 21] fun R hR => ?_
  simp only [go_sem]
  refine GCall_of (PC.val (v' := I q) (Fit2_pc Y _ how 3 (by omega) h3 h4) (by rw [hq])) ?_
  simp only [go_sem]
  refine hR _ _ (kq8 _ _ ?_); clear hR R; try clear kq8 kz8
  try simp only [go_sem]
  refine W_block ?_
  refine W_seq fun kz9 kq9 => ?_
  refine W_region [0, 1, 9, 21, 22] fun R hR => ?_
  simp only [go_sem]
  refine hR _ _ (kq9 _ _ ?_); clear hR R; try clear kq9 kz9
  try simp only [go_sem]
  refine W_cond rfl (fun c2 => ?_) (fun c2 => ?_)
  ·
   try simp only [nrm] at c2
   rw [if_pos (by omega)] at hb
   refine W_seq fun kz10 kq10 => ?_
   refine W_draw [8] [0, 1, 2, 3, 4, 5, 6, 7, 8, 9, 10] [] [[], [], [0, 1], [], [0, 1, 2, 3], [], [], [6], [5, 6, 7], [0, 1, 2, 3, 4, 5, 6, 7, 8], [0, 1, 2, 3, 4, 5, 6, 7, 8, 9]] mixed (by kernel_rfl) fun R hR => ?_
   simp only [go_sem, hsa]
   try simp (disch := (first | omega | (simp only [go_sem, List.length_append] <;> omega))) only [wrapI, wrapU, appX_exact, appX_tok, strAdd, slT, slTa, slTb]
   try simp only [go_sem, hsa]
   try simp (disch := (first | omega | (simp only [go_sem, List.length_append] <;> omega))) only [wrapI, wrapU, appX_exact, appX_tok, strAdd, slT, slTa, slTb]
   try simp only [go_sem, hsa]
   try simp (disch := (first | omega | (simp only [go_sem, List.length_append] <;> omega))) only [wrapI, wrapU, appX_exact, appX_tok, strAdd, slT, slTa, slTb]
   try simp only [go_sem, hsa]
   try simp (disch := (first | omega | (simp only [go_sem, List.length_append] <;> omega))) only [wrapI, wrapU, appX_exact, appX_tok, strAdd, slT, slTa, slTb]
   try simp only [go_sem, hsa]
   try refine And.intro (by repeat' (first | refine And.intro ?_ ?_ | exact trivial | exact GOr_right (fun _ => by simp only [go_sem, hsa]))) ?_
   refine hR _ _ (kq10 _ _ ?_); clear hR R; try clear kq10 kz10
   try simp only [go_sem]
   refine W_ret ?_
   simp only [go_sem]
   refine ⟨.inr (by trivial), ?_⟩
   first | refine Fin_same hcl rfl (Wk_eq ?_ (by simp only [go_sem])) | refine Fin_self hcl rfl (Wk_eq ?_ (by simp only [go_sem]))
   try simp only [go_sem]
   all_goals
    rw [hb]
  ·
   try simp only [nrm] at c2
   rw [if_neg (by omega)] at hb
   refine W_seq fun kz11 kq11 => ?_
   refine W_region [0, 1, 9, 34] fun R hR => ?_
   simp only [go_sem]
   refine hR _ _ (kq11 _ _ ?_); clear hR R; try clear kq11 kz11
   try simp only [go_sem]
   refine W_cond rfl (fun c3 => ?_) (fun c3 => ?_)
   ·
    try simp only [nrm] at c3
    rw [if_pos (by omega)] at hb
    refine W_seq fun kz12 kq12 => ?_
    refine W_draw [8] [0, 1, 2, 3, 4, 5, 6, 7, 8] [] [[], [], [0, 1], [], [], [4], [3, 4, 5], [0, 1, 2, 3, 4, 5, 6], [0, 1, 2, 3, 4, 5, 6, 7]] mixed (by kernel_rfl) fun R hR => ?_
    simp only [go_sem, hsa]
    try simp (disch := (first | omega | (simp only [go_sem, List.length_append] <;> omega))) only [wrapI, wrapU, appX_exact, appX_tok, strAdd, slT, slTa, slTb]
    try simp only [go_sem, hsa]
    try simp (disch := (first | omega | (simp only [go_sem, List.length_append] <;> omega))) only [wrapI, wrapU, appX_exact, appX_tok, strAdd, slT, slTa, slTb]
    try simp only [go_sem, hsa]
    try simp (disch := (first | omega | (simp only [go_sem, List.length_append] <;> omega))) only [wrapI, wrapU, appX_exact, appX_tok, strAdd, slT, slTa, slTb]
    try simp only [go_sem, hsa]
    try refine And.intro (by repeat' (first | refine And.intro ?_ ?_ | exact trivial | exact GOr_right (fun _ => by simp only [go_sem, hsa]))) ?_
    refine hR _ _ (kq12 _ _ ?_); clear hR R; try clear kq12 kz12
    try simp only [go_sem]
    refine W_ret ?_
    simp only [go_sem]
    refine ⟨.inr (by trivial), ?_⟩
    first | refine Fin_same hcl rfl (Wk_eq ?_ (by simp only [go_sem])) | refine Fin_self hcl rfl (Wk_eq ?_ (by simp only [go_sem]))
    try simp only [go_sem]
    all_goals
     rw [hb]
   ·
    try simp only [nrm] at c3
    rw [if_neg (by omega)] at hb
    refine W_skip (kq7 _ _ ?_)
    refine W_seq fun kz13 kq13 => ?_
    refine W_draw [8] [0, 1, 2, 3, 4, 5, 6, 7, 8, 9] [] [[], [], [0, 1], [], [0, 1, 2, 3], [], [], [5, 6], [0, 1, 2, 3, 4, 5, 6, 7], [0, 1, 2, 3, 4, 5, 6, 7, 8]] mixed (by kernel_rfl) fun R hR => ?_
    simp only [go_sem]
    try simp (disch := (first | omega | (simp only [go_sem, List.length_append] <;> omega))) only [wrapI, wrapU, appX_exact, appX_tok, strAdd, slT, slTa, slTb]
    try simp only [go_sem]
    try simp (disch := (first | omega | (simp only [go_sem, List.length_append] <;> omega))) only [wrapI, wrapU, appX_exact, appX_tok, strAdd, slT, slTa, slTb]
    try simp only [go_sem]
    try simp (disch := (first | omega | (simp only [go_sem, List.length_append] <;> omega))) only [wrapI, wrapU, appX_exact, appX_tok, strAdd, slT, slTa, slTb]
    try simp only [go_sem]
    try simp (disch := (first | omega | (simp only [go_sem, List.length_append] <;> omega))) only [wrapI, wrapU, appX_exact, appX_tok, strAdd, slT, slTa, slTb]
    try simp only [go_sem]
    try refine And.intro (by repeat' (first | refine And.intro ?_ ?_ | exact trivial | exact GOr_right (fun _ => by simp only [go_sem]))) ?_
    refine hR _ _ (kq13 _ _ ?_); clear hR R; try clear kq13 kz13
    try simp only [go_sem]
    refine W_ret ?_
    simp only [go_sem]
    refine ⟨.inr (by trivial), ?_⟩
    first | refine Fin_same hcl rfl (Wk_eq ?_ (by simp only [go_sem])) | refine Fin_self hcl rfl (Wk_eq ?_ (by simp only [go_sem]))
    try simp only [go_sem]
    all_goals
     rw [hb]
end Go.Proofs.YteklodljdndcoaaGreatDoor
namespace Go.Proofs.YteklodljdndcoaaGreatDoor
open Go Go.RowKit
set_option maxRecDepth 100000
def mkBand (n : List Int) : Band := { first := n.getD 0 0, lo := n.getD 1 0, hi := n.getD 2 0, stay := n.getD 3 0, people := n.getD 4 0, path := n.drop 5 }
/-- One row more; none: it is not as said. -/
def stepE (st : List Band × Bool) (row : List UInt8) : Option (List Band × Bool) := match parseE 7 row with
  | none => none
  | some (w, n) => if st.2 = true then none else if w = [98, 97, 110, 100] ∧ 5 ≤ n.length then some (st.1 ++ [mkBand n], false)
    else if w = [101, 110, 100] ∧ n.length = 1 ∧ n[0]? = some (st.1.length : Int) then some (st.1, true) else none
def rowsE : Nat → List Band × Bool → List (List UInt8) → (List Band × Bool) × Int
  | _, st, [] => (st, 0)
  | i, st, r :: q => match stepE st r with
    | none => (st, (i : Int) + 1)
    | some st' => rowsE (i + 1) st' q
def readB (c : City) (rows : List (List UInt8)) : List Band × Int × Int :=
  if (rowsE 0 ([], false) (rows.take (rows.length - 1))).2 ≠ 0 then ([], (rowsE 0 ([], false) (rows.take (rows.length - 1))).2, 1)
  else if (rowsE 0 ([], false) (rows.take (rows.length - 1))).1.2 = false ∨ rows[rows.length - 1]? ≠ some [] then ([], (rows.length : Int), 1)
  else if chkAll c (rowsE 0 ([], false) (rows.take (rows.length - 1))).1.1 ≠ 0 then ([], 0, chkAll c (rowsE 0 ([], false) (rows.take (rows.length - 1))).1.1)
  else ((rowsE 0 ([], false) (rows.take (rows.length - 1))).1.1, 0, 0)
def readA (c : City) (s : List UInt8) : List Band × Int × Int :=
  if chkCity c ≠ 0 then ([], 0, chkCity c) else if 2000 < s.length then ([], 0, 6) else readB c (splitL 10 s)
abbrev readPV (a : List Band × Int × Int) : PV := .tuple [bands a.1, I a.2.1, I a.2.2]
theorem rowsE_cons {i : Nat} {st : List Band × Bool} {r : List UInt8} {q : List (List UInt8)} : rowsE i st (r :: q) = match stepE st r with
    | none => (st, (i : Int) + 1)
    | some st' => rowsE (i + 1) st' q := rfl
theorem rowsE_none {i : Nat} {st : List Band × Bool} {r : List UInt8} {q : List (List UInt8)} (h : stepE st r = none) : rowsE i st (r :: q) = (st, (i : Int) + 1) := by rw [rowsE_cons, h]
theorem rowsE_some {i : Nat} {st st' : List Band × Bool} {r : List UInt8} {q : List (List UInt8)} (h : stepE st r = some st') : rowsE i st (r :: q) = rowsE (i + 1) st' q := by rw [rowsE_cons, h]
theorem readB_bad {c : City} {rows : List (List UInt8)} {st : List Band × Bool} {e : Int} (h : rowsE 0 ([], false) (rows.take (rows.length - 1)) = (st, e)) (he : e ≠ 0) : readB c rows = ([], e, 1) := by
  unfold readB
  rw [h, if_pos he]
theorem readB_open {c : City} {rows : List (List UInt8)} {st : List Band × Bool} (h : rowsE 0 ([], false) (rows.take (rows.length - 1)) = (st, 0)) (he : st.2 = false ∨ rows[rows.length - 1]? ≠ some []) : readB c rows = ([], (rows.length : Int), 1) := by
  unfold readB
  rw [h, if_neg (by simp), if_pos he]
theorem readB_end {c : City} {rows : List (List UInt8)} {st : List Band × Bool} (h : rowsE 0 ([], false) (rows.take (rows.length - 1)) = (st, 0)) (he : ¬ (st.2 = false ∨ rows[rows.length - 1]? ≠ some [])) :
    readB c rows = if chkAll c st.1 ≠ 0 then ([], 0, chkAll c st.1) else (st.1, 0, 0) := by
  unfold readB
  rw [h, if_neg (by simp), if_neg he]
theorem parse_is {k : Nat} (x : List UInt8) : ∃ w n is, parsePV (parseE k x) = .tuple [txt w, ints n, .bool is] ∧ (is = true → parseE k x = some (w, n)) ∧ (is = false → parseE k x = none) ∧ n.length ≤ x.length := by
  cases h : parseE k x with
  | none => exact ⟨[], [], false, rfl, fun h => by (cases h), fun _ => rfl, by simp⟩
  | some p =>
    refine ⟨p.1, p.2, true, rfl, fun _ => rfl, (fun h => by cases h), ?_⟩
    unfold parseE at h
    split at h
    · cases h
    · rename_i w r hs
      simp only [Option.map_eq_some_iff] at h
      obtain ⟨l, hl, rfl⟩ := h
      have h1 := numsE_len hl
      have h2 := splitL_le (b := 32) (s := x)
      rw [hs] at h2
      simp at h2 ⊢
      omega
theorem five {n : List Int} (h : 5 ≤ n.length) : ∃ a0 a1 a2 a3 a4 r, n = a0 :: a1 :: a2 :: a3 :: a4 :: r := by
  rcases n with _ | ⟨a0, _ | ⟨a1, _ | ⟨a2, _ | ⟨a3, _ | ⟨a4, r⟩⟩⟩⟩⟩
  iterate 5 (simp at h; try omega)
  exact ⟨a0, a1, a2, a3, a4, r, rfl⟩
theorem one {n : List Int} (h : n.length = 1) : ∃ a0, n = [a0] := by
  rcases n with _ | ⟨a0, _ | ⟨a1, r⟩⟩
  · simp at h
  · exact ⟨a0, rfl⟩
  · simp at h
set_option maxHeartbeats 4000000 in
theorem rRead_pc (Y : YEnv) (σ : Sg) (ct : City) (s : List UInt8) (hc : ct.Ok) (hs : s.length ≤ 2 ^ 30) :
  PC Tryz.prog Y 14 [ctPV ct, txt s] σ (readPV (readA ct s)) (σ) := by
 refine PC_of_W Tryz.func14 rfl (by kernel_rfl) Tryz.ntmps14 (by simp) fun hcl hca => ?_
 obtain ⟨rows, hrw⟩ : ∃ z, splitL 10 s = z := ⟨_, rfl⟩
 have hwm : ∀ p, p ∈ rows → p.length ≤ 2 ^ 30 := fun p hp => by rw [← hrw] at hp; have := splitL_mem hp; omega
 have hwn : rows ≠ [] := by rw [← hrw]; exact splitL_ne 10 s
 have hwl : 0 < rows.length := List.length_pos_iff.2 hwn
 have hw40 : rows.length ≤ 2 ^ 30 + 1 := by rw [← hrw]; have := splitL_le (b := 10) (s := s); omega
 obtain ⟨xl, hxl⟩ : ∃ w, rows[rows.length - 1]? = some w := ⟨rows[rows.length - 1], by simp [hwl]⟩
 obtain ⟨R, hR0⟩ : ∃ z, rows.take (rows.length - 1) = z := ⟨_, rfl⟩
 have hRl : R.length = rows.length - 1 := by rw [← hR0]; simp
 have hlast : rows[((rows.length : Int) - 1).toNat]? = some xl := by rw [show ((rows.length : Int) - 1).toNat = rows.length - 1 by omega]; exact hxl
 have hposl : (0 ≤ (rows.length : Int) - 1) = True := by simp; omega
 have hn0 : ∀ n : List Int, n.length = 1 → n[0]? = some (n.getD 0 0) := fun n h => by obtain ⟨a, rfl⟩ := one h; rfl
 have hRr : ∀ (k : Nat) (x : List UInt8), R[k]? = some x → rows[k]? = some x := fun k x h => by rw [← hR0] at h; rw [List.getElem?_take] at h; split at h <;> first | exact h | cases h
 refine W_seq fun kz1 kq1 => ?_
 refine W_region [1, 2] fun R hR => ?_
 simp only [go_sem]
 refine hR _ _ (kq1 _ _ ?_); clear hR R; try clear kq1 kz1
 try simp only [go_sem]
 refine W_seq fun kz2 kq2 => ?_
 refine W_seq fun kz3 kq3 => ?_
 refine W_region [1, 2, 7] fun R hR => ?_
 simp only [go_sem]
 refine GCall_of (rcheck_pc Y _ ct hc) ?_
 simp only [go_sem]
 refine hR _ _ (kq3 _ _ ?_); clear hR R; try clear kq3 kz3
 try simp only [go_sem]
 refine W_seq fun kz4 kq4 => ?_
 refine W_region [1, 2, 7, 19] fun R hR => ?_
 simp only [go_sem]
 refine hR _ _ (kq4 _ _ ?_); clear hR R; try clear kq4 kz4
 try simp only [go_sem]
 refine W_cond rfl (fun c1 => ?_) (fun c1 => ?_)
 ·
  try simp only [nrm] at c1
  have hres : readA ct s = ([], 0, chkCity ct) := by unfold readA; rw [if_pos (by simpa using c1)]
  refine W_seq fun kz5 kq5 => ?_
  refine W_region [4, 5, 6] fun R hR => ?_
  simp only [go_sem]
  refine hR _ _ (kq5 _ _ ?_); clear hR R; try clear kq5 kz5
  try simp only [go_sem]
  refine W_ret ?_
  simp only [go_sem]
  refine ⟨.inr (by trivial), ?_⟩
  refine Fin_same hcl rfl (Wk.ro (by simp only [go_sem]) ?_)
  try simp only [go_sem]
  all_goals
   first | (rw [hres2]; done) | (rw [hres]; done) | (rw [hres2]; rfl) | (rw [hres]; rfl)
 ·
  try simp only [nrm] at c1
  have hck : chkCity ct = 0 := by simpa using c1
  refine W_skip (kq2 _ _ ?_)
  refine W_seq fun kz6 kq6 => ?_
  refine W_seq fun kz7 kq7 => ?_
  refine W_region [1, 2, 23] fun R hR => ?_
  simp only [go_sem]
  refine hR _ _ (kq7 _ _ ?_); clear hR R; try clear kq7 kz7
  try simp only [go_sem]
  refine W_cond rfl (fun c2 => ?_) (fun c2 => ?_)
  ·
   try simp only [nrm] at c2
   have hres : readA ct s = ([], 0, 6) := by unfold readA; rw [if_neg (by simpa using hck), if_pos (by omega)]
   refine W_seq fun kz8 kq8 => ?_
   refine W_region [4, 5, 6] fun R hR => ?_
   simp only [go_sem]
   refine hR _ _ (kq8 _ _ ?_); clear hR R; try clear kq8 kz8
   try simp only [go_sem]
   refine W_ret ?_
   simp only [go_sem]
   refine ⟨.inr (by trivial), ?_⟩
   refine Fin_same hcl rfl (Wk.ro (by simp only [go_sem]) ?_)
   try simp only [go_sem]
   all_goals
    first | (rw [hres2]; done) | (rw [hres]; done) | (rw [hres2]; rfl) | (rw [hres]; rfl)
  ·
   try simp only [nrm] at c2
   have hres : readA ct s = readB ct rows := by unfold readA; rw [if_neg (by simpa using hck), if_neg (by omega), hrw]
   refine W_skip (kq6 _ _ ?_)
   refine W_seq fun kz9 kq9 => ?_
   refine W_region [2, 8] fun R hR => ?_
   simp only [go_sem]
   refine GCall_of (PC.val (v' := .isl (rows.map txt) .ro) (rsplit_10 Y _ s (by omega)) (by rw [hrw])) ?_
   simp only [go_sem]
   refine hR _ _ (kq9 _ _ ?_); clear hR R; try clear kq9 kz9
   try simp only [go_sem]
   refine W_seq fun kz10 kq10 => ?_
   refine W_region [2, 8, 9] fun R hR => ?_
   simp only [go_sem]
   refine hR _ _ (kq10 _ _ ?_); clear hR R; try clear kq10 kz10
   try simp only [go_sem]
   refine W_seq fun kz11 kq11 => ?_
   refine W_region [2, 8, 9, 10] fun R hR => ?_
   simp only [go_sem]
   refine hR _ _ (kq11 _ _ ?_); clear hR R; try clear kq11 kz11
   try simp only [go_sem]
   refine W_seq fun kz12 kq12 => ?_
   refine W_seq fun kz13 kq13 => ?_
   refine W_region [2, 8, 9, 10, 11] fun R hR => ?_
   simp only [go_sem]
   refine hR _ _ (kq13 _ _ ?_); clear hR R; try clear kq13 kz13
   try simp only [go_sem]
   refine W_block ?_
   refine W_weak (Weak.room (t := 9) (es := 6) rfl (by simp)) ?_
   refine W_weak (Weak.keep [2, 8, 9, 10, 11]) ?_
   simp only [go_sem]
   refine W_loopT (α := Nat × (List Band) × Bool) (fun ⟨i, l, ended⟩ => [(9, .isl (l.map bdPV) (.tok σ.rooms.length l.length 6)), (10, .bool ended), (11, I i)]) (fun ⟨i, l, ended⟩ => σ.ext [some (ctCells ct)] [l.length]) (fun ⟨i, l, ended⟩ => i ≤ R.length ∧ l.length ≤ i ∧ (∀ b, b ∈ l → b.path.length ≤ 2 ^ 30) ∧ rowsE i (l, ended) (R.drop i) = rowsE 0 ([], false) R) (fun ⟨i, l, ended⟩ => R.length - i) ((0, [], false)) rfl (by first | rfl | (simp only [go_sem]; done) | (simp only [go_sem]; rfl)) (⟨Nat.zero_le _, Nat.le_refl _, fun b h => by (cases h), rfl⟩) ?_
   rintro ⟨i, l, ended⟩ ⟨hi, hll, hlb, hinv⟩
   refine W_seq fun kz14 kq14 => ?_
   refine W_seq fun kz15 kq15 => ?_
   refine W_region [2, 8, 9, 10, 11, 30] fun R hR => ?_
   simp only [go_sem]
   try simp (disch := (first | omega | (simp only [go_sem, List.length_append] <;> omega))) only [wrapI, wrapU, strAdd, slT, slTa, slTb]
   refine hR _ _ (kq15 _ _ ?_); clear hR R; try clear kq15 kz15
   try simp only [go_sem]
   refine W_cond rfl (fun c3 => ?_) (fun c3 => ?_)
   ·
    try simp only [nrm] at c3
    have hi' : i < R.length := by first | omega | (simp at c3; omega)
    obtain ⟨x, hx⟩ : ∃ x, R[i]? = some x := ⟨R[i], by simp [hi']⟩
    have hdrop : R.drop i = x :: R.drop (i + 1) := by
     rw [List.drop_eq_getElem_cons hi']; congr 1; exact (List.getElem?_eq_some_iff.1 hx).2
    have hxr := hRr i x hx
    have hxm := hwm x (List.mem_of_getElem? hxr)
    rw [hdrop] at hinv
    obtain ⟨w, n, is, hpv, hpt, hpf, hpl⟩ := parse_is (k := 7) x
    obtain ⟨se, hse⟩ : ∃ z, stepE (l, ended) x = z := ⟨_, rfl⟩
    refine W_skip (kq14 _ _ ?_)
    refine W_seq fun kz16 kq16 => ?_
    refine W_block ?_
    refine W_seq fun kz17 kq17 => ?_
    refine W_region [2, 8, 9, 10, 11, 12, 13, 14] fun R hR => ?_
    simp only [go_sem, hxr]
    refine GCall_of (PC.val (v' := .tuple [txt w, ints n, .bool is]) (rparse_pc Y _ x (by have := hwm x (List.mem_of_getElem? hxr); omega)) hpv) ?_
    simp only [go_sem, hxr]
    refine hR _ _ (kq17 _ _ ?_); clear hR R; try clear kq17 kz17
    try simp only [go_sem, hxr]
    refine W_seq fun kz18 kq18 => ?_
    refine W_block ?_
    refine W_seq fun kz19 kq19 => ?_
    refine W_regionJ [2, 8, 9, 10, 11, 12, 13, 14, 42] [(42, .bool (!is || ended))] ?_ fun R hR => ?_
    ·refine kq19 _ _ ?_
     simp only [go_sem, hxr]
     refine W_cond rfl (fun c4 => ?_) (fun c4 => ?_)
     ·
      try simp only [nrm] at c4
      have hst : stepE (l, ended) x = none := by
       unfold stepE
       cases is with
       | false => rw [hpf rfl]
       | true => rw [hpt rfl]; simp only [Bool.not_true, Bool.false_or] at c4; simp only [c4, if_true]
      rw [rowsE_none hst] at hinv
      have hres2 : readA ct s = ([], (i : Int) + 1, 1) := by rw [hres]; exact readB_bad (by rw [hR0]; exact hinv.symm) (by omega)
      refine W_region [2, 8, 9, 10, 11, 14] fun R hR => ?_
      simp only [go_sem, hxr]
      refine hR _ _ (kq18 _ _ ?_); clear hR R; try clear kq18 kz18
      try simp only [go_sem, hxr]
      refine W_seq fun kz20 kq20 => ?_
      refine W_region [2, 8, 9, 10, 11, 95] fun R hR => ?_
      simp only [go_sem, hxr]
      refine hR _ _ (kq20 _ _ ?_); clear hR R; try clear kq20 kz20
      try simp only [go_sem, hxr]
      refine W_cond rfl (fun c5 => ?_) (fun c5 => ?_)
      ·
       try simp only [nrm] at c5
       refine W_seq fun kz21 kq21 => ?_
       refine W_region [4, 5, 6] fun R hR => ?_
       simp only [go_sem, hxr]
       try simp (disch := (first | omega | (simp only [go_sem, List.length_append] <;> omega))) only [wrapI, wrapU, strAdd, slT, slTa, slTb]
       refine hR _ _ (kq21 _ _ ?_); clear hR R; try clear kq21 kz21
       try simp only [go_sem, hxr]
       refine W_ret ?_
       simp only [go_sem, hxr]
       refine ⟨.inr (by trivial), ?_⟩
       refine Fin_same hcl rfl (Wk.ro (by simp only [go_sem]) ?_)
       try simp only [go_sem]
       all_goals
        first | (rw [hres2]; done) | (rw [hres]; done) | (rw [hres2]; rfl) | (rw [hres]; rfl)
      ·
       try simp only [nrm] at c5
       exfalso
       first | (simp at c5; done) | cases c5 | contradiction
     ·
      try simp only [nrm] at c4
      obtain ⟨rfl, rfl⟩ : is = true ∧ ended = false := by cases is <;> cases ended <;> simp_all
      have hp := hpt rfl
      refine W_seq fun kz22 kq22 => ?_
      refine W_regionJ [2, 8, 9, 10, 11, 12, 13, 14, 48] [(48, .bool (decide (w = [98, 97, 110, 100]) && decide (5 ≤ n.length)))] ?_ fun R hR => ?_
      ·refine kq22 _ _ ?_
       simp only [go_sem, hxr]
       refine W_cond rfl (fun c6 => ?_) (fun c6 => ?_)
       ·
        try simp only [nrm] at c6
        simp only [Bool.and_eq_true, decide_eq_true_eq] at c6
        obtain ⟨hcw, hc5⟩ := c6
        have hgk : ∀ k, k < n.length → n[k]? = some (n.getD k 0) := fun k h => by simp [h]
        have hg0 := hgk 0 (by omega)
        have hg1 := hgk 1 (by omega)
        have hg2 := hgk 2 (by omega)
        have hg3 := hgk 3 (by omega)
        have hg4 := hgk 4 (by omega)
        have hst : stepE (l, false) x = some (l ++ [mkBand n], false) := by
         unfold stepE
         rw [hp]
         simp only [Bool.false_eq_true, if_false]
         rw [if_pos ⟨hcw, hc5⟩]
        rw [rowsE_some hst] at hinv
        refine W_draw [2, 8, 9, 10, 11, 14] [0, 1, 2, 3, 4, 5, 6, 7, 8, 9, 10, 11, 12, 13, 14, 15, 16, 17, 18, 19, 20, 21, 22] [] [[], [], [1], [1, 2], [], [4], [4, 5], [], [7], [7, 8], [4, 5, 6, 7, 8, 9], [], [11], [11, 12], [], [14], [14, 15], [], [17], [1, 2, 3, 4, 5, 6, 7, 8, 9, 10, 11, 12, 13, 14, 15, 16, 17, 18], [1, 2, 3, 4, 5, 6, 7, 8, 9, 10, 11, 12, 13, 14, 15, 16, 17, 18, 19], [0, 1, 2, 3, 4, 5, 6, 7, 8, 9, 10, 11, 12, 13, 14, 15, 16, 17, 18, 19, 20], [0, 1, 2, 3, 4, 5, 6, 7, 8, 9, 10, 11, 12, 13, 14, 15, 16, 17, 18, 19, 20, 21]] mixed (by kernel_rfl) fun R hR => ?_
        simp only [go_sem, hxr, hc5, hg0, hg1, hg2, hg3, hg4, Int.reduceToNat, Int.reduceLE, Int.le_refl]
        try simp (disch := (first | omega | (simp only [go_sem, List.length_append] <;> omega))) only [wrapI, wrapU, appX_exact, appX_tok, strAdd, slT, slTa, slTb]
        try simp only [go_sem, hxr, hc5, hg0, hg1, hg2, hg3, hg4, Int.reduceToNat, Int.reduceLE, Int.le_refl]
        try refine And.intro (by repeat' (first | refine And.intro ?_ ?_ | exact trivial | exact GOr_right (fun _ => by simp only [go_sem, hxr, hc5, hg0, hg1, hg2, hg3, hg4, Int.reduceToNat, Int.reduceLE, Int.le_refl]))) ?_
        refine hR _ _ (kq18 _ _ ?_); clear hR R; try clear kq18 kz18
        try simp only [go_sem, hxr, hc5, hg0, hg1, hg2, hg3, hg4, Int.reduceToNat, Int.reduceLE, Int.le_refl]
        refine W_seq fun kz23 kq23 => ?_
        refine W_region [2, 8, 9, 10, 11, 95] fun R hR => ?_
        simp only [go_sem, hxr, hc5, hg0, hg1, hg2, hg3, hg4, Int.reduceToNat, Int.reduceLE, Int.le_refl]
        refine hR _ _ (kq23 _ _ ?_); clear hR R; try clear kq23 kz23
        try simp only [go_sem, hxr, hc5, hg0, hg1, hg2, hg3, hg4, Int.reduceToNat, Int.reduceLE, Int.le_refl]
        refine W_cond rfl (fun c7 => ?_) (fun c7 => ?_)
        ·
         try simp only [nrm] at c7
         exfalso
         first | (simp at c7; done) | cases c7 | contradiction
        ·
         try simp only [nrm] at c7
         refine W_skip (kq16 _ _ ?_)
         refine W_region [2, 8, 9, 10, 11] fun R hR => ?_
         simp only [go_sem, hxr, hc5, hg0, hg1, hg2, hg3, hg4, Int.reduceToNat, Int.reduceLE, Int.le_refl]
         try simp (disch := (first | omega | (simp only [go_sem, List.length_append] <;> omega))) only [wrapI, wrapU, strAdd, slT, slTa, slTb]
         refine hR _ _ ?_; clear hR R
         try simp only [go_sem, hxr, hc5, hg0, hg1, hg2, hg3, hg4, Int.reduceToNat, Int.reduceLE, Int.le_refl]
         refine ⟨(i + 1, l ++ [mkBand n], false), ?_, by (try simp only []); omega, ?_⟩
         ·refine Weak.eq (by simp only [List.map_append, List.map_cons, List.map_nil, List.length_append, List.length_cons, List.length_nil]; first | done | rfl) (by first | rfl | (simp only [List.length_append, List.length_cons, List.length_nil]; first | done | rfl))
         ·try dsimp only
          refine ⟨by omega, by simp; omega, fun b hb => ?_, hinv⟩
          rcases List.mem_append.1 hb with hb | hb
          ·exact hlb b hb
          ·simp only [List.mem_singleton] at hb
           subst hb
           simp only [mkBand, List.length_drop]
           omega
       ·
        try simp only [nrm] at c6
        have hc6 : ¬ (w = [98, 97, 110, 100] ∧ 5 ≤ n.length) := by simpa using c6
        refine W_seq fun kz24 kq24 => ?_
        refine W_regionJ [2, 8, 9, 10, 11, 14, 78] [(78, .bool (decide (w = [101, 110, 100]) && (decide (n.length = 1) && decide (n.getD 0 0 = (l.length : Int)))))] ?_ fun R hR => ?_
        ·refine kq24 _ _ ?_
         simp only [go_sem, hxr]
         refine W_cond rfl (fun c8 => ?_) (fun c8 => ?_)
         ·
          try simp only [nrm] at c8
          simp only [Bool.and_eq_true, decide_eq_true_eq] at c8
          have hst : stepE (l, false) x = some (l, true) := by
           unfold stepE
           rw [hp]
           simp only [Bool.false_eq_true, if_false]
           rw [if_neg hc6, if_pos ⟨c8.1, c8.2.1, by rw [hn0 n c8.2.1, c8.2.2]⟩]
          rw [rowsE_some hst] at hinv
          refine W_region [2, 8, 9, 10, 11, 14] fun R hR => ?_
          simp only [go_sem, hxr]
          refine hR _ _ (kq18 _ _ ?_); clear hR R; try clear kq18 kz18
          try simp only [go_sem, hxr]
          refine W_seq fun kz25 kq25 => ?_
          refine W_region [2, 8, 9, 10, 11, 95] fun R hR => ?_
          simp only [go_sem, hxr]
          refine hR _ _ (kq25 _ _ ?_); clear hR R; try clear kq25 kz25
          try simp only [go_sem, hxr]
          refine W_cond rfl (fun c9 => ?_) (fun c9 => ?_)
          ·
           try simp only [nrm] at c9
           exfalso
           first | (simp at c9; done) | cases c9 | contradiction
          ·
           try simp only [nrm] at c9
           refine W_skip (kq16 _ _ ?_)
           refine W_region [2, 8, 9, 10, 11] fun R hR => ?_
           simp only [go_sem, hxr]
           try simp (disch := (first | omega | (simp only [go_sem, List.length_append] <;> omega))) only [wrapI, wrapU, strAdd, slT, slTa, slTb]
           refine hR _ _ ?_; clear hR R
           try simp only [go_sem, hxr]
           refine ⟨(i + 1, l, true), ?_, by (try simp only []); omega, ?_⟩
           ·first | exact Weak.refl | exact Weak.eq (by first | rfl | (simp only [go_sem]; done) | (simp only [go_sem]; rfl) | (simp [go_sem]; done) | (simp [go_sem]; omega)) (by first | rfl | (simp only [go_sem]; done) | (simp [go_sem]; done))
           ·try dsimp only
            exact ⟨by omega, by omega, hlb, hinv⟩
         ·
          try simp only [nrm] at c8
          have hst : stepE (l, false) x = none := by
           unfold stepE
           rw [hp]
           simp only [Bool.false_eq_true, if_false]
           rw [if_neg hc6, if_neg]
           rintro ⟨k1, k2, k3⟩
           rw [hn0 n k2] at k3
           injection k3 with k3
           have hc8 : (decide (w = [101, 110, 100]) && (decide (n.length = 1) && decide (n.getD 0 0 = (l.length : Int)))) = true := by simp only [Bool.and_eq_true, decide_eq_true_eq]; exact ⟨k1, k2, k3⟩
           first | (rw [hc8] at c8; cases c8; done) | exact absurd hc8 (by simpa using c8)
          rw [rowsE_none hst] at hinv
          have hres2 : readA ct s = ([], (i : Int) + 1, 1) := by rw [hres]; exact readB_bad (by rw [hR0]; exact hinv.symm) (by omega)
          refine W_region [2, 8, 9, 10, 11, 14] fun R hR => ?_
          simp only [go_sem, hxr]
          refine hR _ _ (kq18 _ _ ?_); clear hR R; try clear kq18 kz18
          try simp only [go_sem, hxr]
          refine W_seq fun kz26 kq26 => ?_
          refine W_region [2, 8, 9, 10, 11, 95] fun R hR => ?_
          simp only [go_sem, hxr]
          refine hR _ _ (kq26 _ _ ?_); clear hR R; try clear kq26 kz26
          try simp only [go_sem, hxr]
          refine W_cond rfl (fun c10 => ?_) (fun c10 => ?_)
          ·
           try simp only [nrm] at c10
           refine W_seq fun kz27 kq27 => ?_
           refine W_region [4, 5, 6] fun R hR => ?_
           simp only [go_sem, hxr]
           try simp (disch := (first | omega | (simp only [go_sem, List.length_append] <;> omega))) only [wrapI, wrapU, strAdd, slT, slTa, slTb]
           refine hR _ _ (kq27 _ _ ?_); clear hR R; try clear kq27 kz27
           try simp only [go_sem, hxr]
           refine W_ret ?_
           simp only [go_sem, hxr]
           refine ⟨.inr (by trivial), ?_⟩
           refine Fin_same hcl rfl (Wk.ro (by simp only [go_sem]) ?_)
           try simp only [go_sem]
           all_goals
            first | (rw [hres2]; done) | (rw [hres]; done) | (rw [hres2]; rfl) | (rw [hres]; rfl)
          ·
           try simp only [nrm] at c10
           exfalso
           first | (simp at c10; done) | cases c10 | contradiction
        ·simp only [go_sem, hxr, Int.reduceToNat, Int.le_refl]
         refine GWant_split (fun g1 => ?_) (fun g1 => ?_)
         ·try simp only [Bool.not_eq_true', Bool.not_eq_false'] at g1
          have n1 := g1; try simp only [nrm] at n1
          simp only [go_sem, hxr, Int.reduceToNat, Int.le_refl, g1]
          refine GWant_split (fun g2 => ?_) (fun g2 => ?_)
          ·try simp only [Bool.not_eq_true', Bool.not_eq_false'] at g2
           have n2 := g2; try simp only [nrm] at n2
           have hv0 := hn0 n (by simp_all; first | done | omega)
           simp only [go_sem, hxr, hv0, Int.reduceToNat, Int.le_refl, g1, g2]
           refine hR _ ?_
           all_goals try simp only [go_sem, hxr, hv0, Int.reduceToNat, Int.le_refl]
           all_goals
            first | rfl | (simp only [List.cons.injEq, Prod.mk.injEq, PV.bool.injEq, true_and, and_true]; have e1 : w = [101, 110, 100] := (by simpa using g1); have e2 : n.length = 1 := (by first | omega | (simp at g2; omega)); rw [Bool.eq_iff_iff]; simp only [e1, e2, decide_true, Bool.true_and, decide_eq_true_eq, beq_iff_eq]; done) | (simp only [List.cons.injEq, Prod.mk.injEq, PV.bool.injEq, true_and, and_true]; rcases Decidable.em (n.length = 1) with hn1 | hn1 <;> first | (exfalso; simp [hn1] at g2; done) | (simp [hn1]; done)) | (simp only [List.cons.injEq, Prod.mk.injEq, PV.bool.injEq, true_and, and_true]; have e1 : ¬ w = [101, 110, 100] := (by simpa using g1); simp only [e1, decide_false, Bool.false_and]; done)
          ·try simp only [Bool.not_eq_true', Bool.not_eq_false'] at g2
           have n2 := g2; try simp only [nrm] at n2
           simp only [go_sem, hxr, Int.reduceToNat, Int.le_refl, g1, g2]
           refine hR _ ?_
           all_goals try simp only [go_sem, hxr, Int.reduceToNat, Int.le_refl]
           all_goals
            first | rfl | (simp only [List.cons.injEq, Prod.mk.injEq, PV.bool.injEq, true_and, and_true]; have e1 : w = [101, 110, 100] := (by simpa using g1); have e2 : n.length = 1 := (by first | omega | (simp at g2; omega)); rw [Bool.eq_iff_iff]; simp only [e1, e2, decide_true, Bool.true_and, decide_eq_true_eq, beq_iff_eq]; done) | (simp only [List.cons.injEq, Prod.mk.injEq, PV.bool.injEq, true_and, and_true]; rcases Decidable.em (n.length = 1) with hn1 | hn1 <;> first | (exfalso; simp [hn1] at g2; done) | (simp [hn1]; done)) | (simp only [List.cons.injEq, Prod.mk.injEq, PV.bool.injEq, true_and, and_true]; have e1 : ¬ w = [101, 110, 100] := (by simpa using g1); simp only [e1, decide_false, Bool.false_and]; done)
         ·try simp only [Bool.not_eq_true', Bool.not_eq_false'] at g1
          have n1 := g1; try simp only [nrm] at n1
          simp only [go_sem, hxr, Int.reduceToNat, Int.le_refl, g1]
          refine hR _ ?_
          all_goals try simp only [go_sem, hxr, Int.reduceToNat, Int.le_refl]
          all_goals
           first | rfl | (simp only [List.cons.injEq, Prod.mk.injEq, PV.bool.injEq, true_and, and_true]; have e1 : w = [101, 110, 100] := (by simpa using g1); have e2 : n.length = 1 := (by first | omega | (simp at g2; omega)); rw [Bool.eq_iff_iff]; simp only [e1, e2, decide_true, Bool.true_and, decide_eq_true_eq, beq_iff_eq]; done) | (simp only [List.cons.injEq, Prod.mk.injEq, PV.bool.injEq, true_and, and_true]; rcases Decidable.em (n.length = 1) with hn1 | hn1 <;> first | (exfalso; simp [hn1] at g2; done) | (simp [hn1]; done)) | (simp only [List.cons.injEq, Prod.mk.injEq, PV.bool.injEq, true_and, and_true]; have e1 : ¬ w = [101, 110, 100] := (by simpa using g1); simp only [e1, decide_false, Bool.false_and]; done)
      ·simp only [go_sem, hxr]
       refine GWant_split (fun g3 => ?_) (fun g3 => ?_)
       ·try simp only [Bool.not_eq_true', Bool.not_eq_false'] at g3
        have n3 := g3; try simp only [nrm] at n3
        simp only [go_sem, hxr, g3]
        refine hR _ ?_
        all_goals try simp only [go_sem, hxr]
        all_goals
         first | rfl | (simp only [List.cons.injEq, Prod.mk.injEq, PV.bool.injEq, true_and, and_true]; first | (simp [*]; done) | (simp_all; done) | (rw [Bool.eq_iff_iff]; simp only [Bool.not_eq_true', decide_eq_false_iff_not, decide_eq_true_eq, Bool.or_eq_true, Bool.and_eq_true]; first | omega | (simp_all; done) | (simp_all; omega)))
       ·try simp only [Bool.not_eq_true', Bool.not_eq_false'] at g3
        have n3 := g3; try simp only [nrm] at n3
        simp only [go_sem, hxr, g3]
        refine hR _ ?_
        all_goals try simp only [go_sem, hxr]
        all_goals
         first | rfl | (simp only [List.cons.injEq, Prod.mk.injEq, PV.bool.injEq, true_and, and_true]; first | (simp [*]; done) | (simp_all; done) | (rw [Bool.eq_iff_iff]; simp only [Bool.not_eq_true', decide_eq_false_iff_not, decide_eq_true_eq, Bool.or_eq_true, Bool.and_eq_true]; first | omega | (simp_all; done) | (simp_all; omega)))
    ·simp only [go_sem, hxr]
     refine GWant_split (fun g4 => ?_) (fun g4 => ?_)
     ·try simp only [Bool.not_eq_true', Bool.not_eq_false'] at g4
      have n4 := g4; try simp only [nrm] at n4
      simp only [go_sem, hxr, g4]
      refine hR _ ?_
      all_goals try simp only [go_sem, hxr]
      all_goals
       first | rfl | (simp only [List.cons.injEq, Prod.mk.injEq, PV.bool.injEq, true_and, and_true]; first | (simp [*]; done) | (simp_all; done) | (rw [Bool.eq_iff_iff]; simp only [Bool.not_eq_true', decide_eq_false_iff_not, decide_eq_true_eq, Bool.or_eq_true, Bool.and_eq_true]; first | omega | (simp_all; done) | (simp_all; omega)))
     ·try simp only [Bool.not_eq_true', Bool.not_eq_false'] at g4
      have n4 := g4; try simp only [nrm] at n4
      simp only [go_sem, hxr, g4]
      refine hR _ ?_
      all_goals try simp only [go_sem, hxr]
      all_goals
       first | rfl | (simp only [List.cons.injEq, Prod.mk.injEq, PV.bool.injEq, true_and, and_true]; first | (simp [*]; done) | (simp_all; done) | (rw [Bool.eq_iff_iff]; simp only [Bool.not_eq_true', decide_eq_false_iff_not, decide_eq_true_eq, Bool.or_eq_true, Bool.and_eq_true]; first | omega | (simp_all; done) | (simp_all; omega)))
   ·
    try simp only [nrm] at c3
    have hie : i = R.length := by first | omega | (simp at c3; omega)
    have hdrop : R.drop i = [] := List.drop_eq_nil_of_le (by omega)
    rw [hdrop] at hinv
    simp only [rowsE] at hinv
    have hfin := hinv.symm
    refine W_exit ?_
    simp only [go_sem]
    refine kq12 _ _ ?_
    refine W_seq fun kz28 kq28 => ?_
    refine W_seq fun kz29 kq29 => ?_
    refine W_regionJ [2, 8, 9, 108] [(108, .bool (!ended || !decide (xl = [])))] ?_ fun R hR => ?_
    ·refine kq29 _ _ ?_
     simp only [go_sem]
     refine W_cond rfl (fun c11 => ?_) (fun c11 => ?_)
     ·
      try simp only [nrm] at c11
      have hres2 : readA ct s = ([], (rows.length : Int), 1) := by
       rw [hres]
       refine readB_open (by rw [hR0]; exact hfin) ?_
       rw [hxl]
       cases ended
       ·exact .inl rfl
       ·right; simpa using c11
      refine W_seq fun kz30 kq30 => ?_
      refine W_region [4, 5, 6] fun R hR => ?_
      simp only [go_sem]
      refine hR _ _ (kq30 _ _ ?_); clear hR R; try clear kq30 kz30
      try simp only [go_sem]
      refine W_ret ?_
      simp only [go_sem]
      refine ⟨.inr (by trivial), ?_⟩
      refine Fin_same hcl rfl (Wk.ro (by simp only [go_sem]) ?_)
      try simp only [go_sem]
      all_goals
       first | (rw [hres2]; done) | (rw [hres]; done) | (rw [hres2]; rfl) | (rw [hres]; rfl)
     ·
      try simp only [nrm] at c11
      obtain ⟨rfl, rfl⟩ : ended = true ∧ xl = [] := by cases ended <;> simp_all
      have hres2 : readA ct s = if chkAll ct l ≠ 0 then ([], 0, chkAll ct l) else (l, 0, 0) := by
       rw [hres]
       exact readB_end (st := (l, true)) (by rw [hR0]; exact hfin) (by rw [hxl]; simp)
      refine W_skip (kq28 _ _ ?_)
      refine W_seq fun kz31 kq31 => ?_
      refine W_seq fun kz32 kq32 => ?_
      refine W_region [9, 15] fun R hR => ?_
      simp only [go_sem]
      refine GCall_of (PC.ofRo (rcheckBands_pc Y _ ct l hc ⟨by omega, fun b hb => by have := hlb b hb; omega⟩) (by simp only [go_sem] <;> rfl)) ?_
      simp only [go_sem]
      refine hR _ _ (kq32 _ _ ?_); clear hR R; try clear kq32 kz32
      try simp only [go_sem]
      refine W_seq fun kz33 kq33 => ?_
      refine W_region [9, 15, 115] fun R hR => ?_
      simp only [go_sem]
      refine hR _ _ (kq33 _ _ ?_); clear hR R; try clear kq33 kz33
      try simp only [go_sem]
      refine W_cond rfl (fun c12 => ?_) (fun c12 => ?_)
      ·
       try simp only [nrm] at c12
       rw [if_pos (by simpa using c12)] at hres2
       refine W_seq fun kz34 kq34 => ?_
       refine W_region [4, 5, 6] fun R hR => ?_
       simp only [go_sem]
       refine hR _ _ (kq34 _ _ ?_); clear hR R; try clear kq34 kz34
       try simp only [go_sem]
       refine W_ret ?_
       simp only [go_sem]
       refine ⟨.inr (by trivial), ?_⟩
       refine Fin_same hcl rfl (Wk.ro (by simp only [go_sem]) ?_)
       try simp only [go_sem]
       all_goals
        first | (rw [hres2]; done) | (rw [hres]; done) | (rw [hres2]; rfl) | (rw [hres]; rfl)
      ·
       try simp only [nrm] at c12
       rw [if_neg (by simpa using c12)] at hres2
       refine W_skip (kq31 _ _ ?_)
       refine W_seq fun kz35 kq35 => ?_
       refine W_region [4, 5, 6] fun R hR => ?_
       simp only [go_sem]
       refine hR _ _ (kq35 _ _ ?_); clear hR R; try clear kq35 kz35
       try simp only [go_sem]
       refine W_ret ?_
       simp only [go_sem]
       refine ⟨.inr (by trivial), ?_⟩
       refine Fin_same hcl rfl (Wk.ro (by simp only [go_sem]) ?_)
       try simp only [go_sem]
       all_goals
        first | (rw [hres2]; done) | (rw [hres]; done) | (rw [hres2]; rfl) | (rw [hres]; rfl)
    ·simp only [go_sem, hlast, hposl]
     refine GWant_split (fun g5 => ?_) (fun g5 => ?_)
     ·try simp only [Bool.not_eq_true', Bool.not_eq_false'] at g5
      have n5 := g5; try simp only [nrm] at n5
      simp only [go_sem, hlast, hposl, g5]
      try simp (disch := (first | omega | (simp only [go_sem, List.length_append] <;> omega))) only [wrapI, wrapU, strAdd, slT, slTa, slTb]
      try simp only [go_sem, hlast, hposl, g5]
      refine hR _ ?_
      all_goals try simp only [go_sem, hlast, hposl]
      all_goals
       first | rfl | (simp only [List.cons.injEq, Prod.mk.injEq, PV.bool.injEq, true_and, and_true]; first | (simp [*]; done) | (simp_all; done) | (rw [Bool.eq_iff_iff]; simp only [Bool.not_eq_true', decide_eq_false_iff_not, decide_eq_true_eq, Bool.or_eq_true, Bool.and_eq_true]; first | omega | (simp_all; done) | (simp_all; omega)))
     ·try simp only [Bool.not_eq_true', Bool.not_eq_false'] at g5
      have n5 := g5; try simp only [nrm] at n5
      simp only [go_sem, hlast, hposl, g5]
      try simp (disch := (first | omega | (simp only [go_sem, List.length_append] <;> omega))) only [wrapI, wrapU, strAdd, slT, slTa, slTb]
      try simp only [go_sem, hlast, hposl, g5]
      refine hR _ ?_
      all_goals try simp only [go_sem, hlast, hposl]
      all_goals
       first | rfl | (simp only [List.cons.injEq, Prod.mk.injEq, PV.bool.injEq, true_and, and_true]; first | (simp [*]; done) | (simp_all; done) | (rw [Bool.eq_iff_iff]; simp only [Bool.not_eq_true', decide_eq_false_iff_not, decide_eq_true_eq, Bool.or_eq_true, Bool.and_eq_true]; first | omega | (simp_all; done) | (simp_all; omega)))
end Go.Proofs.YteklodljdndcoaaGreatDoor
