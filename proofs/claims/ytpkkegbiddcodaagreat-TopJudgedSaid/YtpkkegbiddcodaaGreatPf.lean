/-
  Walks: a standing weighed, standings compared (song, cmp).
  Tallies: the cells of a round counted (song).
  Which ballots count in a round, in plain Lean (song).
  What the voices of a round give to its songs, and ballots that may be, in plain Lean (song).
  Results of rounds, in plain Lean (song).
  Which ballots count: those of the map are those that are first of their voice (song, plain).
  Standings sorted, and those that are kept: the plain law (song).
  Walks: the ballots of a round counted (song).
  Walks: the standing of a song; standings copied and sorted (song).
  Walks: the result of a round (song).
  Tallies of all rounds: what may be said of them, their reading (song).
  Contests and ballots made of numbers may be (song, plain).
  A contest of one round whose juries give points to all songs, plainly: the points of the songs, and who wins.
  Judges of one matter choose as juries of one round do: plainly.
  Walks: the seal of an envelope (marks).
  Walks: the table of a night that is decided (marks).
  Walks: lists compared; the chapter's examples.
  Walks: preferences checked (song, bateriaref04).
  Songs that are left out one after the other, in plain Lean.
  Walks: songs left out one after the other (song).
-/
import Derived.Test.YtpkkegbiddcodaaGreatPe
import Derived.CallsIn
import Derived.RangeFuncLeaves
import Derived.RangeFuncRecord
import Derived.OrdersIn
import Derived.Below
import Derived.Laws.World
import Derived.Laws.StructEq
import Derived.Laws.BytesString
import Derived.Laws.Append
import Derived.MapKept
import Derived.ProofKit
import Derived.Carry
import Derived.Handed
import Derived.ChangeCalls
import Derived.Stop.Joined
import Derived.Lib.LaidTab
import Derived.Shelf.Strconv.Itoa3
import Derived.RangeFuncIn
import Derived.RangeFuncNested
import Derived.Test.YtpkkegbiddcodaaGreatProg
import Derived.KernelRfl
import Derived.IntWalk
import Derived.Test.YtpkkegbiddcodaaGreatRows
import Derived.Sort.OwnSortedInts
import Derived.Lib.SlicesCompact
import Derived.Shelf.Sort.Plain
import Derived.Shelf.Slices.In.SortNone
import Derived.Shelf.Small.Bits
import Derived.JoinedOf
set_option linter.unusedSimpArgs false
set_option linter.unusedVariables false
namespace Go.Proofs.YtpkkegbiddcodaaGreat.So
open Go Go.RowKit
set_option maxRecDepth 100000
def cmpI (a b : Int) : Int := if a < b then -1 else if b < a then 1 else 0
def orI : List Int → Int
 | [] => 0
 | x :: l => if x ≠ 0 then x else orI l
def weighS (s : Std) (r : Rnd) : Std := { s with score := r.jury * s.points + r.member * s.votes }
/-- Who is ahead: below zero where the first is. -/
def aheadS (a b : Std) : Int := orI [cmpI b.score a.score, cmpI b.points a.points, cmpI a.song b.song]
theorem mul_bd {a b : Int} (h : 0 ≤ a ∧ a ≤ 2 ^ 20) (h2 : -2 ^ 30 ≤ b ∧ b ≤ 2 ^ 30) : -2 ^ 50 ≤ a * b ∧ a * b ≤ 2 ^ 50 := by
 have e1 : a * b ≤ a * 2 ^ 30 := Int.mul_le_mul_of_nonneg_left h2.2 h.1
 have e2 : a * (-2 ^ 30) ≤ a * b := Int.mul_le_mul_of_nonneg_left h2.1 h.1
 omega
set_option maxHeartbeats 2000000 in
theorem nan_pc (Y : YEnv) (σ : Sg) (a : Int) :
 PC Tryz.prog Y 99 [I a] σ (.bool false) (σ) := by
 refine PC_of_W Tryz.func99 rfl (by kernel_rfl) Tryz.ntmps99 (by simp) fun hcl hca => ?_
 refine W_sr [0] fun R hR => ?_
 simp only [go_sem]
 refine hR _ _ ?_; clear hR R
 try simp only [go_sem]
 refine W_sr [2] fun R hR => ?_
 simp only [go_sem]
 refine hR _ _ ?_; clear hR R
 try simp only [go_sem]
 refine W_ret ?_
 simp only [go_sem]
 refine ⟨.inr (by trivial), ?_⟩
 first | refine Fsa hcl rfl ?_ | refine Fse hcl rfl ?_
 try simp only [go_sem]
 all_goals
  first | rfl | simp
set_option maxHeartbeats 2000000 in
theorem cmp_pc (Y : YEnv) (σ : Sg) (a b : Int) :
 PC Tryz.prog Y 86 [I a, I b] σ (I (cmpI a b)) (σ) := by
 refine PC_of_W Tryz.func86 rfl (by kernel_rfl) Tryz.ntmps86 (by simp) fun hcl hca => ?_
 refine W_sr [0, 1] fun R hR => ?_
 simp only [go_sem]
 refine hR _ _ ?_; clear hR R
 try simp only [go_sem]
 refine W_sr [0, 1, 5] fun R hR => ?_
 simp only [go_sem]
 refine GCall_of (nan_pc Y _ a) ?_
 simp only [go_sem]
 refine hR _ _ ?_; clear hR R
 try simp only [go_sem]
 refine W_sr [0, 1, 5, 6] fun R hR => ?_
 simp only [go_sem]
 refine GCall_of (nan_pc Y _ b) ?_
 simp only [go_sem]
 refine hR _ _ ?_; clear hR R
 try simp only [go_sem]
 refine W_seq fun Z4 K4 => ?_
 refine W_sr [0, 1, 6, 11] fun R hR => ?_
 simp only [go_sem]
 refine hR _ _ ?_; clear hR R
 try simp only [go_sem]
 refine W_cond rfl (fun c1 => ?_) (fun c1 => ?_)
 ·
  try simp only [nrm] at c1
  exfalso
  simp at c1
 try simp only [nrm] at c1
 refine W_skip (K4 _ _ ?_)
 refine W_seq fun Z6 K6 => ?_
 refine W_sr [0, 1, 13] fun R hR => ?_
 simp only [go_sem]
 refine hR _ _ ?_; clear hR R
 try simp only [go_sem]
 refine W_cond rfl (fun c2 => ?_) (fun c2 => ?_)
 ·
  try simp only [nrm] at c2
  exfalso
  simp at c2
 try simp only [nrm] at c2
 refine W_skip (K6 _ _ ?_)
 refine W_seq fun Z8 K8 => ?_
 refine W_sr [0, 1, 16] fun R hR => ?_
 simp only [go_sem]
 refine hR _ _ ?_; clear hR R
 try simp only [go_sem]
 refine W_cond rfl (fun c3 => ?_) (fun c3 => ?_)
 ·
  try simp only [nrm] at c3
  refine W_sr [4] fun R hR => ?_
  simp only [go_sem]
  refine hR _ _ ?_; clear hR R
  try simp only [go_sem]
  refine W_ret ?_
  simp only [go_sem]
  refine ⟨.inr (by trivial), ?_⟩
  first | refine Fsa hcl rfl ?_ | refine Fse hcl rfl ?_
  try simp only [go_sem]
  all_goals
   first | rfl | (simp_all; done) | (simp_all; omega) | (simp only [cmpI]; (repeat' split) <;> ((first | rfl | omega | (simp_all; done) | (simp_all; omega))))
 try simp only [nrm] at c3
 refine W_skip (K8 _ _ ?_)
 refine W_seq fun Z11 K11 => ?_
 refine W_sr [19] fun R hR => ?_
 simp only [go_sem]
 refine hR _ _ ?_; clear hR R
 try simp only [go_sem]
 refine W_cond rfl (fun c4 => ?_) (fun c4 => ?_)
 ·
  try simp only [nrm] at c4
  refine W_sr [4] fun R hR => ?_
  simp only [go_sem]
  refine hR _ _ ?_; clear hR R
  try simp only [go_sem]
  refine W_ret ?_
  simp only [go_sem]
  refine ⟨.inr (by trivial), ?_⟩
  first | refine Fsa hcl rfl ?_ | refine Fse hcl rfl ?_
  try simp only [go_sem]
  all_goals
   first | rfl | (simp_all; done) | (simp_all; omega) | (simp only [cmpI]; (repeat' split) <;> ((first | rfl | omega | (simp_all; done) | (simp_all; omega))))
 try simp only [nrm] at c4
 refine W_skip (K11 _ _ ?_)
 refine W_sr [4] fun R hR => ?_
 simp only [go_sem]
 refine hR _ _ ?_; clear hR R
 try simp only [go_sem]
 refine W_ret ?_
 simp only [go_sem]
 refine ⟨.inr (by trivial), ?_⟩
 first | refine Fsa hcl rfl ?_ | refine Fse hcl rfl ?_
 try simp only [go_sem]
 all_goals
  first | rfl | (simp_all; done) | (simp_all; omega) | (simp only [cmpI]; (repeat' split) <;> ((first | rfl | omega | (simp_all; done) | (simp_all; omega))))
set_option maxHeartbeats 2000000 in
theorem or_pc (Y : YEnv) (σ : Sg) (l : List Int) (o : Own) (hl : l.length < 2 ^ 40) :
 PC Tryz.prog Y 85 [intsO o l] σ (I (orI l)) (σ) := by
 refine PC_of_W Tryz.func85 rfl (by kernel_rfl) Tryz.ntmps85 (by simp) fun hcl hca => ?_
 obtain ⟨res, hres⟩ : ∃ r, orI l = r := ⟨_, rfl⟩
 rw [hres]
 refine W_sr [0] fun R hR => ?_
 simp only [go_sem]
 refine hR _ _ ?_; clear hR R
 try simp only [go_sem]
 refine W_sr [0, 3] fun R hR => ?_
 simp only [go_sem]
 refine hR _ _ ?_; clear hR R
 try simp only [go_sem]
 refine W_seq fun Z3 K3 => ?_
 refine W_sr [3, 6, 7, 8] fun R hR => ?_
 simp only [go_sem]
 refine hR _ _ ?_; clear hR R
 try simp only [go_sem]
 refine W_block ?_
 refine W_loopS (α := Nat) (fun (i : Nat) => [(8, I i)]) (fun (i : Nat) => i ≤ l.length ∧ res = orI (l.drop i)) (fun (i : Nat) => l.length - i) (0) rfl (⟨Nat.zero_le _, hres.symm⟩) ?_
 rintro i ⟨hi, hinv⟩
 refine W_sr [3, 6, 7, 8, 9] fun R hR => ?_
 simp only [go_sem]
 refine hR _ _ ?_; clear hR R
 try simp only [go_sem]
 refine W_seq fun Z6 K6 => ?_
 refine W_cond rfl (fun c1 => ?_) (fun c1 => ?_)
 ·
  try simp only [nrm] at c1
  have hi' : i < l.length := by first | assumption | omega
  obtain ⟨x, hx⟩ : ∃ x, l[i]? = some x := ⟨l[i], by simp [hi']⟩
  have hdrop : l.drop i = x :: l.drop (i + 1) := by
   rw [List.drop_eq_getElem_cons hi']; congr 1; exact (List.getElem?_eq_some_iff.1 hx).2
  rw [hdrop] at hinv
  simp only [orI] at hinv
  refine W_skip (K6 _ _ ?_)
  refine W_seq fun Z7 K7 => ?_
  refine W_block ?_
  refine W_sr [3, 5, 6, 7, 8] fun R hR => ?_
  simp only [go_sem, hx]
  refine hR _ _ ?_; clear hR R
  try simp only [go_sem, hx]
  refine W_sr [3, 5, 6, 7, 8, 14] fun R hR => ?_
  simp only [go_sem, hx]
  refine hR _ _ ?_; clear hR R
  try simp only [go_sem, hx]
  refine W_cond rfl (fun c2 => ?_) (fun c2 => ?_)
  ·
   try simp only [nrm] at c2
   refine W_sr [2] fun R hR => ?_
   simp only [go_sem, hx]
   refine hR _ _ ?_; clear hR R
   try simp only [go_sem, hx]
   refine W_ret ?_
   simp only [go_sem, hx]
   refine ⟨.inr (by trivial), ?_⟩
   first | refine Fsa hcl rfl ?_ | refine Fse hcl rfl ?_
   try simp only [go_sem]
   all_goals
    rw [hinv]; first | done | rfl | simp_all
  try simp only [nrm] at c2
  refine W_skip (K7 _ _ ?_)
  refine W_region [3, 6, 7, 8] fun R hR => ?_
  simp only [go_sem, hx]
  try simp (disch := omega) only [wrapI, wrapU]
  refine hR _ _ ?_; clear hR R
  try simp only [go_sem, hx]
  refine ⟨i + 1, ?_, by (try simp only []); omega, ?_⟩
  ·first | exact Weak.refl | exact Wqq
  try dsimp only
  refine ⟨hi', ?_⟩
  rw [hinv]; simp_all
 try simp only [nrm] at c1
 have hdrop : l.drop i = [] := List.drop_eq_nil_of_le (by omega)
 rw [hdrop] at hinv
 simp only [orI] at hinv
 refine W_exit ?_
 simp only [go_sem]
 refine K3 _ _ ?_
 refine W_sr [2] fun R hR => ?_
 simp only [go_sem]
 refine hR _ _ ?_; clear hR R
 try simp only [go_sem]
 refine W_ret ?_
 simp only [go_sem]
 refine ⟨.inr (by trivial), ?_⟩
 first | refine Fsa hcl rfl ?_ | refine Fse hcl rfl ?_
 try simp only [go_sem]
 all_goals
  rw [hinv]; first | done | rfl | simp_all
set_option maxHeartbeats 2000000 in
theorem weigh_pc (Y : YEnv) (σ : Sg) (s : Std) (r : Rnd) (h1 : 0 ≤ r.jury ∧ r.jury ≤ 2 ^ 20) (h2 : 0 ≤ r.member ∧ r.member ≤ 2 ^ 20) (h3 : -2 ^ 30 ≤ s.points ∧ s.points ≤ 2 ^ 30) (h4 : -2 ^ 30 ≤ s.votes ∧ s.votes ≤ 2 ^ 30) :
 PC Tryz.prog Y 82 [sdPV s, rdPV r] σ (sdPV (weighS s r)) (σ) := by
 refine PC_of_W Tryz.func82 rfl (by kernel_rfl) Tryz.ntmps82 (by simp) fun hcl hca => ?_
 have hm1 := mul_bd h1 h3
 have hm2 := mul_bd h2 h4
 have hw1 : IntKind.i64.wrap (r.jury * s.points) = r.jury * s.points := wrapI (by omega) (by omega)
 have hw2 : IntKind.i64.wrap (r.member * s.votes) = r.member * s.votes := wrapI (by omega) (by omega)
 have hw3 : IntKind.i64.wrap (r.jury * s.points + r.member * s.votes) = r.jury * s.points + r.member * s.votes := wrapI (by omega) (by omega)
 refine W_sr [2, 3, 4] fun R hR => ?_
 simp only [go_sem, sdPV, sdCells, rdPV, rdCells, hw1, hw2, hw3]
 refine hR _ _ ?_; clear hR R
 try simp only [go_sem, sdPV, sdCells, rdPV, rdCells, hw1, hw2, hw3]
 refine W_sr [2, 4] fun R hR => ?_
 simp only [go_sem, sdPV, sdCells, rdPV, rdCells, hw1, hw2, hw3]
 try simp (disch := omega) only [wrapI, wrapU]
 refine hR _ _ ?_; clear hR R
 try simp only [go_sem, sdPV, sdCells, rdPV, rdCells, hw1, hw2, hw3]
 refine W_sr [4] fun R hR => ?_
 simp only [go_sem, sdPV, sdCells, rdPV, rdCells, hw1, hw2, hw3]
 refine hR _ _ ?_; clear hR R
 try simp only [go_sem, sdPV, sdCells, rdPV, rdCells, hw1, hw2, hw3]
 refine W_ret ?_
 simp only [go_sem, sdPV, sdCells, rdPV, rdCells, hw1, hw2, hw3]
 refine ⟨.inr (by trivial), ?_⟩
 first | refine Fin_same hcl (by show resPV Tryz.prog _ _ [.cell 4 122] = some _; simp only [resPV, go_sem]; rfl) (Wk_eq ?_ (by simp only [go_sem])) | refine Fin_same hcl rfl (Wk_eq ?_ (by simp only [go_sem]))
 try simp only [go_sem]
 all_goals
  first | rfl | simp [weighS, sdPV, sdCells]
set_option maxHeartbeats 2000000 in
theorem ahead_pc (Y : YEnv) (σ : Sg) (a b : Std) :
 PC Tryz.prog Y 52 [sdPV a, sdPV b] σ (I (aheadS a b)) (σ) := by
 refine PC_of_W Tryz.func52 rfl (by kernel_rfl) Tryz.ntmps52 (by simp) fun hcl hca => ?_
 refine W_sr [2, 3] fun R hR => ?_
 simp only [go_sem, sdPV, sdCells]
 refine hR _ _ ?_; clear hR R
 try simp only [go_sem, sdPV, sdCells]
 refine W_seq fun Z2 K2 => ?_
 refine W_draw [4] [0, 1, 2, 3, 4, 5, 6, 7, 8, 9, 10, 11, 12, 13, 14, 15, 16, 17] [(5, 4), (6, 4), (7, 4), (8, 4), (10, 4), (10, 9), (11, 4), (11, 9), (12, 4), (12, 9), (13, 4), (13, 9)] [[], [0], [], [2], [0, 1, 2, 3], [], [5], [], [7], [0, 1, 2, 3, 4, 5, 6, 7, 8], [], [10], [], [12], [0, 1, 2, 3, 4, 5, 6, 7, 8, 9, 10, 11, 12, 13], [0, 1, 2, 3, 4, 5, 6, 7, 8, 9, 10, 11, 12, 13, 14], [0, 1, 2, 3, 4, 5, 6, 7, 8, 9, 10, 11, 12, 13, 14, 15], [0, 1, 2, 3, 4, 5, 6, 7, 8, 9, 10, 11, 12, 13, 14, 15, 16]] mixed (by kernel_rfl) fun R hR => ?_
 simp only [go_sem, sdPV, sdCells]
 refine GCall_of (cmp_pc Y _ b.score a.score) ?_
 simp only [go_sem, sdPV, sdCells]
 refine GCall_of (cmp_pc Y _ b.points a.points) ?_
 simp only [go_sem, sdPV, sdCells]
 refine GCall_of (cmp_pc Y _ a.song b.song) ?_
 simp only [go_sem, sdPV, sdCells]
 refine GCall_of (or_pc Y _ [cmpI b.score a.score, cmpI b.points a.points, cmpI a.song b.song] .exact (by simp)) ?_
 simp only [go_sem, sdPV, sdCells]
 try refine And.intro (by repeat' (first | refine And.intro ?_ ?_ | exact GOr_right (fun _ => by simp only [go_sem, sdPV, sdCells]))) ?_
 refine hR _ _ (K2 _ _ ?_); clear hR R; try clear K2 Z2
 try simp only [go_sem, sdPV, sdCells]
 refine W_ret ?_
 simp only [go_sem, sdPV, sdCells]
 refine ⟨.inr (by trivial), ?_⟩
 first | refine Fsa hcl rfl ?_ | refine Fse hcl rfl ?_
 try simp only [go_sem]
 all_goals
  first | rfl | simp [aheadS]
structure Tally where
 rd : Rnd
 songs : List Int
 pts : Nat → Int
 vts : Nat → Int
 m : List (Voice × Int)
def tlCells (id : Nat) (t : Tally) : List PV := [I t.rd.keep, I t.rd.jury, I t.rd.member, ints t.songs, I (t.pts 0), I (t.pts 1), I (t.pts 2), I (t.pts 3), I (t.pts 4), I (t.pts 5), I (t.pts 6), I (t.pts 7), I (t.vts 0), I (t.vts 1), I (t.vts 2), I (t.vts 3), I (t.vts 4), I (t.vts 5), I (t.vts 6), I (t.vts 7), .map id]
def tlPV (id : Nat) (t : Tally) : PV := .agg (tlCells id t)
def upd (f : Nat → Int) (k : Nat) (v : Int) : Nat → Int := fun s => if s = k then v else f s
theorem tl_pts {id : Nat} {t : Tally} : ∀ {s : Nat}, s < 8 → (tlCells id t)[4 + s]? = some (I (t.pts s))
 | 0, _ => rfl
 | 1, _ => rfl
 | 2, _ => rfl
 | 3, _ => rfl
 | 4, _ => rfl
 | 5, _ => rfl
 | 6, _ => rfl
 | 7, _ => rfl
 | n + 8, h => absurd h (by omega)
theorem tl_vts {id : Nat} {t : Tally} : ∀ {s : Nat}, s < 8 → (tlCells id t)[12 + s]? = some (I (t.vts s))
 | 0, _ => rfl
 | 1, _ => rfl
 | 2, _ => rfl
 | 3, _ => rfl
 | 4, _ => rfl
 | 5, _ => rfl
 | 6, _ => rfl
 | 7, _ => rfl
 | n + 8, h => absurd h (by omega)
theorem tl_map {id : Nat} {t : Tally} : (tlCells id t)[20]? = some (.map id) := rfl
theorem tl_songs {id : Nat} {t : Tally} : (tlCells id t)[3]? = some (ints t.songs) := rfl
theorem tl_keep {id : Nat} {t : Tally} : (tlCells id t)[0]? = some (I t.rd.keep) := rfl
theorem tl_len {id : Nat} {t : Tally} : (tlCells id t).length = 21 := rfl
theorem tl_setP {id : Nat} {t : Tally} : ∀ {s : Nat}, s < 8 → ∀ v : Int, (tlCells id t).set (4 + s) (I v) = tlCells id { t with pts := upd t.pts s v }
 | 0, _, _ => rfl
 | 1, _, _ => rfl
 | 2, _, _ => rfl
 | 3, _, _ => rfl
 | 4, _, _ => rfl
 | 5, _, _ => rfl
 | 6, _, _ => rfl
 | 7, _, _ => rfl
 | n + 8, h, _ => absurd h (by omega)
theorem tl_setV {id : Nat} {t : Tally} : ∀ {s : Nat}, s < 8 → ∀ v : Int, (tlCells id t).set (12 + s) (I v) = tlCells id { t with vts := upd t.vts s v }
 | 0, _, _ => rfl
 | 1, _, _ => rfl
 | 2, _, _ => rfl
 | 3, _, _ => rfl
 | 4, _, _ => rfl
 | 5, _, _ => rfl
 | 6, _, _ => rfl
 | 7, _, _ => rfl
 | n + 8, h, _ => absurd h (by omega)
theorem cleans_tl {a b c id : Nat} (t : Tally) (hid : id < a) : CleanAll a b c (tlCells id t) := by
 intro p hp
 simp only [tlCells, List.mem_cons, List.not_mem_nil, or_false] at hp
 repeat' (first | (rcases hp with rfl | hp; first | exact .int _ _ | exact clean_ints _) | (subst hp; exact .mapv _ hid))
theorem clean_tl {a b c id : Nat} (t : Tally) (hid : id < a) : Clean a b c (tlPV id t) := .agg _ (cleans_tl t hid)
theorem mapE_len {κ ν : Type} {ek : κ → PV} {ev : ν → PV} {l : List (κ × ν)} : (mapE ek ev l).length = l.length := by simp [mapE]
theorem mapE_get {κ ν : Type} {ek : κ → PV} {ev : ν → PV} {l : List (κ × ν)} {j : Nat} {k u : PV} (h : (mapE ek ev l)[j]? = some (.tuple [k, u])) : ∃ e, l[j]? = some e ∧ k = ek e.1 ∧ u = ev e.2 := by
 unfold mapE at h
 rw [List.getElem?_map] at h
 cases he : l[j]? with
 | none => rw [he] at h; cases h
 | some e =>
  rw [he] at h
  simp only [Option.map_some, Option.some.injEq, PV.tuple.injEq, List.cons.injEq, and_true] at h
  exact ⟨e, rfl, h.1.symm, h.2.symm⟩
theorem mapE_at {κ ν : Type} {ek : κ → PV} {ev : ν → PV} {l : List (κ × ν)} {j : Nat} {e : κ × ν} (h : l[j]? = some e) : (mapE ek ev l)[j]? = some (.tuple [ek e.1, ev e.2]) := by
 unfold mapE
 rw [List.getElem?_map, h]; rfl
theorem it_ext {σ : Sg} {l : List (Option (List PV))} {rm : List Nat} {ys : List LState} {j k n : Nat} {seen : List Nat} {es : List PV} (h1 : l[j]? = some (some [.itst (σ.store.length + k) n seen])) (h2 : l[k]? = some (some (.mark :: es))) (h3 : es.length = n) :
 iterAt (σ.ext l rm ys) (.iter (σ.store.length + j)) = some (σ.store.length + j, σ.store.length + k, seen, es) := by
 simp only [iterAt, Sg.get_ext, h1, h2, h3, if_true]
theorem rg78 {σ : Sg} {id : Nat} : rangePV Tryz.prog σ 86 (.map id) = match σ.store[id]? with
 | some (some (.mark :: es)) => some (.iter σ.store.length, σ.push [.itst id es.length []])
 | _ => none := by
 simp only [rangePV, Tryz.underlying86]
 rfl
theorem Cl_iter {a b c id : Nat} : Clean a b c (.iter id) = (id < a) := propext ⟨fun h => by cases h; assumption, fun h => .iter _ h⟩
theorem Cl_itst {a b c mid n : Nat} {s : List Nat} : Clean a b c (.itst mid n s) = (mid < a) := propext ⟨fun h => by cases h; assumption, fun h => .itst _ _ _ h⟩
theorem cA_tl {a b c id : Nat} {t : Tally} : CleanAll a b c (tlCells id t) = (id < a) := propext ⟨fun h => by have := h (.map id) (by simp [tlCells]); cases this; assumption, cleans_tl t⟩
theorem C_tl {a b c id : Nat} {t : Tally} : Clean a b c (tlPV id t) = (id < a) := propext ⟨fun h => by cases h; rename_i h; exact cA_tl.mp h, clean_tl t⟩
attribute [go_sem] cA_tl C_tl
theorem cells_map {id : Nat} : (PV.map id).cells = [.map id] := rfl
attribute [go_sem] cells_map rg78 Cl_iter Cl_itst mapE_len
def keyOf (b : Ballot) : Voice := (b.kind, b.voter, if b.kind = 2 then -1 else b.song)
def isIn (rd : Int) (songs : List Int) (b : Ballot) : Bool := decide (b.round = rd) && has songs b.song
/-- Does the ballot at a place beat the one that is there? -/
def first (l : List Ballot) (m : List (Voice × Int)) (b : Ballot) : Bool :=
 match aget (keyOf b) m with
 | none => true
 | some k => match l[k.toNat]? with
  | none => true
  | some o => decide (b.serial < o.serial)
def vstep (rd : Int) (songs : List Int) (l : List Ballot) (m : List (Voice × Int)) (i : Nat) (b : Ballot) : List (Voice × Int) :=
 if isIn rd songs b && first l m b then aput (keyOf b) (i : Int) m else m
def voices (rd : Int) (songs : List Int) (l : List Ballot) : Nat → List (Voice × Int)
 | 0 => []
 | i + 1 => match l[i]? with
  | some b => vstep rd songs l (voices rd songs l i) i b
  | none => voices rd songs l i
/-- Each place in the map is that of a ballot that counts in the round, under its key. -/
def PlOk (rd : Int) (songs : List Int) (l : List Ballot) (i : Nat) (m : List (Voice × Int)) : Prop :=
 ∀ e, e ∈ m → ∃ (k : Nat) (b : Ballot), e.2 = k ∧ k < i ∧ l[k]? = some b ∧ e.1 = keyOf b ∧ isIn rd songs b = true
theorem mem_aput {k : Voice} {v : Int} : ∀ {m : List (Voice × Int)} {e : Voice × Int}, e ∈ aput k v m → e = (k, v) ∨ e ∈ m := by
 intro m
 induction m with
 | nil => intro e h; simp only [aput, List.mem_singleton] at h; exact .inl h
 | cons q m ih =>
  intro e h
  simp only [aput] at h
  split at h
  ·rcases List.mem_cons.1 h with h | h
   ·exact .inl h
   exact .inr (by simp [h])
  rcases List.mem_cons.1 h with h | h
  ·exact .inr (by simp [h])
  rcases ih h with h | h
  ·exact .inl h
  exact .inr (by simp [h])
theorem voices_ok (rd : Int) (songs : List Int) (l : List Ballot) : ∀ i, PlOk rd songs l i (voices rd songs l i) := by
 intro i
 induction i with
 | zero => intro e h; cases h
 | succ i ih =>
  have up : ∀ e, e ∈ voices rd songs l i → ∃ (k : Nat) (b : Ballot), e.2 = k ∧ k < i + 1 ∧ l[k]? = some b ∧ e.1 = keyOf b ∧ isIn rd songs b = true := fun e h => by
   obtain ⟨k, b, h1, h2, h3⟩ := ih e h
   exact ⟨k, b, h1, by omega, h3⟩
  simp only [voices]
  split
  ·rename_i b hb
   unfold vstep
   split
   ·rename_i hc
    simp only [Bool.and_eq_true] at hc
    intro e h
    rcases mem_aput h with rfl | h
    ·exact ⟨i, b, rfl, by omega, hb, rfl, hc.1⟩
    exact up e h
   exact up
  exact up
def entB (l : List Ballot) (m : List (Voice × Int)) (j : Nat) : Option Ballot := m[j]?.bind fun e => l[e.2.toNat]?
def cpB (s : Nat) (b : Ballot) : Int := if b.kind ≠ 2 ∧ b.song = s then b.points else 0
def cvB (s : Nat) (b : Ballot) : Int := if b.kind = 2 ∧ b.song = s then 1 else 0
def optB (f : Ballot → Int) : Option Ballot → Int
 | some b => f b
 | none => 0
def sumB (f : Ballot → Int) (l : List Ballot) (m : List (Voice × Int)) (js : List Nat) : Int := (js.map fun j => optB f (entB l m j)).sum
/-- What all songs get. -/
def sumR (f : Nat → Ballot → Int) (l : List Ballot) (m : List (Voice × Int)) (js : List Nat) : Nat → Int := fun s => sumB (f s) l m js
theorem sumB_snoc {f : Ballot → Int} {l : List Ballot} {m : List (Voice × Int)} {js : List Nat} {j : Nat} {b : Ballot} (hb : entB l m j = some b) : sumB f l m (js ++ [j]) = sumB f l m js + f b := by simp [sumB, hb, optB]
theorem sumR_same {f : Nat → Ballot → Int} {l : List Ballot} {m : List (Voice × Int)} {js : List Nat} {j : Nat} {b : Ballot} (hb : entB l m j = some b) (h : ∀ s, f s b = 0) : sumR f l m (js ++ [j]) = sumR f l m js := by
 funext s
 unfold sumR
 rw [sumB_snoc hb, h, Int.add_zero]
theorem sumR_hit {f : Nat → Ballot → Int} {l : List Ballot} {m : List (Voice × Int)} {js : List Nat} {j : Nat} {b : Ballot} (hb : entB l m j = some b) {k : Nat} {v : Int} (h : ∀ s, f s b = if s = k then v else 0) : sumR f l m (js ++ [j]) = upd (sumR f l m js) k (sumR f l m js k + v) := by
 funext s
 unfold sumR upd
 rw [sumB_snoc hb, h]
 by_cases e : s = k
 ·rw [if_pos e, if_pos e, e]
 rw [if_neg e, if_neg e, Int.add_zero]
theorem sum_perm {α : Type} {g : α → Int} {a b : List α} (h : a.Perm b) : (a.map g).sum = (b.map g).sum := by
 induction h with
 | nil => rfl
 | cons x _ ih => simp [ih]
 | swap x y l => simp; omega
 | trans _ _ h1 h2 => rw [h1, h2]
theorem perm_range {js : List Nat} {n : Nat} (h1 : js.Nodup) (h2 : ∀ j, j ∈ js → j < n) (h3 : ∀ j, j < n → j ∈ js) : js.Perm (List.range n) := by
 rw [List.perm_iff_count]
 intro a
 rw [List.Nodup.count h1, List.Nodup.count List.nodup_range]
 simp only [List.mem_range]
 by_cases ha : a < n
 ·rw [if_pos (h3 a ha), if_pos ha]
 rw [if_neg (fun q => ha (h2 a q)), if_neg ha]
theorem sumR_all {f : Nat → Ballot → Int} {l : List Ballot} {m : List (Voice × Int)} {js : List Nat} {n : Nat} (h1 : js.Nodup) (h2 : ∀ j, j ∈ js → j < n) (h3 : ∀ j, j < n → j ∈ js) : sumR f l m js = sumR f l m (List.range n) := by
 funext s
 unfold sumR sumB
 exact sum_perm (perm_range h1 h2 h3)
theorem nodup_len : ∀ {n : Nat} {js : List Nat}, js.Nodup → (∀ j, j ∈ js → j < n) → js.length ≤ n := by
 intro n
 induction n with
 | zero =>
  intro js _ h
  cases js with
  | nil => exact Nat.le_refl _
  | cons j js => exact absurd (h j (by simp)) (by omega)
 | succ n ih =>
  intro js h1 h2
  have g := ih (js := js.erase n) (h1.erase n) (fun j hj => by
   have e := (h1.mem_erase_iff).1 hj
   have := h2 j e.2
   have := e.1
   omega)
  have := List.length_erase (l := js) (a := n)
  split at this <;> omega
theorem sumB_bd {f : Ballot → Int} {l : List Ballot} {m : List (Voice × Int)} {c : Int} (hc : 0 ≤ c) (hf : ∀ b, b ∈ l → 0 ≤ f b ∧ f b ≤ c) : ∀ js : List Nat, 0 ≤ sumB f l m js ∧ sumB f l m js ≤ c * js.length := by
 intro js
 induction js with
 | nil => simp [sumB]
 | cons j js ih =>
  have e : sumB f l m (j :: js) = optB f (entB l m j) + sumB f l m js := by simp [sumB]
  have h : 0 ≤ optB f (entB l m j) ∧ optB f (entB l m j) ≤ c := by
   unfold entB
   cases hm : m[j]? with
   | none => simp [optB]; exact hc
   | some p =>
    simp only [Option.bind_some]
    cases hl : l[p.2.toNat]? with
    | none => simp [optB]; exact hc
    | some b => exact hf b (List.mem_of_getElem? hl)
  rw [e, List.length_cons, show ((js.length + 1 : Nat) : Int) = js.length + 1 by omega, Int.mul_add, Int.mul_one]
  omega
theorem aput_len {k : Voice} {v : Int} : ∀ m : List (Voice × Int), (aput k v m).length ≤ m.length + 1 := by
 intro m
 induction m with
 | nil => simp [aput]
 | cons e m ih =>
  simp only [aput]
  split
  ·simp
  simp only [List.length_cons]; omega
theorem voices_len (rd : Int) (songs : List Int) (l : List Ballot) : ∀ i, (voices rd songs l i).length ≤ i := by
 intro i
 induction i with
 | zero => simp [voices]
 | succ i ih =>
  simp only [voices]
  split
  ·unfold vstep
   split
   ·exact Nat.le_trans (aput_len _) (by omega)
   omega
  omega
/-- A round counted. -/
def countT (r : Rnd) (rd : Int) (songs : List Int) (l : List Ballot) : Tally :=
 let m := voices rd songs l l.length
 ⟨r, songs, sumR cpB l m (List.range m.length), sumR cvB l m (List.range m.length), m⟩
structure BlV (c : Contest) (b : Ballot) : Prop where
 sr : 1 ≤ b.serial ∧ b.serial ≤ 1000000000
 rd : 0 ≤ b.round ∧ b.round < c.rounds.length
 kd : b.kind = 1 ∨ b.kind = 2
 vt : 0 ≤ b.voter ∧ b.voter < if b.kind = 2 then c.members else c.juries
 sg : 0 ≤ b.song ∧ b.song < c.songs
 pt : 0 ≤ b.points ∧ b.points ≤ if b.kind = 2 then 0 else c.most
theorem unl_zero {b : Bool} {e : Int} (he : e ≠ 0) (h : unl b e = 0) : b = true := by
 unfold unl at h
 cases b
 ·exact absurd h he
 rfl
theorem blV_of {c : Contest} {b : Ballot} (hs : inR b.serial 1 1000000000 = true) (h : chkBl c b = 0) : BlV c b := by
 simp only [chkBl, blEs, firstE] at h
 split at h
 ·rename_i q; exact absurd h q
 rename_i h1
 split at h
 ·rename_i q; exact absurd h q
 rename_i h2
 split at h
 ·rename_i q; exact absurd h q
 rename_i h3
 split at h
 ·rename_i q; exact absurd h q
 rename_i h4
 split at h
 ·rename_i q; exact absurd h q
 rename_i h5
 simp only [ne_eq, Classical.not_not] at h1 h2 h3 h4 h5
 have g1 := inR_true.1 (unl_zero (by decide) h1)
 have g2 := inR_true.1 (unl_zero (by decide) h2)
 have g3 := inR_true.1 (unl_zero (by decide) h3)
 have g4 := inR_true.1 (unl_zero (by decide) h4)
 refine ⟨inR_true.1 hs, by omega, by omega, ⟨g3.1, by have := g3.2; omega⟩, by omega, ?_⟩
 unfold bl5 at h5
 split at h5
 ·rename_i hk
  have g5 := unl_zero (by decide) h5
  simp only [beq_iff_eq] at g5
  rw [g5, if_pos hk]; omega
 rename_i hk
 have g5 := inR_true.1 (unl_zero (by decide) h5)
 rw [if_neg hk]; exact g5
theorem blsF_of {c : Contest} : ∀ {l : List Ballot} {p : List Int}, chkBlsF c p l = 0 → p.Nodup → (∀ b, b ∈ l → BlV c b) ∧ (p ++ l.map (·.serial)).Nodup := by
 intro l
 induction l with
 | nil => intro p _ hp; exact ⟨fun b h => absurd h (by simp), by simpa using hp⟩
 | cons b l ih =>
  intro p h hp
  simp only [chkBlsF] at h
  split at h
  ·cases h
  rename_i h1
  split at h
  ·cases h
  rename_i h2
  split at h
  ·rename_i h3; exact absurd h h3
  rename_i h3
  simp only [ne_eq, Classical.not_not] at h3
  have hn : (p ++ [b.serial]).Nodup := by
   rw [List.nodup_append]
   refine ⟨hp, by simp, fun x hx y hy => ?_⟩
   simp only [List.mem_singleton] at hy
   subst hy
   intro e
   subst e
   exact h2 (has_iff.2 hx)
  obtain ⟨g1, g2⟩ := ih h hn
  refine ⟨fun x hx => ?_, by simpa using g2⟩
  rcases List.mem_cons.1 hx with rfl | hx
  ·exact blV_of (by simpa using h1) h3
  exact g1 x hx
theorem blsV_of {c : Contest} {l : List Ballot} (h : chkBls c l = 0) : CnV c ∧ l.length ≤ 300 ∧ (∀ b, b ∈ l → BlV c b) ∧ (l.map (·.serial)).Nodup := by
 unfold chkBls at h
 split at h
 ·rename_i q; exact absurd h q
 rename_i h1
 simp only [ne_eq, Classical.not_not] at h1
 split at h
 ·cases h
 rename_i h2
 obtain ⟨g1, g2⟩ := blsF_of h (by simp)
 exact ⟨cnV_of h1, by omega, g1, by simpa using g2⟩
/-- The numbers from 0. -/
def toI (n : Int) : List Int := (List.range n.toNat).map fun (i : Nat) => (i : Int)
/-- One standing sinks to its place. -/
def sink : Nat → List Std → List Std
 | 0, l => l
 | j + 1, l => match l[j + 1]?, l[j]? with
  | some x, some y => if aheadS x y < 0 then sink j ((l.set (j + 1) y).set j x) else l
  | _, _ => l
def sinkAll : Nat → Nat → List Std → List Std
 | 0, _, l => l
 | k + 1, i, l => sinkAll k (i + 1) (sink i l)
def sortSd (l : List Std) : List Std := sinkAll (l.length - 1) 1 l
/-- The standing of a song, with more points and votes. -/
def stdT (t : Tally) (s p v : Int) : Std := weighS ⟨s, t.pts s.toNat + p, t.vts s.toNat + v, 0⟩ t.rd
def allT (t : Tally) : List Std := t.songs.map fun s => stdT t s 0 0
def keptS (n : Nat) (l : List Std) : List Int := sortI (((sortSd l).take n).map (·.song))
def resT (t : Tally) : Res := ⟨t.songs, (allT t).map (·.points), (allT t).map (·.votes), (allT t).map (·.score), keptS t.rd.keep.toNat (allT t)⟩
/-- The rounds counted, each with the songs that the one before keeps. -/
def rdsT (l : List Ballot) : List Rnd → Nat → List Int → List Tally
 | [], _, _ => []
 | r :: rs, i, songs => countT r i songs l :: rdsT l rs (i + 1) (resT (countT r i songs l)).kept
def roundsT (c : Contest) (l : List Ballot) : List Tally := rdsT l c.rounds 0 (toI c.songs)
def resultsT (c : Contest) (l : List Ballot) : List Res := (roundsT c l).map resT
def winnerT (c : Contest) (l : List Ballot) : Int := match (resultsT c l).getLast? with
 | some r => r.kept.headD 0
 | none => 0
def runD (c : Contest) (l : List Ballot) : List Res × Int × Int := if chkBls c l ≠ 0 then ([], 0, chkBls c l) else (resultsT c l, winnerT c l, 0)
theorem rdsT_len {l : List Ballot} : ∀ {rs : List Rnd} {i : Nat} {s : List Int}, (rdsT l rs i s).length = rs.length := by
 intro rs
 induction rs with
 | nil => intro i s; rfl
 | cons r rs ih => intro i s; simp [rdsT, ih]
theorem mem_set2 {α : Type} {l : List α} {i j : Nat} {x y z : α} (hx : l[i]? = some x) (hy : l[j]? = some y) (h : z ∈ (l.set i y).set j x) : z ∈ l := by
 rcases List.mem_or_eq_of_mem_set h with h | h
 ·rcases List.mem_or_eq_of_mem_set h with h | h
  ·exact h
  exact h ▸ List.mem_of_getElem? hy
 exact h ▸ List.mem_of_getElem? hx
theorem swap_perm {α : Type} : ∀ {l : List α} {j : Nat} {x y : α}, l[j + 1]? = some x → l[j]? = some y → ((l.set (j + 1) y).set j x).Perm l := by
 intro l
 induction l with
 | nil => intro j x y h; simp at h
 | cons a l ih =>
  intro j x y hx hy
  cases j with
  | zero =>
   cases l with
   | nil => simp at hx
   | cons b l =>
    simp only [List.getElem?_cons_zero, List.getElem?_cons_succ, Option.some.injEq] at hx hy
    subst hx hy
    simp only [List.set_cons_succ, List.set_cons_zero]
    exact List.Perm.swap _ _ _
  | succ j =>
   simp only [List.getElem?_cons_succ] at hx hy
   simp only [List.set_cons_succ]
   exact List.Perm.cons _ (ih hx hy)
theorem sink_perm : ∀ (j : Nat) (l : List Std), (sink j l).Perm l := by
 intro j
 induction j with
 | zero => intro l; exact List.Perm.refl _
 | succ j ih =>
  intro l
  simp only [sink]
  split
  ·rename_i x y hx hy
   split
   ·exact (ih _).trans (swap_perm hx hy)
   exact List.Perm.refl _
  exact List.Perm.refl _
theorem sinkAll_perm : ∀ (k i : Nat) (l : List Std), (sinkAll k i l).Perm l := by
 intro k
 induction k with
 | zero => intro i l; exact List.Perm.refl _
 | succ k ih => intro i l; exact (ih _ _).trans (sink_perm _ _)
theorem sortSd_perm (l : List Std) : (sortSd l).Perm l := sinkAll_perm _ _ _
theorem sortSd_len (l : List Std) : (sortSd l).length = l.length := (sortSd_perm l).length_eq
theorem allT_len {t : Tally} : (allT t).length = t.songs.length := by simp [allT]
theorem kept_len {n : Nat} {l : List Std} (h : n ≤ l.length) : (keptS n l).length = n := by
 unfold keptS
 rw [sortI_len, List.length_map, List.length_take, sortSd_len]; omega
/-- Does a ballot count in a round of some songs? -/
def cntB (l : List Ballot) (rd : Int) (songs : List Int) (b : Ballot) : Bool := isIn rd songs b && l.all fun x => !(decide (keyOf x = keyOf b) && isIn rd songs x && decide (x.serial < b.serial))
theorem aput_keys {k : Voice} {v : Int} : ∀ {m : List (Voice × Int)}, (aput k v m).map (·.1) = if aget k m = none then m.map (·.1) ++ [k] else m.map (·.1) := by
 intro m
 induction m with
 | nil => rfl
 | cons e m ih =>
  by_cases h : k = e.1
  ·have h1 : aget k (e :: m) = some e.2 := by simp only [aget]; rw [if_pos h]
   have h2 : aput k v (e :: m) = (k, v) :: m := by simp only [aput]; rw [if_pos h]
   rw [h1, h2, if_neg (by simp)]
   simp [h]
  have h1 : aget k (e :: m) = aget k m := by simp only [aget]; rw [if_neg h]
  have h2 : aput k v (e :: m) = e :: aput k v m := by simp only [aput]; rw [if_neg h]
  rw [h1, h2, List.map_cons, ih]
  split <;> simp
theorem aput_nodup {k : Voice} {v : Int} {m : List (Voice × Int)} (h : (m.map (·.1)).Nodup) : ((aput k v m).map (·.1)).Nodup := by
 rw [aput_keys]
 split
 ·rename_i hn
  rw [List.nodup_append]
  refine ⟨h, by simp, fun x hx y hy => ?_⟩
  simp only [List.mem_singleton] at hy
  subst hy
  obtain ⟨e, he, rfl⟩ := List.mem_map.1 hx
  exact aget_none.1 hn e he
 exact h
theorem aget_of_mem {e : Voice × Int} : ∀ {m : List (Voice × Int)}, (m.map (·.1)).Nodup → e ∈ m → aget e.1 m = some e.2 := by
 intro m
 induction m with
 | nil => intro _ h; cases h
 | cons q m ih =>
  intro hn h
  simp only [List.map_cons, List.nodup_cons] at hn
  simp only [aget]
  rcases List.mem_cons.1 h with rfl | h
  ·rw [if_pos rfl]
  rw [if_neg, ih hn.2 h]
  intro hk
  exact hn.1 (hk ▸ List.mem_map.2 ⟨e, h, rfl⟩)
theorem mem_aput2 {k : Voice} {v : Int} {m : List (Voice × Int)} {e : Voice × Int} (hn : (m.map (·.1)).Nodup) (h : e ∈ aput k v m) : e = (k, v) ∨ (e ∈ m ∧ e.1 ≠ k) := by
 have h1 := aget_of_mem (aput_nodup hn) h
 rw [aget_put] at h1
 split at h1
 ·rename_i hk
  injection h1 with h1
  left
  obtain ⟨a, b⟩ := e
  simp only at hk h1
  rw [hk, h1]
 rename_i hk
 exact .inr ⟨aget_mem h1, hk⟩
structure VSpec (rd : Int) (songs : List Int) (l : List Ballot) (i : Nat) (m : List (Voice × Int)) : Prop where
 nd : (m.map (·.1)).Nodup
 en : ∀ e, e ∈ m → ∃ (k : Nat) (b : Ballot), e.2 = k ∧ k < i ∧ l[k]? = some b ∧ e.1 = keyOf b ∧ isIn rd songs b = true ∧ ∀ (k' : Nat) (b' : Ballot), k' < i → l[k']? = some b' → isIn rd songs b' = true → keyOf b' = keyOf b → b.serial ≤ b'.serial
 al : ∀ (k : Nat) (b : Ballot), k < i → l[k]? = some b → isIn rd songs b = true → aget (keyOf b) m ≠ none
theorem voices_spec (rd : Int) (songs : List Int) (l : List Ballot) : ∀ i, VSpec rd songs l i (voices rd songs l i) := by
 intro i
 induction i with
 | zero => exact ⟨by simp [voices], fun e h => absurd h (by simp [voices]), fun k b h => absurd h (by omega)⟩
 | succ i ih =>
  simp only [voices]
  split
  ·rename_i b hb
   unfold vstep
   split
   ·rename_i hc
    simp only [Bool.and_eq_true] at hc
    obtain ⟨hin, hf⟩ := hc
    refine ⟨aput_nodup ih.nd, fun e he => ?_, fun k x hk hx hxi => ?_⟩
    ·rcases mem_aput2 ih.nd he with rfl | ⟨he, hne⟩
     ·refine ⟨i, b, rfl, by omega, hb, rfl, hin, fun k' b' hk' hb' hi' hkey => ?_⟩
      by_cases e : k' = i
      ·subst e; rw [hb] at hb'; injection hb' with hb'; subst hb'; exact Int.le_refl _
      have hk2 : k' < i := by omega
      have hsome := ih.al k' b' hk2 hb' hi'
      rw [hkey] at hsome
      cases hg : aget (keyOf b) (voices rd songs l i) with
      | none => exact absurd hg hsome
      | some v =>
       obtain ⟨k, o, h1, h2, h3, h4, h5, h6⟩ := ih.en _ (aget_mem hg)
       simp only at h1 h4
       subst h1
       have hs : b.serial < o.serial := by
        unfold first at hf
        rw [hg] at hf
        simp only [Int.toNat_natCast, h3, decide_eq_true_eq] at hf
        exact hf
       have := h6 k' b' hk2 hb' hi' (by rw [hkey]; exact h4)
       omega
     obtain ⟨k, o, h1, h2, h3, h4, h5, h6⟩ := ih.en _ he
     refine ⟨k, o, h1, by omega, h3, h4, h5, fun k' b' hk' hb' hi' hkey => ?_⟩
     by_cases e : k' = i
     ·subst e; rw [hb] at hb'; injection hb' with hb'; subst hb'
      exact absurd (h4.trans hkey.symm) hne
     exact h6 k' b' (by omega) hb' hi' hkey
    rw [aget_put]
    split
    ·simp
    rename_i hne
    by_cases e : k = i
    ·subst e; rw [hb] at hx; injection hx with hx; subst hx; exact absurd rfl hne
    exact ih.al k x (by omega) hx hxi
   rename_i hc
   refine ⟨ih.nd, fun e he => ?_, fun k x hk hx hxi => ?_⟩
   ·obtain ⟨k, o, h1, h2, h3, h4, h5, h6⟩ := ih.en _ he
    refine ⟨k, o, h1, by omega, h3, h4, h5, fun k' b' hk' hb' hi' hkey => ?_⟩
    by_cases q : k' = i
    ·subst q; rw [hb] at hb'; injection hb' with hb'; subst hb'
     have hg := aget_of_mem ih.nd he
     rw [h4, ← hkey] at hg
     have hf : first l (voices rd songs l k') b = false := by
      cases h : first l (voices rd songs l k') b with
      | false => rfl
      | true => exact absurd (by rw [hi', h]; rfl) hc
     unfold first at hf
     rw [hg] at hf
     simp only [h1, Int.toNat_natCast, h3, decide_eq_false_iff_not] at hf
     omega
    exact h6 k' b' (by omega) hb' hi' hkey
   by_cases e : k = i
   ·subst e; rw [hb] at hx; injection hx with hx; subst hx
    intro hg
    refine hc ?_
    rw [hxi]
    unfold first
    rw [hg]; rfl
   exact ih.al k x (by omega) hx hxi
  rename_i hb
  refine ⟨ih.nd, fun e he => ?_, fun k x hk hx hxi => ?_⟩
  ·obtain ⟨k, o, h1, h2, h3, h4, h5, h6⟩ := ih.en _ he
   refine ⟨k, o, h1, by omega, h3, h4, h5, fun k' b' hk' hb' hi' hkey => ?_⟩
   by_cases q : k' = i
   ·subst q; rw [hb] at hb'; cases hb'
   exact h6 k' b' (by omega) hb' hi' hkey
  by_cases e : k = i
  ·subst e; rw [hb] at hx; cases hx
  exact ih.al k x (by omega) hx hxi
/-- The ballots of a map. -/
def balOf (l : List Ballot) (m : List (Voice × Int)) : List Ballot := m.filterMap fun e => l[e.2.toNat]?
theorem sumB_bal {f : Ballot → Int} {l : List Ballot} {m : List (Voice × Int)} : sumB f l m (List.range m.length) = ((balOf l m).map f).sum := by
 have e : (List.range m.length).map (fun j => optB f (entB l m j)) = m.map fun e => optB f (l[e.2.toNat]?) := by
  apply List.ext_getElem?
  intro j
  simp only [List.getElem?_map]
  by_cases hj : j < m.length
  ·rw [List.getElem?_range hj]
   simp [entB, hj]
  rw [List.getElem?_eq_none (by simp; omega), List.getElem?_eq_none (by omega)]; rfl
 unfold sumB
 rw [e]
 unfold balOf
 clear e
 induction m with
 | nil => rfl
 | cons e m ih =>
  rw [List.map_cons, List.sum_cons, ih, List.filterMap_cons]
  cases l[e.2.toNat]? with
  | none => simp [optB]
  | some b => simp [optB]
theorem serial_inj {l : List Ballot} (h : (l.map (·.serial)).Nodup) {a b : Ballot} (ha : a ∈ l) (hb : b ∈ l) (e : a.serial = b.serial) : a = b := by
 induction l with
 | nil => cases ha
 | cons x l ih =>
  simp only [List.map_cons, List.nodup_cons] at h
  rcases List.mem_cons.1 ha with h1 | h1
  ·rcases List.mem_cons.1 hb with h2 | h2
   ·rw [h1, h2]
   exact absurd (List.mem_map.2 ⟨b, h2, by rw [← e, h1]⟩) h.1
  rcases List.mem_cons.1 hb with h2 | h2
  ·exact absurd (List.mem_map.2 ⟨a, h1, by rw [e, h2]⟩) h.1
  exact ih h.2 h1 h2
theorem nodup_of_map {α β : Type} {f : α → β} {l : List α} (h : (l.map f).Nodup) : l.Nodup := by
 rw [List.nodup_iff_pairwise_ne, List.pairwise_map] at h
 rw [List.nodup_iff_pairwise_ne]
 exact h.imp fun hn e => hn (by rw [e])
theorem mem_bal {rd : Int} {songs : List Int} {l : List Ballot} (hs : (l.map (·.serial)).Nodup) (b : Ballot) : b ∈ balOf l (voices rd songs l l.length) ↔ b ∈ l.filter (cntB l rd songs) := by
 have sp := voices_spec rd songs l l.length
 constructor
 ·intro h
  obtain ⟨e, he, hb⟩ := List.mem_filterMap.1 h
  obtain ⟨k, o, h1, h2, h3, h4, h5, h6⟩ := sp.en e he
  rw [h1, Int.toNat_natCast, h3] at hb
  injection hb with hb
  subst hb
  refine List.mem_filter.2 ⟨List.mem_of_getElem? h3, ?_⟩
  simp only [cntB, Bool.and_eq_true, h5, true_and, List.all_eq_true, Bool.not_eq_true', Bool.and_eq_false_iff, decide_eq_false_iff_not]
  intro x hx
  obtain ⟨k', hk', hxk⟩ := List.mem_iff_getElem.1 hx
  by_cases q1 : keyOf x = keyOf o
  ·by_cases q2 : isIn rd songs x = true
   ·right
    have := h6 k' x hk' (by simp [hk', hxk]) q2 q1
    omega
   left; right; simpa using q2
  left; left; exact q1
 intro h
 obtain ⟨hbl, hc⟩ := List.mem_filter.1 h
 simp only [cntB, Bool.and_eq_true, List.all_eq_true, Bool.not_eq_true', Bool.and_eq_false_iff, decide_eq_false_iff_not] at hc
 obtain ⟨hin, hall⟩ := hc
 obtain ⟨k, hk, hbk⟩ := List.mem_iff_getElem.1 hbl
 have hsome := sp.al k b hk (by simp [hk, hbk]) hin
 cases hg : aget (keyOf b) (voices rd songs l l.length) with
 | none => exact absurd hg hsome
 | some v =>
  have hm := aget_mem hg
  obtain ⟨k', o, h1, h2, h3, h4, h5, h6⟩ := sp.en _ hm
  simp only at h1 h4
  have hol := List.mem_of_getElem? h3
  have e1 := h6 k b hk (by simp [hk, hbk]) hin h4
  have e2 : b.serial ≤ o.serial := by
   rcases hall o hol with (q | q) | q
   ·exact absurd h4.symm q
   ·rw [h5] at q; cases q
   omega
  have : b = o := serial_inj hs hbl hol (by omega)
  subst this
  exact List.mem_filterMap.2 ⟨_, hm, by rw [h1, Int.toNat_natCast]; exact h3⟩
theorem bal_perm {rd : Int} {songs : List Int} {l : List Ballot} (hs : (l.map (·.serial)).Nodup) : (balOf l (voices rd songs l l.length)).Perm (l.filter (cntB l rd songs)) := by
 refine (List.perm_ext_iff_of_nodup ?_ ((nodup_of_map hs).sublist List.filter_sublist)).2 (mem_bal hs)
 have sp := voices_spec rd songs l l.length
 refine nodup_of_map (f := keyOf) ?_
 have e : (balOf l (voices rd songs l l.length)).map keyOf = (voices rd songs l l.length).map (·.1) := by
  have hall := sp.en
  generalize voices rd songs l l.length = m at hall
  unfold balOf
  induction m with
  | nil => rfl
  | cons x m ih =>
   obtain ⟨k, o, h1, h2, h3, h4, _⟩ := hall x (by simp)
   rw [List.filterMap_cons, h1, Int.toNat_natCast, h3]
   simp only [List.map_cons, h4]
   rw [ih fun e he => hall e (by simp [he])]
 rw [e]
 exact sp.nd
theorem sumB_cnt {f : Ballot → Int} {rd : Int} {songs : List Int} {l : List Ballot} (hs : (l.map (·.serial)).Nodup) : sumB f l (voices rd songs l l.length) (List.range (voices rd songs l l.length).length) = ((l.filter (cntB l rd songs)).map f).sum := by
 rw [sumB_bal]
 exact sum_perm (bal_perm hs)
def Ahd (a b : Std) : Prop := aheadS a b < 0
instance {a b : Std} : Decidable (Ahd a b) := by unfold Ahd; exact inferInstance
theorem cmpI_lt {a b : Int} (h : a < b) : cmpI a b = -1 := by unfold cmpI; rw [if_pos h]
theorem cmpI_gt {a b : Int} (h : b < a) : cmpI a b = 1 := by unfold cmpI; rw [if_neg (by omega), if_pos h]
theorem cmpI_self {a : Int} : cmpI a a = 0 := by unfold cmpI; rw [if_neg (by omega), if_neg (by omega)]
theorem ahd_iff {a b : Std} : Ahd a b ↔ b.score < a.score ∨ (a.score = b.score ∧ (b.points < a.points ∨ (a.points = b.points ∧ a.song < b.song))) := by
 unfold Ahd aheadS
 rcases Int.lt_trichotomy a.score b.score with h1 | h1 | h1
 ·rw [cmpI_gt h1]; simp [orI]; omega
 ·rw [h1, cmpI_self]
  rcases Int.lt_trichotomy a.points b.points with h2 | h2 | h2
  ·rw [cmpI_gt h2]; simp [orI]; omega
  ·rw [h2, cmpI_self]
   rcases Int.lt_trichotomy a.song b.song with h3 | h3 | h3
   ·rw [cmpI_lt h3]; simp [orI]; omega
   ·rw [h3, cmpI_self]; simp [orI]
   rw [cmpI_gt h3]; simp [orI]; omega
  rw [cmpI_lt h2]; simp [orI]; omega
 rw [cmpI_lt h1]; simp [orI]; omega
theorem Ahd.trans {a b c : Std} (h : Ahd a b) (k : Ahd b c) : Ahd a c := by rw [ahd_iff] at *; omega
theorem Ahd.irrefl {a : Std} : ¬ Ahd a a := by rw [ahd_iff]; omega
theorem Ahd.asymm {a b : Std} (h : Ahd a b) : ¬ Ahd b a := fun k => Ahd.irrefl (h.trans k)
theorem not_ahd {a b : Std} (h : a.song ≠ b.song) (k : ¬ Ahd a b) : Ahd b a := by rw [ahd_iff] at *; omega
theorem notAhd_trans {a b c : Std} (h : ¬ Ahd b a) (k : ¬ Ahd c b) : ¬ Ahd c a := by rw [ahd_iff] at *; omega
theorem sink_len (j : Nat) (l : List Std) : (sink j l).length = l.length := (sink_perm j l).length_eq
/-- The first ones, up to a place, are sorted, but for one that may stand too far behind. -/
def SrtX (l : List Std) (i j : Nat) : Prop := ∀ p q a b, p < q → q ≤ i → q ≠ j → l[p]? = some a → l[q]? = some b → ¬ Ahd b a
def Srt (l : List Std) (i : Nat) : Prop := ∀ p q a b, p < q → q ≤ i → l[p]? = some a → l[q]? = some b → ¬ Ahd b a
theorem sink_srt (i : Nat) : ∀ (j : Nat) (l : List Std), j ≤ i → i < l.length → SrtX l i j → Srt (sink j l) i := by
 intro j
 induction j with
 | zero => intro l _ _ h p q a b hpq hq; exact h p q a b hpq hq (by omega)
 | succ j ih =>
  intro l hj hl h
  obtain ⟨x, hx⟩ : ∃ x, l[j + 1]? = some x := ⟨l[j + 1]'(by omega), by simp⟩
  obtain ⟨y, hy⟩ : ∃ y, l[j]? = some y := ⟨l[j]'(by omega), by simp⟩
  simp only [sink, hx, hy]
  split
  ·rename_i hlt
   refine ih _ (by omega) (by simpa using hl) ?_
   have g : ∀ r, ((l.set (j + 1) y).set j x)[r]? = if r = j then some x else if r = j + 1 then some y else l[r]? := by
    intro r
    by_cases e : r = j
    ·subst e; rw [if_pos rfl, List.getElem?_set_self (by simp; omega)]
    rw [if_neg e, List.getElem?_set_ne (fun h => e h.symm)]
    by_cases e2 : r = j + 1
    ·subst e2; rw [if_pos rfl, List.getElem?_set_self (by omega)]
    rw [if_neg e2, List.getElem?_set_ne (fun h => e2 h.symm)]
   intro p q a b hpq hq hne ha hb
   rw [g] at ha hb
   rw [if_neg hne] at hb
   by_cases e1 : q = j + 1
   ·rw [if_pos e1] at hb
    cases hb
    by_cases e2 : p = j
    ·rw [if_pos e2] at ha
     cases ha
     exact Ahd.asymm hlt
    rw [if_neg e2, if_neg (by omega)] at ha
    exact h p j _ _ (by omega) (by omega) (by omega) ha hy
   rw [if_neg e1] at hb
   by_cases e2 : p = j
   ·rw [if_pos e2] at ha
    cases ha
    exact h (j + 1) q _ _ (by omega) hq (by omega) hx hb
   rw [if_neg e2] at ha
   by_cases e3 : p = j + 1
   ·rw [if_pos e3] at ha
    cases ha
    exact h j q _ _ (by omega) hq (by omega) hy hb
   rw [if_neg e3] at ha
   exact h p q a b hpq hq (by omega) ha hb
  rename_i hnlt
  intro p q a b hpq hq ha hb
  by_cases e : q = j + 1
  ·subst e
   rw [hx] at hb
   cases hb
   by_cases e2 : p = j
   ·subst e2
    rw [hy] at ha
    cases ha
    exact hnlt
   exact notAhd_trans (h p j a y (by omega) (by omega) (by omega) ha hy) hnlt
  exact h p q a b hpq hq e ha hb
theorem sinkAll_srt : ∀ (k i : Nat) (l : List Std), 0 < i → i + k ≤ l.length → Srt l (i - 1) → Srt (sinkAll k i l) (i + k - 1) := by
 intro k
 induction k with
 | zero => intro i l _ _ h; exact h
 | succ k ih =>
  intro i l hi hl h
  simp only [sinkAll]
  have h1 := sink_srt i i l (Nat.le_refl _) (by omega) (fun p q a b hpq hq hne ha hb => h p q a b hpq (by omega) ha hb)
  have h2 := ih (i + 1) (sink i l) (by omega) (by rw [sink_len]; omega) (by rw [Nat.add_sub_cancel]; exact h1)
  rw [show i + (k + 1) - 1 = i + 1 + k - 1 by omega]
  exact h2
theorem sortSd_srt (l : List Std) {p q : Nat} {a b : Std} (hpq : p < q) (ha : (sortSd l)[p]? = some a) (hb : (sortSd l)[q]? = some b) : ¬ Ahd b a := by
 have hq := (List.getElem?_eq_some_iff.1 hb).1
 rw [sortSd_len] at hq
 have := sinkAll_srt (l.length - 1) 1 l (by omega) (by omega) (fun p q a b hpq hq => by omega)
 exact this p q a b hpq (by omega) ha hb
def insZ (x : Int) : List Int → List Int
 | [] => [x]
 | y :: l => if x ≤ y then x :: y :: l else y :: insZ x l
def isortZ : List Int → List Int
 | [] => []
 | x :: l => insZ x (isortZ l)
def Asc (l : List Int) : Prop := l.Pairwise (· ≤ ·)
theorem insZ_perm (x : Int) : ∀ l, (insZ x l).Perm (x :: l) := by
 intro l
 induction l with
 | nil => exact .refl _
 | cons y l ih =>
  simp only [insZ]
  split
  ·exact .refl _
  exact (List.Perm.cons y ih).trans (.swap x y l)
theorem isortZ_perm : ∀ l, (isortZ l).Perm l := by
 intro l
 induction l with
 | nil => exact .refl _
 | cons x l ih => exact (insZ_perm x _).trans (.cons x ih)
theorem insZ_asc (x : Int) : ∀ {l : List Int}, Asc l → Asc (insZ x l) := by
 intro l
 induction l with
 | nil => intro _; simp [insZ, Asc]
 | cons y l ih =>
  intro h
  obtain ⟨h1, h2⟩ := List.pairwise_cons.1 h
  simp only [insZ]
  split
  ·exact List.pairwise_cons.2 ⟨fun z hz => by
    rcases List.mem_cons.1 hz with rfl | hz
    ·assumption
    have := h1 z hz; omega, h⟩
  refine List.pairwise_cons.2 ⟨fun z hz => ?_, ih h2⟩
  rcases List.mem_cons.1 ((insZ_perm x l).mem_iff.1 hz) with rfl | hz
  ·omega
  exact h1 z hz
theorem isortZ_asc : ∀ l, Asc (isortZ l) := by
 intro l
 induction l with
 | nil => exact .nil
 | cons x l ih => exact insZ_asc x ih
theorem asc_perm : ∀ {a b : List Int}, a.Perm b → Asc a → Asc b → a = b := by
 intro a
 induction a with
 | nil => intro b h _ _; exact (List.nil_perm.1 h).symm
 | cons x a ih =>
  intro b h ha hb
  cases b with
  | nil => exact absurd h.length_eq (by simp)
  | cons y b =>
   obtain ⟨a1, a2⟩ := List.pairwise_cons.1 ha
   obtain ⟨b1, b2⟩ := List.pairwise_cons.1 hb
   have e : x = y := by
    have hx : x ∈ y :: b := h.mem_iff.1 (by simp)
    have hy : y ∈ x :: a := h.mem_iff.2 (by simp)
    rcases List.mem_cons.1 hx with rfl | hx
    ·rfl
    rcases List.mem_cons.1 hy with rfl | hy
    ·rfl
    have := a1 y hy; have := b1 x hx; omega
   subst e
   rw [ih (List.Perm.cons_inv h) a2 b2]
theorem sortI_isort (l : List Int) : sortI l = isortZ l := by
 refine asc_perm ((List.mergeSort_perm l _).trans (isortZ_perm l).symm) ?_ (isortZ_asc l)
 have := List.pairwise_mergeSort (le := fun x y : Int => decide (x ≤ y)) (by simp; omega) (by simp; omega) l
 exact this.imp (by simp)
/-- How many are ahead of one. -/
def rank (l : List Std) (x : Std) : Nat := l.countP fun y => decide (Ahd y x)
theorem rank_perm {a b : List Std} (h : a.Perm b) (x : Std) : rank a x = rank b x := h.countP_eq _
theorem rank_at : ∀ {l : List Std} {i : Nat} {x : Std}, l.Pairwise Ahd → l[i]? = some x → rank l x = i := by
 intro l
 induction l with
 | nil => intro i x _ h; simp at h
 | cons y l ih =>
  intro i x hp h
  obtain ⟨h1, h2⟩ := List.pairwise_cons.1 hp
  cases i with
  | zero =>
   simp only [List.getElem?_cons_zero, Option.some.injEq] at h
   subst h
   unfold rank
   rw [List.countP_eq_zero]
   intro z hz
   rcases List.mem_cons.1 hz with rfl | hz
   ·simp [Ahd.irrefl]
   simp [(h1 z hz).asymm]
  | succ i =>
   simp only [List.getElem?_cons_succ] at h
   have := ih h2 h
   unfold rank at this ⊢
   rw [List.countP_cons, this]
   simp [h1 x (List.mem_of_getElem? h)]
theorem sortSd_pw {l : List Std} (h : (l.map (·.song)).Nodup) : (sortSd l).Pairwise Ahd := by
 rw [List.pairwise_iff_getElem]
 intro i j hi hj hij
 have hnd : ((sortSd l).map (·.song)).Nodup := ((sortSd_perm l).map _).nodup_iff.2 h
 refine not_ahd (fun e => ?_) (sortSd_srt (l := l) hij (by simp [hi]) (by simp [hj]))
 have := (List.pairwise_iff_getElem.1 (List.nodup_iff_pairwise_ne.1 hnd)) i j (by simpa using hi) (by simpa using hj) hij
 simp only [List.getElem_map] at this
 exact this e.symm
theorem mem_take_iff {α : Type} {l : List α} {n : Nat} {x : α} : x ∈ l.take n ↔ ∃ i, i < n ∧ l[i]? = some x := by
 rw [List.mem_iff_getElem?]
 constructor
 ·rintro ⟨i, hi⟩
  rw [List.getElem?_take] at hi
  split at hi
  ·rename_i h; exact ⟨i, h, hi⟩
  cases hi
 rintro ⟨i, h1, h2⟩
 exact ⟨i, by rw [List.getElem?_take_of_lt h1]; exact h2⟩
theorem take_rank {l : List Std} (h : (l.map (·.song)).Nodup) (n : Nat) : ((sortSd l).take n).Perm (l.filter fun x => decide (rank l x < n)) := by
 have hp := sortSd_perm l
 have hpw := sortSd_pw h
 have hnl : l.Nodup := by
  rw [List.nodup_iff_pairwise_ne, List.pairwise_map] at h
  rw [List.nodup_iff_pairwise_ne]
  exact h.imp fun hn e => hn (by rw [e])
 refine (List.perm_ext_iff_of_nodup ((List.take_sublist _ _).nodup (hp.nodup_iff.2 hnl)) (hnl.sublist List.filter_sublist)).2 fun x => ?_
 rw [mem_take_iff, List.mem_filter, decide_eq_true_eq]
 constructor
 ·rintro ⟨i, h1, h2⟩
  refine ⟨hp.mem_iff.1 (List.mem_of_getElem? h2), ?_⟩
  rw [← rank_perm hp, rank_at hpw h2]; exact h1
 rintro ⟨h1, h2⟩
 obtain ⟨i, hi⟩ := List.mem_iff_getElem?.1 (hp.mem_iff.2 h1)
 rw [← rank_perm hp, rank_at hpw hi] at h2
 exact ⟨i, h2, hi⟩
theorem sortI_perm {a b : List Int} (h : a.Perm b) : sortI a = sortI b := by
 rw [sortI_isort, sortI_isort]
 exact asc_perm ((isortZ_perm a).trans (h.trans (isortZ_perm b).symm)) (isortZ_asc a) (isortZ_asc b)
theorem sortI_asc {a : List Int} (h : Asc a) : sortI a = a := by
 rw [sortI_isort]
 exact asc_perm (isortZ_perm a) (isortZ_asc a) h
/-- Strictly ascending. -/
def Up (l : List Int) : Prop := l.Pairwise (· < ·)
theorem Up.nodup {l : List Int} (h : Up l) : l.Nodup := by
 rw [List.nodup_iff_pairwise_ne]
 exact h.imp fun q => by omega
theorem kept_rank {l : List Std} (h : Up (l.map (·.song))) (n : Nat) : keptS n l = (l.filter fun x => decide (rank l x < n)).map (·.song) := by
 unfold keptS
 rw [sortI_perm ((take_rank h.nodup n).map _)]
 refine sortI_asc ?_
 have : Up ((l.filter fun x => decide (rank l x < n)).map (·.song)) := h.sublist (List.filter_sublist.map _)
 exact this.imp fun q => by omega
def zeroTl : List PV := [I 0, I 0, I 0, .isl [] .exact, I 0, I 0, I 0, I 0, I 0, I 0, I 0, I 0, I 0, I 0, I 0, I 0, I 0, I 0, I 0, I 0, .nilmap]
def tl0 (r : Rnd) (songs : List Int) : Tally := ⟨r, songs, fun _ => 0, fun _ => 0, []⟩
def tlS (r : Rnd) (songs : List Int) (l : List Ballot) (m : List (Voice × Int)) (seen : List Nat) : Tally := ⟨r, songs, sumR cpB l m seen, sumR cvB l m seen, []⟩
theorem cleans_zt {a b c : Nat} : CleanAll a b c zeroTl = True := by simp only [zeroTl, go_sem]
attribute [go_sem] cleans_zt
theorem rn_tl {n nr ny k i : Nat} {ks : List Nat} (t : Tally) (h : ks[i]? = some k) : RnL n nr ny ks (tlCells (n + k) t) (tlCells (n + i) t) := by
 simp only [tlCells, RnL]
 exact ⟨.same _ (.int _ _), .same _ (.int _ _), .same _ (.int _ _), .same _ (clean_ints _), .same _ (.int _ _), .same _ (.int _ _), .same _ (.int _ _), .same _ (.int _ _), .same _ (.int _ _), .same _ (.int _ _), .same _ (.int _ _), .same _ (.int _ _), .same _ (.int _ _), .same _ (.int _ _), .same _ (.int _ _), .same _ (.int _ _), .same _ (.int _ _), .same _ (.int _ _), .same _ (.int _ _), .same _ (.int _ _), .mapv i k _ _ h rfl rfl, trivial⟩
theorem cpB_jury {b : Ballot} {sn : Nat} (hs : b.song = sn) (hk : b.kind ≠ 2) : ∀ s, cpB s b = if s = sn then b.points else 0 := fun s => by
 unfold cpB
 rw [hs]
 by_cases e : s = sn
 ·subst e; rw [if_pos ⟨hk, rfl⟩, if_pos rfl]
 rw [if_neg (by intro h; omega), if_neg e]
theorem cpB_member {b : Ballot} (hk : b.kind = 2) : ∀ s, cpB s b = 0 := fun s => by unfold cpB; rw [if_neg (by simp [hk])]
theorem cvB_member {b : Ballot} {sn : Nat} (hs : b.song = sn) (hk : b.kind = 2) : ∀ s, cvB s b = if s = sn then 1 else 0 := fun s => by
 unfold cvB
 rw [hs]
 by_cases e : s = sn
 ·subst e; rw [if_pos ⟨hk, rfl⟩, if_pos rfl]
 rw [if_neg (by intro h; omega), if_neg e]
theorem cvB_jury {b : Ballot} (hk : b.kind ≠ 2) : ∀ s, cvB s b = 0 := fun s => by unfold cvB; rw [if_neg (by simp [hk])]
set_option maxHeartbeats 8000000 in
theorem count_pc (Y : YEnv) (σ : Sg) (c : Contest) (l : List Ballot) (rdn : Nat) (r : Rnd) (songs : List Int) (hr : c.rounds[rdn]? = some r) (hrl : c.rounds.length < 2 ^ 40) (hl : l.length ≤ 300) (hsl : songs.length < 2 ^ 40) (hbv : ∀ b, b ∈ l → (0 ≤ b.song ∧ b.song < 8) ∧ 0 ≤ b.points ∧ b.points ≤ 100) :
 PC Tryz.prog Y 49 [cnPV c, bls l, I rdn, ints songs] σ (tlPV σ.store.length (countT r rdn songs l)) (σ.ext [some (.mark :: mapE vcPV I (voices rdn songs l l.length))] []) := by
 refine PC_of_W Tryz.func49 rfl (by kernel_rfl) Tryz.ntmps49 (by simp) fun hcl hca => ?_
 have hrd : rdn < c.rounds.length := (List.getElem?_eq_some_iff.1 hr).1
 have hrd2 : (rdn : Int) < (c.rounds.length : Int) := by omega
 refine W_sr [1, 2, 3, 4, 8] fun R hR => ?_
 simp only [go_sem, tl_map, Sg.get_ext, Sg.get_ext0, List.getElem?_cons_succ, List.getElem?_cons_zero]
 refine hR _ _ ?_; clear hR R
 try simp only [go_sem, tl_map, Sg.get_ext, Sg.get_ext0, List.getElem?_cons_succ, List.getElem?_cons_zero]
 refine W_sr [1, 2, 3, 8, 9] fun R hR => ?_
 simp only [go_sem, tl_map, Sg.get_ext, Sg.get_ext0, List.getElem?_cons_succ, List.getElem?_cons_zero, hr, hrd2]
 refine hR _ _ ?_; clear hR R
 try simp only [go_sem, tl_map, Sg.get_ext, Sg.get_ext0, List.getElem?_cons_succ, List.getElem?_cons_zero]
 refine W_seq fun Z3 K3 => ?_
 refine W_seq fun Z4 K4 => ?_
 refine W_weak (Weak.eq (σ' := σ.ext [some (cnCells c), some zeroTl, some (.mark :: mapE vcPV I ([])), some (tlCells (σ.store.length + 2) (tl0 r songs))] []) rfl rfl) ?_
 refine W_region [1, 2, 3, 8, 9, 26, 27, 28] fun R hR => ?_
 simp only [go_sem, tl_map, Sg.get_ext, Sg.get_ext0, List.getElem?_cons_succ, List.getElem?_cons_zero]
 refine hR _ _ (K4 _ _ ?_); clear hR R; try clear K4 Z4
 try simp only [go_sem, tl_map, Sg.get_ext, Sg.get_ext0, List.getElem?_cons_succ, List.getElem?_cons_zero]
 refine W_block ?_
 refine W_loopT (α := Nat) (fun (i : Nat) => [(28, I i)]) (fun (i : Nat) => σ.ext [some (cnCells c), some zeroTl, some (.mark :: mapE vcPV I (voices rdn songs l i)), some (tlCells (σ.store.length + 2) (tl0 r songs))] []) (fun (i : Nat) => i ≤ l.length) (fun (i : Nat) => l.length - i) (0) rfl (by first | rfl | (simp only [go_sem]; done) | (simp only [go_sem]; rfl)) (Nat.zero_le _) ?_
 rintro i hi
 refine W_sr [1, 2, 3, 8, 9, 26, 27, 28, 29] fun R hR => ?_
 simp only [go_sem, tl_map, Sg.get_ext, Sg.get_ext0, List.getElem?_cons_succ, List.getElem?_cons_zero]
 refine hR _ _ ?_; clear hR R
 try simp only [go_sem, tl_map, Sg.get_ext, Sg.get_ext0, List.getElem?_cons_succ, List.getElem?_cons_zero]
 refine W_seq fun Z6 K6 => ?_
 refine W_cond rfl (fun c1 => ?_) (fun c1 => ?_)
 ·
  try simp only [nrm] at c1
  have hi' : i < l.length := by first | assumption | omega
  obtain ⟨b, hx⟩ : ∃ b, l[i]? = some b := ⟨l[i], by simp [hi']⟩
  have hdrop : l.drop i = b :: l.drop (i + 1) := by
   rw [List.drop_eq_getElem_cons hi']; congr 1; exact (List.getElem?_eq_some_iff.1 hx).2
  have hvs : voices rdn songs l (i + 1) = vstep rdn songs l (voices rdn songs l i) i b := by simp only [voices, hx]
  have hpl := voices_ok rdn songs l i
  obtain ⟨m, hm⟩ : ∃ z, voices rdn songs l i = z := ⟨_, rfl⟩
  rw [hm] at hvs hpl
  simp only [hm]
  refine W_skip (K6 _ _ ?_)
  refine W_seq fun Z7 K7 => ?_
  refine W_block ?_
  refine W_sr [1, 2, 3, 8, 9, 10, 11, 26, 27, 28] fun R hR => ?_
  simp only [go_sem, tl_map, Sg.get_ext, Sg.get_ext0, List.getElem?_cons_succ, List.getElem?_cons_zero, hx, blCells, blPV]
  refine hR _ _ ?_; clear hR R
  try simp only [go_sem, tl_map, Sg.get_ext, Sg.get_ext0, List.getElem?_cons_succ, List.getElem?_cons_zero, hx, blCells, blPV]
  refine W_seq fun Z9 K9 => ?_
  refine W_seq fun Z10 K10 => ?_
  refine W_regionJ [1, 2, 3, 8, 9, 10, 11, 26, 27, 28, 43] [(43, .bool (!(isIn rdn songs b)))] ?_ fun R hR => ?_
  ·refine K10 _ _ ?_
   simp only [go_sem, tl_map, Sg.get_ext, Sg.get_ext0, List.getElem?_cons_succ, List.getElem?_cons_zero, hx, blCells, blPV]
   refine W_cond rfl (fun c2 => ?_) (fun c2 => ?_)
   ·
    try simp only [nrm] at c2
    refine W_exit ?_
    simp only [go_sem, tl_map, Sg.get_ext, Sg.get_ext0, List.getElem?_cons_succ, List.getElem?_cons_zero, hx, blCells, blPV]
    refine K7 _ _ ?_
    refine W_region [1, 2, 3, 8, 9, 26, 27, 28] fun R hR => ?_
    simp only [go_sem, tl_map, Sg.get_ext, Sg.get_ext0, List.getElem?_cons_succ, List.getElem?_cons_zero, hx, blCells, blPV]
    try simp (disch := omega) only [wrapI, wrapU]
    refine hR _ _ ?_; clear hR R
    try simp only [go_sem, tl_map, Sg.get_ext, Sg.get_ext0, List.getElem?_cons_succ, List.getElem?_cons_zero, hx, blCells, blPV]
    refine ⟨i + 1, ?_, by (try simp only []); omega, ?_⟩
    ·refine Weak.trans (Weak.cutX 4 0 (by omega) (by omega) hcl (by simp only [go_sem, CleanAll_mapV] <;> omega) (by simp only [go_sem] <;> omega)) ?_
     simp only [go_sem]
     exact Weak.eq rfl (by rw [hvs]; unfold vstep; first | (rw [c2, c4, hkey]; rfl) | (rw [c2, c4]; rfl) | (rw [c2, c5, hkey]; rfl) | (rw [c2, c5]; rfl) | (rw [c2]; rfl))
    try dsimp only
    exact hi'
   try simp only [nrm] at c2
   refine W_skip (K9 _ _ ?_)
   refine W_sr [1, 2, 3, 8, 9, 10, 11, 12, 26, 27, 28] fun R hR => ?_
   simp only [go_sem, tl_map, Sg.get_ext, Sg.get_ext0, List.getElem?_cons_succ, List.getElem?_cons_zero, hx, blCells, blPV]
   refine hR _ _ ?_; clear hR R
   try simp only [go_sem, tl_map, Sg.get_ext, Sg.get_ext0, List.getElem?_cons_succ, List.getElem?_cons_zero, hx, blCells, blPV]
   refine W_seq fun Z12 K12 => ?_
   refine W_sr [1, 2, 3, 8, 9, 10, 11, 12, 26, 27, 28, 53] fun R hR => ?_
   simp only [go_sem, tl_map, Sg.get_ext, Sg.get_ext0, List.getElem?_cons_succ, List.getElem?_cons_zero, hx, blCells, blPV]
   refine hR _ _ ?_; clear hR R
   try simp only [go_sem, tl_map, Sg.get_ext, Sg.get_ext0, List.getElem?_cons_succ, List.getElem?_cons_zero, hx, blCells, blPV]
   refine W_cond rfl (fun c3 => ?_) (fun c3 => ?_)
   ·
    try simp only [nrm] at c3
    have hkey : keyOf b = (b.kind, b.voter, -1) := by simp [keyOf, c3]
    refine W_region [1, 2, 3, 8, 9, 10, 11, 12, 26, 27, 28] fun R hR => ?_
    simp only [go_sem, tl_map, Sg.get_ext, Sg.get_ext0, List.getElem?_cons_succ, List.getElem?_cons_zero, hx, blCells, blPV]
    refine hR _ _ (K12 _ _ ?_); clear hR R; try clear K12 Z12
    try simp only [go_sem, tl_map, Sg.get_ext, Sg.get_ext0, List.getElem?_cons_succ, List.getElem?_cons_zero, hx, blCells, blPV]
    refine W_sr [1, 2, 3, 8, 9, 10, 11, 12, 13, 14, 26, 27, 28] fun R hR => ?_
    simp only [go_sem, tl_map, Sg.get_ext, Sg.get_ext0, List.getElem?_cons_succ, List.getElem?_cons_zero, hx, blCells, blPV]
    refine hR _ _ ?_; clear hR R
    try simp only [go_sem, tl_map, Sg.get_ext, Sg.get_ext0, List.getElem?_cons_succ, List.getElem?_cons_zero, hx, blCells, blPV]
    refine W_seq fun Z15 K15 => ?_
    refine W_drawJ [1, 2, 3, 8, 9, 10, 12, 26, 27, 28, 73] [(73, .bool (first l m b))] [0, 1, 2, 3, 4, 5, 6, 7, 8, 9, 10, 11] [] [[], [0], [0, 1], [0, 1, 2], [0, 1, 2, 3], [0, 1, 2], [0, 1, 2], [0, 1, 2, 5, 6], [0, 1, 2, 5, 6, 7], [0, 1, 2, 5, 6, 7, 8], [0, 1, 2, 3, 4, 5, 6, 7, 8, 9], [0, 1, 2, 3, 4, 5, 6, 7, 8, 9, 10]] mixed (by kernel_rfl) ?_ fun R hR => ?_
    ·refine K15 _ _ ?_
     simp only [go_sem, tl_map, Sg.get_ext, Sg.get_ext0, List.getElem?_cons_succ, List.getElem?_cons_zero, hx, blCells, blPV]
     refine W_cond rfl (fun c4 => ?_) (fun c4 => ?_)
     ·
      try simp only [nrm] at c4
      refine W_region [1, 2, 3, 8, 9, 26, 27, 28] fun R hR => ?_
      simp only [go_sem, tl_map, Sg.get_ext, Sg.get_ext0, List.getElem?_cons_succ, List.getElem?_cons_zero, hx, blCells, blPV]
      refine hR _ _ (K7 _ _ ?_); clear hR R; try clear K7 Z7
      try simp only [go_sem, tl_map, Sg.get_ext, Sg.get_ext0, List.getElem?_cons_succ, List.getElem?_cons_zero, hx, blCells, blPV]
      refine W_region [1, 2, 3, 8, 9, 26, 27, 28] fun R hR => ?_
      simp only [go_sem, tl_map, Sg.get_ext, Sg.get_ext0, List.getElem?_cons_succ, List.getElem?_cons_zero, hx, blCells, blPV]
      try simp (disch := omega) only [wrapI, wrapU]
      refine hR _ _ ?_; clear hR R
      try simp only [go_sem, tl_map, Sg.get_ext, Sg.get_ext0, List.getElem?_cons_succ, List.getElem?_cons_zero, hx, blCells, blPV]
      refine ⟨i + 1, ?_, by (try simp only []); omega, ?_⟩
      ·refine Weak.trans (Weak.cutX 4 0 (by omega) (by omega) hcl (by simp only [go_sem, CleanAll_mapV] <;> omega) (by simp only [go_sem] <;> omega)) ?_
       simp only [go_sem]
       exact Weak.eq rfl (by rw [hvs]; unfold vstep; first | (rw [c2, c4, hkey]; rfl) | (rw [c2, c4]; rfl) | (rw [c2, c5, hkey]; rfl) | (rw [c2, c5]; rfl) | (rw [c2]; rfl))
      try dsimp only
      exact hi'
     try simp only [nrm] at c4
     refine W_skip (K7 _ _ ?_)
     refine W_region [1, 2, 3, 8, 9, 26, 27, 28] fun R hR => ?_
     simp only [go_sem, tl_map, Sg.get_ext, Sg.get_ext0, List.getElem?_cons_succ, List.getElem?_cons_zero, hx, blCells, blPV]
     try simp (disch := omega) only [wrapI, wrapU]
     refine hR _ _ ?_; clear hR R
     try simp only [go_sem, tl_map, Sg.get_ext, Sg.get_ext0, List.getElem?_cons_succ, List.getElem?_cons_zero, hx, blCells, blPV]
     refine ⟨i + 1, ?_, by (try simp only []); omega, ?_⟩
     ·refine Weak.trans (Weak.cutX 4 0 (by omega) (by omega) hcl (by simp only [go_sem, CleanAll_mapV] <;> omega) (by simp only [go_sem] <;> omega)) ?_
      simp only [go_sem]
      exact Weak.eq rfl (by rw [hvs]; unfold vstep; first | (rw [c2, c4, hkey]; rfl) | (rw [c2, c4]; rfl) | (rw [c2, c5, hkey]; rfl) | (rw [c2, c5]; rfl) | (rw [c2]; rfl))
     try dsimp only
     exact hi'
    simp only [go_sem, tl_map, Sg.get_ext, Sg.get_ext0, List.getElem?_cons_succ, List.getElem?_cons_zero, hx, blCells, blPV]
    refine GWant_split (fun g1 => ?_) (fun g1 => ?_)
    ·try simp only [Bool.not_eq_true', Bool.not_eq_false'] at g1
     have n1 := g1; try simp only [nrm] at n1
     obtain ⟨kz, hkz⟩ : ∃ z, aget (keyOf b) m = some z := Option.isSome_iff_exists.1 (by rw [hkey]; simpa using g1)
     obtain ⟨kk, o, e1, e2, e3, _⟩ := hpl _ (aget_mem hkz)
     simp only at e1
     subst e1
     have hfst : first l m b = decide (b.serial < o.serial) := by simp [first, hkz, e3]
     rw [hkey] at hkz
     have hkk0 : (0 : Int) ≤ (kk : Int) := by omega
     have hkl : (kk : Int) < (l.length : Int) := by omega
     simp only [go_sem, tl_map, Sg.get_ext, Sg.get_ext0, List.getElem?_cons_succ, List.getElem?_cons_zero, hx, blCells, blPV, hkz, e3, Option.getD_some, Int.toNat_natCast, hkk0, hkl, Option.isSome_some, Bool.not_true, Bool.not_false, g1]
     try refine And.intro (by repeat' (first | refine And.intro ?_ ?_ | exact GOr_right (fun _ => by simp only [go_sem, tl_map, Sg.get_ext, Sg.get_ext0, List.getElem?_cons_succ, List.getElem?_cons_zero, hx, blCells, blPV, hkz, e3, Option.getD_some, Int.toNat_natCast, hkk0, hkl, Option.isSome_some, Bool.not_true, Bool.not_false]))) ?_
     refine hR _ ?_
     all_goals try simp only [go_sem, tl_map, Sg.get_ext, Sg.get_ext0, List.getElem?_cons_succ, List.getElem?_cons_zero, hx, blCells, blPV, hkz, e3, Option.getD_some, Int.toNat_natCast, hkk0, hkl, Option.isSome_some, Bool.not_true, Bool.not_false]
     all_goals
      first | rfl | (rw [hfst]; done) | (rw [hfst]; rfl)
    try simp only [Bool.not_eq_true', Bool.not_eq_false'] at g1
    have n1 := g1; try simp only [nrm] at n1
    have hkn : aget (keyOf b) m = none := by rw [hkey]; simpa using g1
    have hfst : first l m b = true := by simp [first, hkn]
    simp only [go_sem, tl_map, Sg.get_ext, Sg.get_ext0, List.getElem?_cons_succ, List.getElem?_cons_zero, hx, blCells, blPV, g1]
    try refine And.intro (by repeat' (first | refine And.intro ?_ ?_ | exact GOr_right (fun _ => by simp only [go_sem, tl_map, Sg.get_ext, Sg.get_ext0, List.getElem?_cons_succ, List.getElem?_cons_zero, hx, blCells, blPV]))) ?_
    refine hR _ ?_
    all_goals try simp only [go_sem, tl_map, Sg.get_ext, Sg.get_ext0, List.getElem?_cons_succ, List.getElem?_cons_zero, hx, blCells, blPV]
    all_goals
     first | rfl | (rw [hfst]; done) | (rw [hfst]; rfl)
   try simp only [nrm] at c3
   have hkey : keyOf b = (b.kind, b.voter, b.song) := by simp [keyOf, c3]
   refine W_skip (K12 _ _ ?_)
   refine W_sr [1, 2, 3, 8, 9, 10, 11, 12, 13, 14, 26, 27, 28] fun R hR => ?_
   simp only [go_sem, tl_map, Sg.get_ext, Sg.get_ext0, List.getElem?_cons_succ, List.getElem?_cons_zero, hx, blCells, blPV]
   refine hR _ _ ?_; clear hR R
   try simp only [go_sem, tl_map, Sg.get_ext, Sg.get_ext0, List.getElem?_cons_succ, List.getElem?_cons_zero, hx, blCells, blPV]
   refine W_seq fun Z17 K17 => ?_
   refine W_drawJ [1, 2, 3, 8, 9, 10, 12, 26, 27, 28, 73] [(73, .bool (first l m b))] [0, 1, 2, 3, 4, 5, 6, 7, 8, 9, 10, 11] [] [[], [0], [0, 1], [0, 1, 2], [0, 1, 2, 3], [0, 1, 2], [0, 1, 2], [0, 1, 2, 5, 6], [0, 1, 2, 5, 6, 7], [0, 1, 2, 5, 6, 7, 8], [0, 1, 2, 3, 4, 5, 6, 7, 8, 9], [0, 1, 2, 3, 4, 5, 6, 7, 8, 9, 10]] mixed (by kernel_rfl) ?_ fun R hR => ?_
   ·refine K17 _ _ ?_
    simp only [go_sem, tl_map, Sg.get_ext, Sg.get_ext0, List.getElem?_cons_succ, List.getElem?_cons_zero, hx, blCells, blPV]
    refine W_cond rfl (fun c5 => ?_) (fun c5 => ?_)
    ·
     try simp only [nrm] at c5
     refine W_region [1, 2, 3, 8, 9, 26, 27, 28] fun R hR => ?_
     simp only [go_sem, tl_map, Sg.get_ext, Sg.get_ext0, List.getElem?_cons_succ, List.getElem?_cons_zero, hx, blCells, blPV]
     refine hR _ _ (K7 _ _ ?_); clear hR R; try clear K7 Z7
     try simp only [go_sem, tl_map, Sg.get_ext, Sg.get_ext0, List.getElem?_cons_succ, List.getElem?_cons_zero, hx, blCells, blPV]
     refine W_region [1, 2, 3, 8, 9, 26, 27, 28] fun R hR => ?_
     simp only [go_sem, tl_map, Sg.get_ext, Sg.get_ext0, List.getElem?_cons_succ, List.getElem?_cons_zero, hx, blCells, blPV]
     try simp (disch := omega) only [wrapI, wrapU]
     refine hR _ _ ?_; clear hR R
     try simp only [go_sem, tl_map, Sg.get_ext, Sg.get_ext0, List.getElem?_cons_succ, List.getElem?_cons_zero, hx, blCells, blPV]
     refine ⟨i + 1, ?_, by (try simp only []); omega, ?_⟩
     ·refine Weak.trans (Weak.cutX 4 0 (by omega) (by omega) hcl (by simp only [go_sem, CleanAll_mapV] <;> omega) (by simp only [go_sem] <;> omega)) ?_
      simp only [go_sem]
      exact Weak.eq rfl (by rw [hvs]; unfold vstep; first | (rw [c2, c4, hkey]; rfl) | (rw [c2, c4]; rfl) | (rw [c2, c5, hkey]; rfl) | (rw [c2, c5]; rfl) | (rw [c2]; rfl))
     try dsimp only
     exact hi'
    try simp only [nrm] at c5
    refine W_skip (K7 _ _ ?_)
    refine W_region [1, 2, 3, 8, 9, 26, 27, 28] fun R hR => ?_
    simp only [go_sem, tl_map, Sg.get_ext, Sg.get_ext0, List.getElem?_cons_succ, List.getElem?_cons_zero, hx, blCells, blPV]
    try simp (disch := omega) only [wrapI, wrapU]
    refine hR _ _ ?_; clear hR R
    try simp only [go_sem, tl_map, Sg.get_ext, Sg.get_ext0, List.getElem?_cons_succ, List.getElem?_cons_zero, hx, blCells, blPV]
    refine ⟨i + 1, ?_, by (try simp only []); omega, ?_⟩
    ·refine Weak.trans (Weak.cutX 4 0 (by omega) (by omega) hcl (by simp only [go_sem, CleanAll_mapV] <;> omega) (by simp only [go_sem] <;> omega)) ?_
     simp only [go_sem]
     exact Weak.eq rfl (by rw [hvs]; unfold vstep; first | (rw [c2, c4, hkey]; rfl) | (rw [c2, c4]; rfl) | (rw [c2, c5, hkey]; rfl) | (rw [c2, c5]; rfl) | (rw [c2]; rfl))
    try dsimp only
    exact hi'
   simp only [go_sem, tl_map, Sg.get_ext, Sg.get_ext0, List.getElem?_cons_succ, List.getElem?_cons_zero, hx, blCells, blPV]
   refine GWant_split (fun g2 => ?_) (fun g2 => ?_)
   ·try simp only [Bool.not_eq_true', Bool.not_eq_false'] at g2
    have n2 := g2; try simp only [nrm] at n2
    obtain ⟨kz, hkz⟩ : ∃ z, aget (keyOf b) m = some z := Option.isSome_iff_exists.1 (by rw [hkey]; simpa using g2)
    obtain ⟨kk, o, e1, e2, e3, _⟩ := hpl _ (aget_mem hkz)
    simp only at e1
    subst e1
    have hfst : first l m b = decide (b.serial < o.serial) := by simp [first, hkz, e3]
    rw [hkey] at hkz
    have hkk0 : (0 : Int) ≤ (kk : Int) := by omega
    have hkl : (kk : Int) < (l.length : Int) := by omega
    simp only [go_sem, tl_map, Sg.get_ext, Sg.get_ext0, List.getElem?_cons_succ, List.getElem?_cons_zero, hx, blCells, blPV, hkz, e3, Option.getD_some, Int.toNat_natCast, hkk0, hkl, Option.isSome_some, Bool.not_true, Bool.not_false, g2]
    try refine And.intro (by repeat' (first | refine And.intro ?_ ?_ | exact GOr_right (fun _ => by simp only [go_sem, tl_map, Sg.get_ext, Sg.get_ext0, List.getElem?_cons_succ, List.getElem?_cons_zero, hx, blCells, blPV, hkz, e3, Option.getD_some, Int.toNat_natCast, hkk0, hkl, Option.isSome_some, Bool.not_true, Bool.not_false]))) ?_
    refine hR _ ?_
    all_goals try simp only [go_sem, tl_map, Sg.get_ext, Sg.get_ext0, List.getElem?_cons_succ, List.getElem?_cons_zero, hx, blCells, blPV, hkz, e3, Option.getD_some, Int.toNat_natCast, hkk0, hkl, Option.isSome_some, Bool.not_true, Bool.not_false]
    all_goals
     first | rfl | (rw [hfst]; done) | (rw [hfst]; rfl)
   try simp only [Bool.not_eq_true', Bool.not_eq_false'] at g2
   have n2 := g2; try simp only [nrm] at n2
   have hkn : aget (keyOf b) m = none := by rw [hkey]; simpa using g2
   have hfst : first l m b = true := by simp [first, hkn]
   simp only [go_sem, tl_map, Sg.get_ext, Sg.get_ext0, List.getElem?_cons_succ, List.getElem?_cons_zero, hx, blCells, blPV, g2]
   try refine And.intro (by repeat' (first | refine And.intro ?_ ?_ | exact GOr_right (fun _ => by simp only [go_sem, tl_map, Sg.get_ext, Sg.get_ext0, List.getElem?_cons_succ, List.getElem?_cons_zero, hx, blCells, blPV]))) ?_
   refine hR _ ?_
   all_goals try simp only [go_sem, tl_map, Sg.get_ext, Sg.get_ext0, List.getElem?_cons_succ, List.getElem?_cons_zero, hx, blCells, blPV]
   all_goals
    first | rfl | (rw [hfst]; done) | (rw [hfst]; rfl)
  simp only [go_sem, tl_map, Sg.get_ext, Sg.get_ext0, List.getElem?_cons_succ, List.getElem?_cons_zero, hx, blCells, blPV]
  refine GWant_split (fun g3 => ?_) (fun g3 => ?_)
  ·try simp only [Bool.not_eq_true', Bool.not_eq_false'] at g3
   have n3 := g3; try simp only [nrm] at n3
   simp only [go_sem, tl_map, Sg.get_ext, Sg.get_ext0, List.getElem?_cons_succ, List.getElem?_cons_zero, hx, blCells, blPV, g3]
   refine GCall_of (contains_pc Y _ songs .ro b.song (by omega)) ?_
   simp only [go_sem, tl_map, Sg.get_ext, Sg.get_ext0, List.getElem?_cons_succ, List.getElem?_cons_zero, hx, blCells, blPV, g3]
   refine hR _ ?_
   all_goals try simp only [go_sem, tl_map, Sg.get_ext, Sg.get_ext0, List.getElem?_cons_succ, List.getElem?_cons_zero, hx, blCells, blPV]
   all_goals
    first | rfl | (simp [isIn, *]; done) | (simp_all [isIn]; done)
  try simp only [Bool.not_eq_true', Bool.not_eq_false'] at g3
  have n3 := g3; try simp only [nrm] at n3
  simp only [go_sem, tl_map, Sg.get_ext, Sg.get_ext0, List.getElem?_cons_succ, List.getElem?_cons_zero, hx, blCells, blPV, g3]
  refine hR _ ?_
  all_goals try simp only [go_sem, tl_map, Sg.get_ext, Sg.get_ext0, List.getElem?_cons_succ, List.getElem?_cons_zero, hx, blCells, blPV]
  all_goals
   first | rfl | (simp [isIn, *]; done) | (simp_all [isIn]; done)
 try simp only [nrm] at c1
 have hie : i = l.length := by first | omega | (simp at c1; omega)
 subst hie
 refine W_exit ?_
 simp only [go_sem, tl_map, Sg.get_ext, Sg.get_ext0, List.getElem?_cons_succ, List.getElem?_cons_zero]
 refine K3 _ _ ?_
 refine W_seq fun Z18 K18 => ?_
 refine W_sr [1, 8, 9, 81] fun R hR => ?_
 simp only [go_sem, tl_map, Sg.get_ext, Sg.get_ext0, List.getElem?_cons_succ, List.getElem?_cons_zero]
 refine hR _ _ ?_; clear hR R
 try simp only [go_sem, tl_map, Sg.get_ext, Sg.get_ext0, List.getElem?_cons_succ, List.getElem?_cons_zero]
 refine W_block ?_
 obtain ⟨M, hM⟩ : ∃ z, voices rdn songs l l.length = z := ⟨_, rfl⟩
 have hpl := voices_ok rdn songs l l.length
 have hml := voices_len rdn songs l l.length
 rw [hM] at hpl hml
 simp only [hM]
 refine W_loopT (α := (List Nat)) (fun (seen : List Nat) => []) (fun (seen : List Nat) => σ.ext [some (cnCells c), some zeroTl, some (.mark :: mapE vcPV I M), some (tlCells (σ.store.length + 2) (tlS r songs l M seen)), some [.itst (σ.store.length + 2) M.length seen]] []) (fun (seen : List Nat) => seen.Nodup ∧ ∀ j, j ∈ seen → j < M.length) (fun (seen : List Nat) => M.length - seen.length) ([]) rfl (by first | rfl | (simp only [go_sem]; done) | (simp only [go_sem]; rfl)) (⟨List.nodup_nil, fun j h => absurd h (by simp)⟩) ?_
 rintro seen ⟨hsn, hsl2⟩
 refine W_seq fun Z20 K20 => ?_
 refine W_next [1, 8, 9, 81, 83] (os := _) rfl rfl rfl (by decide) (it_ext (j := 4) (k := 2) rfl rfl mapE_len) (fun K hR hall => ?_) (fun K hR j0 k0 u0 hj0 hns => ?_)
 · -- next: no more
  have hsA := sumR_all (f := cpB) (l := l) (m := M) hsn hsl2 (by simpa [mapE_len] using hall)
  have hsB := sumR_all (f := cvB) (l := l) (m := M) hsn hsl2 (by simpa [mapE_len] using hall)
  have hct : countT r rdn songs l = ⟨r, songs, sumR cpB l M seen, sumR cvB l M seen, M⟩ := by unfold countT; rw [hM, hsA, hsB]
  simp only [go_sem, tl_map, Sg.get_ext, Sg.get_ext0, List.getElem?_cons_succ, List.getElem?_cons_zero]
  refine hR _ _ (K20 _ _ ?_); clear hR K
  try simp only [go_sem, tl_map, Sg.get_ext, Sg.get_ext0, List.getElem?_cons_succ, List.getElem?_cons_zero]
  refine W_seq fun Z21 K21 => ?_
  refine W_cond_false rfl ?_
  refine W_exit ?_
  simp only [go_sem, tl_map, Sg.get_ext, Sg.get_ext0, List.getElem?_cons_succ, List.getElem?_cons_zero]
  refine K18 _ _ ?_
  refine W_sr [8] fun R hR => ?_
  simp only [go_sem, tl_map, Sg.get_ext, Sg.get_ext0, List.getElem?_cons_succ, List.getElem?_cons_zero, tlCells, zeroTl]
  refine hR _ _ ?_; clear hR R
  try simp only [go_sem, tl_map, Sg.get_ext, Sg.get_ext0, List.getElem?_cons_succ, List.getElem?_cons_zero]
  refine W_weak (?_ : Weak _ _ _ _ [(8, .ptr (σ.store.length + 1) 0)] (σ.ext [some (.mark :: mapE vcPV I M), some (tlCells (σ.store.length + 0) ⟨r, songs, sumR cpB l M seen, sumR cvB l M seen, M⟩)] [])) ?_
  ·refine Weak.ren [2, 1] (by decide) (by simp) (by first | omega | (simp only [go_sem] <;> omega)) hcl (RnE.get ⟨rfl, .ptr 1 1 _ _ _ rfl rfl rfl, trivial⟩) ⟨⟨_, rfl, .inl ⟨?_, rfl⟩⟩, ⟨_, rfl, .inr ⟨by simp, rn_tl (k := 2) (i := 0) ⟨r, songs, sumR cpB l M seen, sumR cvB l M seen, M⟩ rfl⟩⟩, trivial⟩
   simp only [go_sem]
  simp only [tlCells, Nat.add_zero]
  refine W_ret ?_
  simp only [go_sem, tl_map, Sg.get_ext, Sg.get_ext0, List.getElem?_cons_succ, List.getElem?_cons_zero]
  refine ⟨.inr (by trivial), ?_⟩
  rw [hct, hM]
  refine Fin_ext (l := [_, _]) (rm := []) 1 0 hcl (by show resPV Tryz.prog _ _ [.cell 8 88] = some _; simp only [resPV, go_sem]; rfl) (Wk_eq ?_ (by simp only [go_sem] <;> omega)) ?_
  try simp only [go_sem]
  all_goals
   first | rfl | (show CleanLs _ _ _ _; simp only [go_sem] <;> omega)
 -- next: one more
 obtain ⟨e, he, rfl, rfl⟩ := mapE_get hj0
 obtain ⟨ky, kz⟩ := e
 obtain ⟨kk, o, e1, e2, e3, e4, e5⟩ := hpl _ (List.mem_of_getElem? he)
 simp only at e1 e4
 subst e1
 have hent : entB l M j0 = some o := by simp [entB, he, e3]
 have hbo := hbv o (List.mem_of_getElem? e3)
 obtain ⟨sn, hsn2⟩ : ∃ z : Nat, o.song = z := ⟨o.song.toNat, by omega⟩
 have hs8 : sn < 8 := by omega
 have hs8i : (sn : Int) < 8 := by omega
 have hs12 : decide (12 + sn ≤ 20) = true := by simp; omega
 have hs4 : decide (4 + sn ≤ 20) = true := by simp; omega
 have hsn' : (seen ++ [j0]).Nodup := by
  rw [List.nodup_append]
  exact ⟨hsn, by simp, fun x hx y hy e => hns (by simp at hy; rw [← hy, ← e]; exact hx)⟩
 have hsl' : ∀ j, j ∈ seen ++ [j0] → j < M.length := fun j hj => by
  rcases List.mem_append.1 hj with h | h
  ·exact hsl2 j h
  simp at h
  rw [h]
  exact (List.getElem?_eq_some_iff.1 he).1
 have hln : (seen ++ [j0]).length = seen.length + 1 := by simp
 have hjl' := nodup_len hsn' hsl'
 have hjl := nodup_len hsn hsl2
 have hbd1 : 0 ≤ (tlS r songs l M seen).vts sn ∧ (tlS r songs l M seen).vts sn ≤ 300 := by
  have := sumB_bd (f := cvB sn) (l := l) (m := M) (c := 1) (by omega) (fun b _ => by unfold cvB; split <;> omega) seen
  exact ⟨this.1, Int.le_trans this.2 (by omega)⟩
 have hbd2 : 0 ≤ (tlS r songs l M seen).pts sn ∧ (tlS r songs l M seen).pts sn ≤ 30000 := by
  have := sumB_bd (f := cpB sn) (l := l) (m := M) (c := 100) (by omega) (fun b hb => by have := hbv b hb; unfold cpB; split <;> omega) seen
  exact ⟨this.1, Int.le_trans this.2 (by omega)⟩
 have hw1 : IntKind.i64.wrap ((tlS r songs l M seen).vts sn + 1) = (tlS r songs l M seen).vts sn + 1 := wrapI (by omega) (by omega)
 have hw2 : IntKind.i64.wrap ((tlS r songs l M seen).pts sn + o.points) = (tlS r songs l M seen).pts sn + o.points := wrapI (by omega) (by omega)
 simp only [go_sem, tl_map, Sg.get_ext, Sg.get_ext0, List.getElem?_cons_succ, List.getElem?_cons_zero, e3, hsn2]
 refine hR _ _ (K20 _ _ ?_); clear hR K
 try simp only [go_sem, tl_map, Sg.get_ext, Sg.get_ext0, List.getElem?_cons_succ, List.getElem?_cons_zero, e3, hsn2]
 refine W_seq fun Z23 K23 => ?_
 refine W_cond_true rfl ?_
 refine W_skip (K23 _ _ ?_)
 refine W_block ?_
 refine W_sr [1, 8, 9, 16, 81] fun R hR => ?_
 simp only [go_sem, tl_map, Sg.get_ext, Sg.get_ext0, List.getElem?_cons_succ, List.getElem?_cons_zero, e3, hsn2, entryPV, iterAt, mapE_len, List.getLast?_concat, mapE_at he]
 refine hR _ _ ?_; clear hR R
 try simp only [go_sem, tl_map, Sg.get_ext, Sg.get_ext0, List.getElem?_cons_succ, List.getElem?_cons_zero, e3, hsn2]
 refine W_sr [1, 8, 9, 17, 81] fun R hR => ?_
 simp only [go_sem, tl_map, Sg.get_ext, Sg.get_ext0, List.getElem?_cons_succ, List.getElem?_cons_zero, e3, hsn2]
 refine hR _ _ ?_; clear hR R
 try simp only [go_sem, tl_map, Sg.get_ext, Sg.get_ext0, List.getElem?_cons_succ, List.getElem?_cons_zero, e3, hsn2]
 refine W_sr [1, 8, 9, 17, 81, 92] fun R hR => ?_
 simp only [go_sem, tl_map, Sg.get_ext, Sg.get_ext0, List.getElem?_cons_succ, List.getElem?_cons_zero, e3, hsn2]
 refine hR _ _ ?_; clear hR R
 try simp only [go_sem, tl_map, Sg.get_ext, Sg.get_ext0, List.getElem?_cons_succ, List.getElem?_cons_zero, e3, hsn2]
 refine W_cond rfl (fun c6 => ?_) (fun c6 => ?_)
 ·
  try simp only [nrm] at c6
  have hst : ({ tlS r songs l M seen with vts := upd (tlS r songs l M seen).vts sn ((tlS r songs l M seen).vts sn + 1) } : Tally) = tlS r songs l M (seen ++ [j0]) := by unfold tlS; rw [sumR_same hent (cpB_member c6), sumR_hit hent (cvB_member hsn2 c6)]
  refine W_region [1, 8, 9, 81] fun R hR => ?_
  simp only [go_sem, tl_map, Sg.get_ext, Sg.get_ext0, List.getElem?_cons_succ, List.getElem?_cons_zero, e3, hsn2, hs8i, Nat.mul_one, tl_vts hs8, hw1, tl_setV hs8, tl_len, hs12]
  try simp (disch := omega) only [wrapI, wrapU]
  refine hR _ _ ?_; clear hR R
  try simp only [go_sem, tl_map, Sg.get_ext, Sg.get_ext0, List.getElem?_cons_succ, List.getElem?_cons_zero, e3, hsn2]
  refine ⟨seen ++ [j0], ?_, by (try simp only []); omega, ?_⟩
  ·refine Weak.trans (Weak.cutX 5 0 (by omega) (by omega) hcl (by simp only [go_sem, CleanAll_mapV] <;> omega) (by simp only [go_sem] <;> omega)) ?_
   simp only [go_sem]
   exact Weak.eq rfl (by rw [hst])
  try dsimp only
  exact ⟨hsn', hsl'⟩
 try simp only [nrm] at c6
 have hst : ({ tlS r songs l M seen with pts := upd (tlS r songs l M seen).pts sn ((tlS r songs l M seen).pts sn + o.points) } : Tally) = tlS r songs l M (seen ++ [j0]) := by unfold tlS; rw [sumR_same hent (cvB_jury c6), sumR_hit hent (cpB_jury hsn2 c6)]
 refine W_draw [1, 8, 9, 81] [0, 1, 2, 3, 4, 5, 6, 7, 8, 9, 10, 11, 12] [] [[], [0], [], [2], [0, 1, 2, 3], [0, 1, 2, 3, 4], [], [6], [0, 1, 2, 3, 4, 5, 6, 7], [], [9], [0, 1, 2, 3, 4, 5, 6, 7, 8, 9, 10], [0, 1, 2, 3, 4, 5, 6, 7, 8, 9, 10, 11]] mixed (by kernel_rfl) fun R hR => ?_
 simp only [go_sem, tl_map, Sg.get_ext, Sg.get_ext0, List.getElem?_cons_succ, List.getElem?_cons_zero, e3, hsn2, hs8i, Nat.mul_one, tl_pts hs8, hw2, tl_setP hs8, tl_len, hs4]
 try simp (disch := omega) only [wrapI, wrapU]
 try refine And.intro (by repeat' (first | refine And.intro ?_ ?_ | exact GOr_right (fun _ => by simp only [go_sem, tl_map, Sg.get_ext, Sg.get_ext0, List.getElem?_cons_succ, List.getElem?_cons_zero, e3, hsn2, hs8i, Nat.mul_one, tl_pts hs8, hw2, tl_setP hs8, tl_len, hs4]))) ?_
 refine hR _ _ ?_; clear hR R
 try simp only [go_sem, tl_map, Sg.get_ext, Sg.get_ext0, List.getElem?_cons_succ, List.getElem?_cons_zero, e3, hsn2]
 refine ⟨seen ++ [j0], ?_, by (try simp only []); omega, ?_⟩
 ·refine Weak.trans (Weak.cutX 5 0 (by omega) (by omega) hcl (by simp only [go_sem, CleanAll_mapV] <;> omega) (by simp only [go_sem] <;> omega)) ?_
  simp only [go_sem]
  exact Weak.eq rfl (by rw [hst])
 try dsimp only
 exact ⟨hsn', hsl'⟩
theorem row4_cons (x : Std) (l : List Std) : rowC ((x :: l).map sdPV) = I x.song :: I x.points :: I x.votes :: I x.score :: rowC (l.map sdPV) := by simp [rowC, sdPV, sdCells]
theorem row4_len : ∀ l : List Std, (rowC (l.map sdPV)).length = l.length * 4 := by
 intro l
 induction l with
 | nil => rfl
 | cons x l ih => rw [row4_cons]; simp only [List.length_cons, ih]; omega
theorem row4_ld : ∀ {l : List Std} {j : Nat} {x : Std}, l[j]? = some x → ((rowC (l.map sdPV)).drop (j * 4)).take 4 = [I x.song, I x.points, I x.votes, I x.score] := by
 intro l
 induction l with
 | nil => intro j x h; simp at h
 | cons y l ih =>
  intro j x h
  rw [row4_cons]
  cases j with
  | zero =>
   simp only [List.getElem?_cons_zero, Option.some.injEq] at h
   subst h
   simp
  | succ j =>
   simp only [List.getElem?_cons_succ] at h
   rw [show (j + 1) * 4 = j * 4 + 1 + 1 + 1 + 1 by omega]
   simp only [List.drop_succ_cons]
   exact ih h
theorem row4_put (x : Std) : ∀ {l : List Std} {j : Nat}, j < l.length → ((((rowC (l.map sdPV)).set (j * 4) (I x.song)).set (j * 4 + 1) (I x.points)).set (j * 4 + 1 + 1) (I x.votes)).set (j * 4 + 1 + 1 + 1) (I x.score) = rowC ((l.set j x).map sdPV) := by
 intro l
 induction l with
 | nil => intro j h; simp at h
 | cons y l ih =>
  intro j h
  rw [row4_cons]
  cases j with
  | zero =>
   have e : (y :: l).set 0 x = x :: l := rfl
   rw [e, row4_cons]; simp
  | succ j =>
   rw [List.set_cons_succ, row4_cons, show (j + 1) * 4 = j * 4 + 1 + 1 + 1 + 1 by omega]
   simp only [List.set_cons_succ]
   rw [ih (by simpa using h)]
theorem cA_row4 {a b c : Nat} {l : List Std} : CleanAll a b c (rowC (l.map sdPV)) = True := eq_true fun p hp => by
 simp only [rowC, List.mem_flatMap, List.mem_map] at hp
 obtain ⟨q, ⟨x, _, rfl⟩, hp⟩ := hp
 exact cleans_sd x p hp
attribute [go_sem] cA_row4
theorem ld4 {σ : Sg} {id : Nat} (hlt : id < σ.store.length) {l : List Std} {j : Nat} {x : Std} (h : l[j]? = some x) : ldA 4 (σ.setVar id (rowC (l.map sdPV))) id (j * 4) = some (.agg [I x.song, I x.points, I x.votes, I x.score]) := by
 have hj := (List.getElem?_eq_some_iff.1 h).1
 rw [ldA_at (sv_get hlt), if_pos (by rw [row4_len]; omega), row4_ld h]
theorem tl_take3 {id : Nat} {t : Tally} : List.take 3 (tlCells id t) = rdCells t.rd := rfl
/-- A tally that may be. -/
structure TlB (t : Tally) : Prop where
 pb : ∀ s, 0 ≤ t.pts s ∧ t.pts s ≤ 2 ^ 20
 vb : ∀ s, 0 ≤ t.vts s ∧ t.vts s ≤ 2 ^ 20
 wj : 0 ≤ t.rd.jury ∧ t.rd.jury ≤ 1000
 wm : 0 ≤ t.rd.member ∧ t.rd.member ≤ 1000
 kp : 1 ≤ t.rd.keep ∧ t.rd.keep ≤ t.songs.length
 sl : t.songs.length ≤ 8
 sg : ∀ s, s ∈ t.songs → 0 ≤ s ∧ s < 8
set_option maxHeartbeats 4000000 in
theorem standing_pc (Y : YEnv) (σ : Sg) (id : Nat) (t : Tally) (hT : TlB t) (s : Nat) (hs : s < 8) (p v : Int) (hp : -2 ^ 20 ≤ p ∧ p ≤ 2 ^ 20) (hv : -2 ^ 20 ≤ v ∧ v ≤ 2 ^ 20) :
 PC Tryz.prog Y 50 [tlPV id t, I s, I p, I v] σ (sdPV (stdT t s p v)) (σ) := by
 refine PC_of_W Tryz.func50 rfl (by kernel_rfl) Tryz.ntmps50 (by simp) fun hcl hca => ?_
 have hs8i : (s : Int) < 8 := by omega
 have hp1 := hT.pb s
 have hv1 := hT.vb s
 have hw1 : IntKind.i64.wrap (t.pts s + p) = t.pts s + p := wrapI (by omega) (by omega)
 have hw2 : IntKind.i64.wrap (t.vts s + v) = t.vts s + v := wrapI (by omega) (by omega)
 have hwj := hT.wj
 have hwm := hT.wm
 refine W_sr [1, 2, 3, 4, 8] fun R hR => ?_
 simp only [go_sem, hs8i, Nat.mul_one, tl_pts hs, tl_vts hs, hw1, hw2, tlPV]
 refine hR _ _ ?_; clear hR R
 try simp only [go_sem, hs8i, Nat.mul_one, tl_pts hs, tl_vts hs, hw1, hw2]
 refine W_seq fun Z2 K2 => ?_
 refine W_draw [8] [0, 1, 2, 3, 4, 5, 6, 7, 8, 9, 10, 11, 12, 13, 14, 15, 16, 17, 18, 19] [] [[], [], [], [2], [1, 2, 3], [1, 2, 3, 4], [], [1, 2, 3, 4, 5, 6], [], [], [9], [8, 9, 10], [8, 9, 10, 11], [], [8, 9, 10, 11, 12, 13], [0, 1, 2, 3, 4, 5, 6, 7, 8, 9, 10, 11, 12, 13, 14], [], [16], [0, 1, 2, 3, 4, 5, 6, 7, 8, 9, 10, 11, 12, 13, 14, 15, 16, 17], [0, 1, 2, 3, 4, 5, 6, 7, 8, 9, 10, 11, 12, 13, 14, 15, 16, 17, 18]] mixed (by kernel_rfl) fun R hR => ?_
 simp only [go_sem, hs8i, Nat.mul_one, tl_pts hs, tl_vts hs, hw1, hw2, tl_len, tl_take3]
 try simp (disch := omega) only [wrapI, wrapU]
 refine GCall_of (weigh_pc Y _ ⟨s, t.pts s + p, t.vts s + v, 0⟩ t.rd (by omega) (by omega) (by simp only; omega) (by simp only; omega)) ?_
 simp only [go_sem, hs8i, Nat.mul_one, tl_pts hs, tl_vts hs, hw1, hw2, tl_len, tl_take3]
 try simp (disch := omega) only [wrapI, wrapU]
 try refine And.intro (by repeat' (first | refine And.intro ?_ ?_ | exact GOr_right (fun _ => by simp only [go_sem, hs8i, Nat.mul_one, tl_pts hs, tl_vts hs, hw1, hw2, tl_len, tl_take3]))) ?_
 refine hR _ _ (K2 _ _ ?_); clear hR R; try clear K2 Z2
 try simp only [go_sem, hs8i, Nat.mul_one, tl_pts hs, tl_vts hs, hw1, hw2]
 refine W_ret ?_
 simp only [go_sem, hs8i, Nat.mul_one, tl_pts hs, tl_vts hs, hw1, hw2]
 refine ⟨.inr (by trivial), ?_⟩
 first | refine Fin_same hcl (by show resPV Tryz.prog _ _ [.cell 8 122] = some _; simp only [resPV, go_sem]; rfl) (Wk_eq ?_ (by simp only [go_sem])) | refine Fin_same hcl rfl (Wk_eq ?_ (by simp only [go_sem]))
 try simp only [go_sem]
 all_goals
  first | rfl | (simp [stdT]; done) | (simp only [stdT, Int.toNat_natCast]; rfl)
set_option maxHeartbeats 4000000 in
theorem insSort_pc (Y : YEnv) (σ : Sg) (id : Nat) (l : List Std) (hd : σ.store[id]? = some (some (rowC (l.map sdPV)))) (hl : 0 < l.length ∧ l.length ≤ 12) :
    PC Tryz.prog Y 112 [.gsl id l.length 4, I 0, I l.length, .func (.func 52) [] []] σ (.tuple []) (σ.setVar id (rowC ((sortSd l).map sdPV))) := by
  refine PC_of_W Tryz.func112 rfl (by kernel_rfl) Tryz.ntmps112 (by simp) fun hcl hca => ?_
  have hlt := lt_of_get hd
  obtain ⟨res, hres⟩ : ∃ r, sortSd l = r := ⟨_, rfl⟩
  rw [hres]
  obtain ⟨n, hn⟩ : ∃ z, l.length = z := ⟨_, rfl⟩
  rw [hn] at hl ⊢
  refine W_sr [0, 1, 2, 3, 8] fun R hR => ?_
  simp only [go_sem, ldS_at hd, stX_at hd, ldS_sv hlt, stX_sv hlt, sv_ext hlt, sv_ext_sv hlt]
  try simp (disch := omega) only [wrapI, wrapU]
  refine hR _ _ ?_; clear hR R
  try simp only [go_sem, ldS_at hd, stX_at hd, ldS_sv hlt, stX_sv hlt, sv_ext hlt, sv_ext_sv hlt]
  refine W_block ?_
  refine W_loopT (α := Nat × (List Std)) (fun ⟨i, m⟩ => [(8, I i)]) (fun ⟨i, m⟩ => σ.setVar id (rowC (m.map sdPV))) (fun ⟨i, m⟩ => 1 ≤ i ∧ i ≤ n ∧ m.length = n ∧ (∀ x, x ∈ m → x ∈ l) ∧ res = sinkAll (n - i) i m) (fun ⟨i, m⟩ => n - i) ((1, l)) rfl (by show σ.setVar id _ = σ; exact sv_self hd) (⟨Nat.le_refl _, by omega, hn, fun x hx => hx, by rw [← hres, sortSd, hn]⟩) ?_
  rintro ⟨i, m⟩ ⟨hi1, hi, hml, hmm, hinv⟩
  refine W_seq fun Z2 K2 => ?_
  refine W_sr [0, 1, 2, 3, 8, 14] fun R hR => ?_
  simp only [go_sem, ldS_at hd, stX_at hd, ldS_sv hlt, stX_sv hlt, sv_ext hlt, sv_ext_sv hlt]
  refine hR _ _ ?_; clear hR R
  try simp only [go_sem, ldS_at hd, stX_at hd, ldS_sv hlt, stX_sv hlt, sv_ext hlt, sv_ext_sv hlt]
  refine W_cond rfl (fun c1 => ?_) (fun c1 => ?_)
  ·
    try simp only [nrm] at c1
    have hin : i < n := by first | omega | (simp at c1; omega)
    rw [show n - i = (n - (i + 1)) + 1 by omega] at hinv
    simp only [sinkAll] at hinv
    refine W_skip (K2 _ _ ?_)
    refine W_seq fun Z4 K4 => ?_
    refine W_block ?_
    refine W_sr [0, 1, 2, 3, 8, 9] fun R hR => ?_
    simp only [go_sem, ldS_at hd, stX_at hd, ldS_sv hlt, stX_sv hlt, sv_ext hlt, sv_ext_sv hlt]
    refine hR _ _ ?_; clear hR R
    try simp only [go_sem, ldS_at hd, stX_at hd, ldS_sv hlt, stX_sv hlt, sv_ext hlt, sv_ext_sv hlt]
    refine W_block ?_
    refine W_loopT (α := Nat × (List Std)) (fun ⟨j, m2⟩ => [(9, I j)]) (fun ⟨j, m2⟩ => σ.setVar id (rowC (m2.map sdPV))) (fun ⟨j, m2⟩ => j ≤ i ∧ m2.length = n ∧ (∀ x, x ∈ m2 → x ∈ l) ∧ sink i m = sink j m2) (fun ⟨j, m2⟩ => j) ((i, m)) rfl (by first | rfl | (simp only [go_sem]; done) | (simp only [go_sem]; rfl)) (⟨Nat.le_refl _, hml, hmm, rfl⟩) ?_
    rintro ⟨j, m2⟩ ⟨hj, hm2l, hm2, hsk⟩
    refine W_seq fun Z6 K6 => ?_
    refine W_seq fun Z7 K7 => ?_
    refine W_draw [0, 1, 2, 3, 8, 9, 34] [0, 1, 2, 3, 4, 5, 6, 7, 8, 9, 10, 11, 12, 13, 14, 15, 16] [] [[], [], [0, 1], [0, 1, 2], [0, 1, 2, 3], [0, 1, 2, 3], [0, 1, 2, 3], [0, 1, 2, 3, 5, 6], [0, 1, 2, 3, 5, 6, 7], [0, 1, 2, 3], [0, 1, 2, 3], [0, 1, 2, 3, 10], [0, 1, 2, 3, 9, 10, 11], [0, 1, 2, 3, 9, 10, 11, 12], [0, 1, 2, 3, 4, 5, 6, 7, 8, 9, 10, 11, 12, 13], [0, 1, 2, 3, 4, 5, 6, 7, 8, 9, 10, 11, 12, 13, 14], [0, 1, 2, 3, 4, 5, 6, 7, 8, 9, 10, 11, 12, 13, 14, 15]] mixed (by kernel_rfl) fun R hR => ?_
    simp only [go_sem, ldS_at hd, stX_at hd, ldS_sv hlt, stX_sv hlt, sv_ext hlt, sv_ext_sv hlt]
    refine GWant_split (fun g1 => ?_) (fun g1 => ?_)
    · try simp only [Bool.not_eq_true', Bool.not_eq_false'] at g1
      have n1 := g1; try simp only [nrm] at n1
      obtain ⟨q, rfl⟩ : ∃ q, j = q + 1 := ⟨j - 1, by first | omega | (simp at g1; omega)⟩
      obtain ⟨x, hx⟩ : ∃ z, m2[q + 1]? = some z := ⟨m2[q + 1]'(by omega), by simp⟩
      obtain ⟨y, hy⟩ : ∃ z, m2[q]? = some z := ⟨m2[q]'(by omega), by simp⟩
      have hsk2 : sink (q + 1) m2 = if aheadS x y < 0 then sink q ((m2.set (q + 1) y).set q x) else m2 := by simp only [sink, hx, hy]
      have hq1 : ((q + 1 : Nat) : Int) < (n : Int) := by omega
      have hq0 : ((q : Nat) : Int) < (n : Int) := by omega
      have hz1 : (0 : Int) ≤ ((q + 1 : Nat) : Int) := by omega
      have hqw : IntKind.i64.wrap (((q + 1 : Nat) : Int) - 1) = (q : Int) := by rw [wrapI (by omega) (by omega)]; omega
      have l1 := ld4 hlt hx
      have l2 := ld4 hlt hy
      have s1 : decide ((q + 1) * 4 + 4 ≤ (rowC (List.map sdPV m2)).length) = true := by rw [row4_len]; simp; omega
      have s2 : decide (q * 4 + 4 ≤ (rowC (List.map sdPV (m2.set (q + 1) y))).length) = true := by rw [row4_len]; simp; omega
      have s3 := row4_put y (l := m2) (j := q + 1) (by omega)
      have s4 := row4_put x (l := m2.set (q + 1) y) (j := q) (by simp; omega)
      simp only [go_sem, ldS_at hd, stX_at hd, ldS_sv hlt, stX_sv hlt, sv_ext hlt, sv_ext_sv hlt, hqw, hq1, hq0, iaM_nat (Int.ofNat_lt.1 hq1), iaM_nat (Int.ofNat_lt.1 hq0), Nat.zero_add, l1, l2, s1, s2, s3, s4, g1]
      try simp (disch := omega) only [wrapI, wrapU]
      refine GCall_of (ahead_pc Y _ x y) ?_
      simp only [go_sem, ldS_at hd, stX_at hd, ldS_sv hlt, stX_sv hlt, sv_ext hlt, sv_ext_sv hlt, hqw, hq1, hq0, iaM_nat (Int.ofNat_lt.1 hq1), iaM_nat (Int.ofNat_lt.1 hq0), Nat.zero_add, l1, l2, s1, s2, s3, s4, g1]
      try simp (disch := omega) only [wrapI, wrapU]
      try refine And.intro (by repeat' (first | refine And.intro ?_ ?_ | exact GOr_right (fun _ => by simp only [go_sem, ldS_at hd, stX_at hd, ldS_sv hlt, stX_sv hlt, sv_ext hlt, sv_ext_sv hlt, hqw, hq1, hq0, iaM_nat (Int.ofNat_lt.1 hq1), iaM_nat (Int.ofNat_lt.1 hq0), Nat.zero_add, l1, l2, s1, s2, s3, s4]))) ?_
      refine hR _ _ (K7 _ _ ?_); clear hR R; try clear K7 Z7
      try simp only [go_sem, ldS_at hd, stX_at hd, ldS_sv hlt, stX_sv hlt, sv_ext hlt, sv_ext_sv hlt, hqw, hq1, hq0, iaM_nat (Int.ofNat_lt.1 hq1), iaM_nat (Int.ofNat_lt.1 hq0), Nat.zero_add, l1, l2, s1, s2, s3, s4]
      refine W_cond rfl (fun c2 => ?_) (fun c2 => ?_)
      ·
        try simp only [nrm] at c2
        skip
        refine W_skip (K6 _ _ ?_)
        refine W_seq fun Z8 K8 => ?_
        refine W_block ?_
        refine W_draw [0, 1, 2, 3, 8, 9] [0, 1, 2, 3, 4, 5, 6, 7, 8, 9, 10, 11, 12, 13, 14, 15, 16, 17] [(2, 17), (3, 17), (4, 17)] [[], [], [], [], [3], [], [], [6], [5, 6, 7], [5, 6, 7, 8], [], [], [10, 11], [10, 11, 12], [0, 1, 5, 6, 7, 8, 9, 10, 11, 12, 13], [0, 1, 5, 6, 7, 8, 9, 10, 11, 12, 13, 14], [0, 1, 2, 3, 4, 5, 6, 7, 8, 9, 10, 11, 12, 13, 14, 15], [0, 1, 2, 3, 4, 5, 6, 7, 8, 9, 10, 11, 12, 13, 14, 15, 16]] mixed (by kernel_rfl) fun R hR => ?_
        simp only [go_sem, ldS_at hd, stX_at hd, ldS_sv hlt, stX_sv hlt, sv_ext hlt, sv_ext_sv hlt, hqw, hq1, hq0, iaM_nat (Int.ofNat_lt.1 hq1), iaM_nat (Int.ofNat_lt.1 hq0), Nat.zero_add, l1, l2, s1, s2, s3, s4]
        try simp (disch := omega) only [wrapI, wrapU]
        try refine And.intro (by repeat' (first | refine And.intro ?_ ?_ | exact GOr_right (fun _ => by simp only [go_sem, ldS_at hd, stX_at hd, ldS_sv hlt, stX_sv hlt, sv_ext hlt, sv_ext_sv hlt, hqw, hq1, hq0, iaM_nat (Int.ofNat_lt.1 hq1), iaM_nat (Int.ofNat_lt.1 hq0), Nat.zero_add, l1, l2, s1, s2, s3, s4]))) ?_
        refine hR _ _ (K8 _ _ ?_); clear hR R; try clear K8 Z8
        try simp only [go_sem, ldS_at hd, stX_at hd, ldS_sv hlt, stX_sv hlt, sv_ext hlt, sv_ext_sv hlt, hqw, hq1, hq0, iaM_nat (Int.ofNat_lt.1 hq1), iaM_nat (Int.ofNat_lt.1 hq0), Nat.zero_add, l1, l2, s1, s2, s3, s4]
        refine W_region [0, 1, 2, 3, 8, 9] fun R hR => ?_
        simp only [go_sem, ldS_at hd, stX_at hd, ldS_sv hlt, stX_sv hlt, sv_ext hlt, sv_ext_sv hlt, hqw, hq1, hq0, iaM_nat (Int.ofNat_lt.1 hq1), iaM_nat (Int.ofNat_lt.1 hq0), Nat.zero_add, l1, l2, s1, s2, s3, s4]
        try simp (disch := omega) only [wrapI, wrapU]
        refine hR _ _ ?_; clear hR R
        try simp only [go_sem, ldS_at hd, stX_at hd, ldS_sv hlt, stX_sv hlt, sv_ext hlt, sv_ext_sv hlt, hqw, hq1, hq0, iaM_nat (Int.ofNat_lt.1 hq1), iaM_nat (Int.ofNat_lt.1 hq0), Nat.zero_add, l1, l2, s1, s2, s3, s4]
        refine ⟨(q, (m2.set (q + 1) y).set q x), ?_, by (try simp only []); omega, ?_⟩
        · first | exact Weak.refl | exact Wqq
        · try dsimp only
          refine ⟨by omega, by simp [hm2l], fun z hz => hm2 z (mem_set2 hx hy hz), ?_⟩
          rw [hsk, hsk2, if_pos (by simpa using c2)]
      ·
        try simp only [nrm] at c2
        skip
        refine W_exit ?_
        simp only [go_sem, ldS_at hd, stX_at hd, ldS_sv hlt, stX_sv hlt, sv_ext hlt, sv_ext_sv hlt, hqw, hq1, hq0, iaM_nat (Int.ofNat_lt.1 hq1), iaM_nat (Int.ofNat_lt.1 hq0), Nat.zero_add, l1, l2, s1, s2, s3, s4]
        refine K4 _ _ ?_
        refine W_region [0, 1, 2, 3, 8] fun R hR => ?_
        simp only [go_sem, ldS_at hd, stX_at hd, ldS_sv hlt, stX_sv hlt, sv_ext hlt, sv_ext_sv hlt, hqw, hq1, hq0, iaM_nat (Int.ofNat_lt.1 hq1), iaM_nat (Int.ofNat_lt.1 hq0), Nat.zero_add, l1, l2, s1, s2, s3, s4]
        try simp (disch := omega) only [wrapI, wrapU]
        refine hR _ _ ?_; clear hR R
        try simp only [go_sem, ldS_at hd, stX_at hd, ldS_sv hlt, stX_sv hlt, sv_ext hlt, sv_ext_sv hlt, hqw, hq1, hq0, iaM_nat (Int.ofNat_lt.1 hq1), iaM_nat (Int.ofNat_lt.1 hq0), Nat.zero_add, l1, l2, s1, s2, s3, s4]
        refine ⟨(i + 1, m2), ?_, by (try simp only []); omega, ?_⟩
        · first | exact Weak.refl | exact Wqq
        · try dsimp only
          refine ⟨by omega, by omega, hm2l, hm2, ?_⟩
          rw [hinv, hsk]
          first
          | rw [hsk2, if_neg (by simpa using c2)]
          | (have hj0 : j = 0 := by first | omega | (simp at g1; omega)
             subst hj0; rfl)
    · try simp only [Bool.not_eq_true', Bool.not_eq_false'] at g1
      have n1 := g1; try simp only [nrm] at n1
      simp only [go_sem, ldS_at hd, stX_at hd, ldS_sv hlt, stX_sv hlt, sv_ext hlt, sv_ext_sv hlt, g1]
      try simp (disch := omega) only [wrapI, wrapU]
      try refine And.intro (by repeat' (first | refine And.intro ?_ ?_ | exact GOr_right (fun _ => by simp only [go_sem, ldS_at hd, stX_at hd, ldS_sv hlt, stX_sv hlt, sv_ext hlt, sv_ext_sv hlt]))) ?_
      refine hR _ _ (K7 _ _ ?_); clear hR R; try clear K7 Z7
      try simp only [go_sem, ldS_at hd, stX_at hd, ldS_sv hlt, stX_sv hlt, sv_ext hlt, sv_ext_sv hlt]
      refine W_cond_false rfl ?_
      refine W_exit ?_
      simp only [go_sem, ldS_at hd, stX_at hd, ldS_sv hlt, stX_sv hlt, sv_ext hlt, sv_ext_sv hlt]
      refine K4 _ _ ?_
      refine W_region [0, 1, 2, 3, 8] fun R hR => ?_
      simp only [go_sem, ldS_at hd, stX_at hd, ldS_sv hlt, stX_sv hlt, sv_ext hlt, sv_ext_sv hlt]
      try simp (disch := omega) only [wrapI, wrapU]
      refine hR _ _ ?_; clear hR R
      try simp only [go_sem, ldS_at hd, stX_at hd, ldS_sv hlt, stX_sv hlt, sv_ext hlt, sv_ext_sv hlt]
      refine ⟨(i + 1, m2), ?_, by (try simp only []); omega, ?_⟩
      · first | exact Weak.refl | exact Wqq
      · try dsimp only
        refine ⟨by omega, by omega, hm2l, hm2, ?_⟩
        rw [hinv, hsk]
        first
        | rw [hsk2, if_neg (by simpa using c2)]
        | (have hj0 : j = 0 := by first | omega | (simp at g1; omega)
           subst hj0; rfl)
  ·
    try simp only [nrm] at c1
    have hie : n = i := by first | omega | (simp at c1; omega)
    subst hie
    rw [Nat.sub_self] at hinv
    simp only [sinkAll] at hinv
    subst hinv
    refine W_exit ?_
    simp only [go_sem, ldS_at hd, stX_at hd, ldS_sv hlt, stX_sv hlt, sv_ext hlt, sv_ext_sv hlt]
    try simp only [go_sem, ldS_at hd, stX_at hd, ldS_sv hlt, stX_sv hlt, sv_ext hlt, sv_ext_sv hlt]
    refine ⟨.inl (by trivial), ?_⟩
    first | refine Fin_set hcl (by simp only [go_sem]) rfl (Wk_eq ?_ (by simp only [go_sem])) | refine Fin_set0 hcl (by simp only [go_sem]) rfl (Wk_eq ?_ (by simp only [go_sem]))
    try simp only [go_sem]
    all_goals
      skip
set_option maxHeartbeats 2000000 in
theorem pdqSort_pc (Y : YEnv) (σ : Sg) (id : Nat) (l : List Std) (hd : σ.store[id]? = some (some (rowC (l.map sdPV)))) (hl : 0 < l.length ∧ l.length ≤ 12) (lim : Int) :
 PC Tryz.prog Y 98 [.gsl id l.length 4, I 0, I l.length, I lim, .func (.func 52) [] []] σ (.tuple []) (σ.setVar id (rowC ((sortSd l).map sdPV))) := by
 refine PC_of_W Tryz.func98 rfl (by kernel_rfl) Tryz.ntmps98 (by simp) fun hcl hca => ?_
 have hlt := lt_of_get hd
 have hl2 : (l.length : Int) ≤ 12 := by omega
 refine W_sr [0, 1, 2, 3, 4, 10] fun R hR => ?_
 simp only [go_sem, ldS_at hd, stX_at hd, ldS_sv hlt, stX_sv hlt, sv_ext hlt, sv_ext_sv hlt]
 refine hR _ _ ?_; clear hR R
 try simp only [go_sem, ldS_at hd, stX_at hd, ldS_sv hlt, stX_sv hlt, sv_ext hlt, sv_ext_sv hlt]
 refine W_sr [0, 1, 2, 3, 4, 10, 11] fun R hR => ?_
 simp only [go_sem, ldS_at hd, stX_at hd, ldS_sv hlt, stX_sv hlt, sv_ext hlt, sv_ext_sv hlt]
 refine hR _ _ ?_; clear hR R
 try simp only [go_sem, ldS_at hd, stX_at hd, ldS_sv hlt, stX_sv hlt, sv_ext hlt, sv_ext_sv hlt]
 refine W_block ?_
 refine W_loopS (α := Nat) (fun (z : Nat) => []) (fun (z : Nat) => True) (fun (z : Nat) => 0) (0) rfl (trivial) ?_
 rintro z _
 refine W_block ?_
 refine W_sr [0, 1, 2, 3, 4, 10, 11, 12] fun R hR => ?_
 simp only [go_sem, ldS_at hd, stX_at hd, ldS_sv hlt, stX_sv hlt, sv_ext hlt, sv_ext_sv hlt]
 try simp (disch := omega) only [wrapI, wrapU]
 refine hR _ _ ?_; clear hR R
 try simp only [go_sem, ldS_at hd, stX_at hd, ldS_sv hlt, stX_sv hlt, sv_ext hlt, sv_ext_sv hlt]
 refine W_seq fun Z4 K4 => ?_
 refine W_sr [0, 1, 2, 3, 4, 10, 11, 12, 25] fun R hR => ?_
 simp only [go_sem, ldS_at hd, stX_at hd, ldS_sv hlt, stX_sv hlt, sv_ext hlt, sv_ext_sv hlt]
 refine hR _ _ ?_; clear hR R
 try simp only [go_sem, ldS_at hd, stX_at hd, ldS_sv hlt, stX_sv hlt, sv_ext hlt, sv_ext_sv hlt]
 refine W_cond rfl (fun c1 => ?_) (fun c1 => ?_)
 ·
  try simp only [nrm] at c1
  refine W_sr [] fun R hR => ?_
  simp only [go_sem, ldS_at hd, stX_at hd, ldS_sv hlt, stX_sv hlt, sv_ext hlt, sv_ext_sv hlt]
  refine GCall_of (insSort_pc Y _ id l hd hl) ?_
  simp only [go_sem, ldS_at hd, stX_at hd, ldS_sv hlt, stX_sv hlt, sv_ext hlt, sv_ext_sv hlt]
  refine hR _ _ ?_; clear hR R
  try simp only [go_sem, ldS_at hd, stX_at hd, ldS_sv hlt, stX_sv hlt, sv_ext hlt, sv_ext_sv hlt]
  refine W_ret ?_
  simp only [go_sem, ldS_at hd, stX_at hd, ldS_sv hlt, stX_sv hlt, sv_ext hlt, sv_ext_sv hlt]
  refine ⟨.inr (by trivial), ?_⟩
  first | refine Fin_set hcl (by simp only [go_sem]) rfl (Wk_eq ?_ (by simp only [go_sem])) | refine Fin_set0 hcl (by simp only [go_sem]) rfl (Wk_eq ?_ (by simp only [go_sem]))
  try simp only [go_sem]
  all_goals
   skip
 try simp only [nrm] at c1
 exfalso
 first | omega | (simp at c1; omega)
set_option maxHeartbeats 2000000 in
theorem sortFunc_pc (Y : YEnv) (σ : Sg) (id : Nat) (l : List Std) (hd : σ.store[id]? = some (some (rowC (l.map sdPV)))) (hl : 0 < l.length ∧ l.length ≤ 12) :
 PC Tryz.prog Y 84 [.gsl id l.length 4, .func (.func 52) [] []] σ (.tuple []) (σ.setVar id (rowC ((sortSd l).map sdPV))) := by
 refine PC_of_W Tryz.func84 rfl (by kernel_rfl) Tryz.ntmps84 (by simp) fun hcl hca => ?_
 have hlt := lt_of_get hd
 refine W_sr [0, 1, 4] fun R hR => ?_
 simp only [go_sem, ldS_at hd, stX_at hd, ldS_sv hlt, stX_sv hlt, sv_ext hlt, sv_ext_sv hlt]
 refine hR _ _ ?_; clear hR R
 try simp only [go_sem, ldS_at hd, stX_at hd, ldS_sv hlt, stX_sv hlt, sv_ext hlt, sv_ext_sv hlt]
 refine W_region [] fun R hR => ?_
 simp only [go_sem, ldS_at hd, stX_at hd, ldS_sv hlt, stX_sv hlt, sv_ext hlt, sv_ext_sv hlt]
 try simp (disch := omega) only [wrapI, wrapU]
 refine GCall_of (bitsLen_pc Y _ l.length (by omega) (by omega)) ?_
 simp only [go_sem, ldS_at hd, stX_at hd, ldS_sv hlt, stX_sv hlt, sv_ext hlt, sv_ext_sv hlt]
 try simp (disch := omega) only [wrapI, wrapU]
 refine GCall_of (pdqSort_pc Y _ id l hd hl _) ?_
 simp only [go_sem, ldS_at hd, stX_at hd, ldS_sv hlt, stX_sv hlt, sv_ext hlt, sv_ext_sv hlt]
 try simp (disch := omega) only [wrapI, wrapU]
 refine hR _ _ ?_; clear hR R
 try simp only [go_sem, ldS_at hd, stX_at hd, ldS_sv hlt, stX_sv hlt, sv_ext hlt, sv_ext_sv hlt]
 try simp only [go_sem, ldS_at hd, stX_at hd, ldS_sv hlt, stX_sv hlt, sv_ext hlt, sv_ext_sv hlt]
 refine ⟨.inl (by trivial), ?_⟩
 first | refine Fin_set hcl (by simp only [go_sem]) rfl (Wk_eq ?_ (by simp only [go_sem])) | refine Fin_set0 hcl (by simp only [go_sem]) rfl (Wk_eq ?_ (by simp only [go_sem]))
 try simp only [go_sem]
 all_goals
  skip
set_option maxHeartbeats 2000000 in
theorem CloneS_pc (Y : YEnv) (σ : Sg) (l : List Std) (o : Own) (hl : 0 < l.length ∧ l.length ≤ 12) :
 PC Tryz.prog Y 83 [.isl (l.map sdPV) o] σ (.gsl σ.store.length l.length 4) (σ.ext [some (rowC (l.map sdPV))] []) := by
 refine PC_of_W Tryz.func83 rfl (by kernel_rfl) Tryz.ntmps83 (by simp) fun hcl hca => ?_
 have hne : l ≠ [] := by intro e; subst e; simp at hl
 refine W_sr [0] fun R hR => ?_
 simp only [go_sem]
 refine hR _ _ ?_; clear hR R
 try simp only [go_sem]
 refine W_seq fun Z2 K2 => ?_
 refine W_seq fun Z3 K3 => ?_
 refine W_isnil [0, 4] (by decide) (by decide) rfl Tryz.underlying120 fun bn hbn => ?_
 refine K3 _ _ ?_
 try simp only [go_sem]
 refine W_cond rfl (fun c1 => ?_) (fun c1 => ?_)
 ·exact absurd (by simpa using hbn c1) hne
 refine W_skip (K2 _ _ ?_)
 refine W_seq fun Z4 K4 => ?_
 refine W_regionN [2] 2 fun R hR => ?_
 simp only [GLw, go_sem]
 refine ⟨_, _, Weak.gnil (t := 5) (by simp only [go_sem]), ?_⟩
 simp only [go_sem]
 rw [appG_nil (by simp [PV.cells, PV.scalar, sdPV, sdCells]) (by simpa using hl.1) (by simp; omega)]
 simp only [go_sem]
 refine hR _ _ (K4 _ _ ?_); clear hR R; try clear K4 Z4
 try simp only [go_sem]
 refine W_ret ?_
 simp only [go_sem]
 refine ⟨.inr (by trivial), ?_⟩
 refine Fin_ext (σ := σ) (l := [some (rowC (l.map sdPV))]) (rm := []) 1 0 hcl rfl (Wk_eq rfl (by simp only [go_sem] <;> omega)) (by show CleanLs _ _ _ _; simp only [go_sem])
set_option maxHeartbeats 2000000 in
theorem sorted_pc (Y : YEnv) (σ : Sg) (l : List Std) (o : Own) (hl : 0 < l.length ∧ l.length ≤ 12) :
 PC Tryz.prog Y 51 [.isl (l.map sdPV) o, .func (.func 52) [] []] σ (sds (sortSd l)) (σ) := by
 refine PC_of_W Tryz.func51 rfl (by kernel_rfl) Tryz.ntmps51 (by simp) fun hcl hca => ?_
 refine W_sr [0, 1] fun R hR => ?_
 simp only [go_sem]
 refine hR _ _ ?_; clear hR R
 try simp only [go_sem]
 refine W_sr [0, 1] fun R hR => ?_
 simp only [go_sem]
 refine GCall_of (CloneS_pc Y _ l o hl) ?_
 simp only [go_sem]
 refine hR _ _ ?_; clear hR R
 try simp only [go_sem]
 refine W_sr [0] fun R hR => ?_
 simp only [go_sem]
 refine GCall_of (sortFunc_pc Y _ σ.store.length l (Sg.get_ext0 ..) hl) ?_
 simp only [go_sem]
 refine hR _ _ ?_; clear hR R
 try simp only [go_sem]
 refine W_seq fun Z4 K4 => ?_
 refine W_weak (Weak.freeze (t := 0) (id := σ.store.length) (len := l.length) (es := 4) (l := (sortSd l).map sdPV) rfl (Sg.get_ext0 ..) (by simp [sortSd_len]) (fun q hq => by obtain ⟨x, _, rfl⟩ := List.mem_map.1 hq; rfl)) ?_
 simp only [go_sem]
 refine W_region [4] fun R hR => ?_
 simp only [go_sem]
 refine hR _ _ (K4 _ _ ?_); clear hR R; try clear K4 Z4
 try simp only [go_sem]
 refine W_ret ?_
 simp only [go_sem]
 refine ⟨.inr (by trivial), ?_⟩
 first | refine Fsa hcl rfl ?_ | refine Fse hcl rfl ?_
 try simp only [go_sem]
 all_goals
  first | rfl | simp only [go_sem]
/-- Numbers that grow in a cell: in one variable. -/
def glK (n : Nat) : List Int → PV
 | [] => .gnil
 | k :: ks => .gsl n (ks.length + 1) 1
def gsK : List Int → List (Option (List PV))
 | [] => []
 | k :: ks => [some (I k :: ks.map I)]
theorem glK_nil {n : Nat} : glK n [] = .gnil := rfl
theorem glK_cons {n : Nat} {k : Int} {ks : List Int} : glK n (k :: ks) = .gsl n (ks.length + 1) 1 := rfl
theorem gsK_nil : gsK [] = [] := rfl
theorem gsK_cons {k : Int} {ks : List Int} : gsK (k :: ks) = [some (I k :: ks.map I)] := rfl
theorem appG1_nil {σ : Sg} {l : List (Option (List PV))} {rm : List Nat} {ys : List LState} {x : Int} : appG 1 8 (σ.ext l rm ys) .gnil [.int .i64 x] = some (.gsl (σ.store.length + l.length) 1 1, σ.ext (l ++ [some [.int .i64 x]]) rm ys) := by
 rw [appG_nil (by rfl) (by simp) (by simp), Sg.push_ext, Sg.len_ext]; rfl
theorem appG1_4 {σ : Sg} {a b c : Option (List PV)} {r : List (Option (List PV))} {rm : List Nat} {ys : List LState} {x k : Int} {ks : List Int} (hb : ks.length ≤ 2 ^ 20) : appG 1 8 (σ.ext (a :: b :: c :: some (I k :: ks.map I) :: r) rm ys) (.gsl (σ.store.length + 3) (ks.length + 1) 1) [.int .i64 x] = some (.gsl (σ.store.length + (r.length + 4)) (ks.length + 2) 1, σ.ext (a :: b :: c :: none :: (r ++ [some (I k :: (ks ++ [x]).map I)])) rm ys) := by
 rw [appG_more (cs := I k :: ks.map I) (by rw [Sg.get_ext]; rfl) (by simp) (by rfl) (by simp) (by simp; omega), Sg.drop_ext, Sg.push_ext, Sg.len_ext]
 simp [rowC]
theorem tl_take21 {id : Nat} {t : Tally} : List.take 21 (tlCells id t) = tlCells id t := rfl
def zeroRs : List PV := [.isl [] .exact, .isl [] .exact, .isl [] .exact, .isl [] .exact, .isl [] .exact]
theorem cleans_zr {a b c : Nat} : CleanAll a b c zeroRs = True := by simp only [zeroRs, go_sem]
attribute [go_sem] cleans_zr
set_option maxHeartbeats 8000000 in
theorem result_pc (Y : YEnv) (σ : Sg) (id : Nat) (t : Tally) (hT : TlB t) :
 PC Tryz.prog Y 24 [tlPV id t] σ (rsPV (resT t)) (σ) := by
 refine PC_of_W Tryz.func24 rfl (by kernel_rfl) Tryz.ntmps24 (by simp) fun hcl hca => ?_
 have hid : id < σ.store.length := by
  have := hca (tlPV id t) (by simp)
  exact C_tl.mp this
 have hsl := hT.sl
 have hkp := hT.kp
 obtain ⟨A, hA⟩ : ∃ z, allT t = z := ⟨_, rfl⟩
 have hAl : A.length = t.songs.length := by rw [← hA]; simp [allT]
 obtain ⟨kn, hkn⟩ : ∃ z : Nat, t.rd.keep = z := ⟨t.rd.keep.toNat, by omega⟩
 refine W_sr [1, 2] fun R hR => ?_
 simp only [go_sem, glK_nil, glK_cons, gsK_nil, gsK_cons, List.cons_append, List.nil_append, tlPV]
 refine hR _ _ ?_; clear hR R
 try simp only [go_sem, glK_nil, glK_cons, gsK_nil, gsK_cons, List.cons_append, List.nil_append]
 refine W_sr [1, 2, 3] fun R hR => ?_
 simp only [go_sem, glK_nil, glK_cons, gsK_nil, gsK_cons, List.cons_append, List.nil_append]
 refine hR _ _ ?_; clear hR R
 try simp only [go_sem, glK_nil, glK_cons, gsK_nil, gsK_cons, List.cons_append, List.nil_append]
 refine W_seq fun Z3 K3 => ?_
 refine W_weak (Weak.eq (σ' := σ.ext [some (tlCells id t), some zeroRs, some zeroRs] []) rfl rfl) ?_
 refine W_region [1, 2, 3, 4] fun R hR => ?_
 simp only [go_sem, glK_nil, glK_cons, gsK_nil, gsK_cons, List.cons_append, List.nil_append]
 refine hR _ _ (K3 _ _ ?_); clear hR R; try clear K3 Z3
 try simp only [go_sem, glK_nil, glK_cons, gsK_nil, gsK_cons, List.cons_append, List.nil_append]
 refine W_seq fun Z4 K4 => ?_
 refine W_sr [1, 2, 3, 4, 11, 12, 13] fun R hR => ?_
 simp only [go_sem, glK_nil, glK_cons, gsK_nil, gsK_cons, List.cons_append, List.nil_append, tl_songs]
 refine hR _ _ ?_; clear hR R
 try simp only [go_sem, glK_nil, glK_cons, gsK_nil, gsK_cons, List.cons_append, List.nil_append]
 refine W_block ?_
 simp only [zeroRs]
 refine W_weak (Weak.roomX (j := 2) (off := 0) (es := 1) rfl rfl (by simp)) ?_
 simp only [go_sem, glK_nil, glK_cons, gsK_nil, gsK_cons, List.cons_append, List.nil_append]
 refine W_weak (Weak.roomX (j := 2) (off := 1) (es := 1) rfl rfl (by simp)) ?_
 simp only [go_sem, glK_nil, glK_cons, gsK_nil, gsK_cons, List.cons_append, List.nil_append]
 refine W_weak (Weak.roomX (j := 2) (off := 2) (es := 1) rfl rfl (by simp)) ?_
 simp only [go_sem, glK_nil, glK_cons, gsK_nil, gsK_cons, List.cons_append, List.nil_append]
 refine W_weak (Weak.roomX (j := 2) (off := 3) (es := 1) rfl rfl (by simp)) ?_
 simp only [go_sem, glK_nil, glK_cons, gsK_nil, gsK_cons, List.cons_append, List.nil_append]
 refine W_weak (Weak.room (t := 4) (es := 4) rfl (by simp)) ?_
 refine W_weak (Weak.keep [1, 2, 3, 4, 11, 12, 13]) ?_
 simp only [go_sem, glK_nil, glK_cons, gsK_nil, gsK_cons, List.cons_append, List.nil_append]
 refine W_loopT (α := Nat) (fun (i : Nat) => [(4, .isl ((A.take i).map sdPV) (.tok (σ.rooms.length + 4) i 4)), (13, I i)]) (fun (i : Nat) => σ.ext [some (tlCells id t), some zeroRs, some [.isl ((t.songs.take i).map I) (.tok σ.rooms.length i 1), .isl (((A.take i).map (·.points)).map I) (.tok (σ.rooms.length + 1) i 1), .isl (((A.take i).map (·.votes)).map I) (.tok (σ.rooms.length + 2) i 1), .isl (((A.take i).map (·.score)).map I) (.tok (σ.rooms.length + 3) i 1), .isl [] .exact]] [i, i, i, i, i]) (fun (i : Nat) => i ≤ t.songs.length) (fun (i : Nat) => t.songs.length - i) (0) rfl (by first | rfl | (simp only [go_sem]; done) | (simp only [go_sem]; rfl)) (Nat.zero_le _) ?_
 rintro i hi
 refine W_sr [1, 2, 3, 4, 11, 12, 13, 14] fun R hR => ?_
 simp only [go_sem, glK_nil, glK_cons, gsK_nil, gsK_cons, List.cons_append, List.nil_append]
 refine hR _ _ ?_; clear hR R
 try simp only [go_sem, glK_nil, glK_cons, gsK_nil, gsK_cons, List.cons_append, List.nil_append]
 refine W_seq fun Z7 K7 => ?_
 refine W_cond rfl (fun c1 => ?_) (fun c1 => ?_)
 ·
  try simp only [nrm] at c1
  have hi' : i < t.songs.length := by first | assumption | omega
  obtain ⟨s, hx⟩ : ∃ s, t.songs[i]? = some s := ⟨t.songs[i], by simp [hi']⟩
  have hdrop : t.songs.drop i = s :: t.songs.drop (i + 1) := by
   rw [List.drop_eq_getElem_cons hi']; congr 1; exact (List.getElem?_eq_some_iff.1 hx).2
  have hsb := hT.sg s (List.mem_of_getElem? hx)
  obtain ⟨sn, rfl⟩ : ∃ z : Nat, s = z := ⟨s.toNat, by omega⟩
  have hs8 : sn < 8 := by omega
  have hxA : A[i]? = some (stdT t sn 0 0) := by rw [← hA]; simp [allT, hx]
  have hS1 : t.songs.take (i + 1) = t.songs.take i ++ [(sn : Int)] := by rw [List.take_add_one, hx]; rfl
  have hA1 : A.take (i + 1) = A.take i ++ [stdT t sn 0 0] := by rw [List.take_add_one, hxA]; rfl
  have hil : i + 1 < 100 := by omega
  have htl1 : (t.songs.take i).length = i := by rw [List.length_take]; omega
  have htl2 : (A.take i).length = i := by rw [List.length_take]; omega
  refine W_skip (K7 _ _ ?_)
  refine W_seq fun Z8 K8 => ?_
  refine W_block ?_
  refine W_sr [1, 2, 3, 4, 6, 11, 12, 13] fun R hR => ?_
  simp only [go_sem, glK_nil, glK_cons, gsK_nil, gsK_cons, List.cons_append, List.nil_append, hx]
  refine hR _ _ ?_; clear hR R
  try simp only [go_sem, glK_nil, glK_cons, gsK_nil, gsK_cons, List.cons_append, List.nil_append, hx]
  refine W_sr [1, 2, 3, 4, 6, 7, 11, 12, 13] fun R hR => ?_
  simp only [go_sem, glK_nil, glK_cons, gsK_nil, gsK_cons, List.cons_append, List.nil_append, hx, tlPV, tl_len, tl_take21]
  refine GCall_of (standing_pc Y _ id t hT sn hs8 0 0 (by omega) (by omega)) ?_
  simp only [go_sem, glK_nil, glK_cons, gsK_nil, gsK_cons, List.cons_append, List.nil_append, hx, tlPV, tl_len, tl_take21]
  refine hR _ _ ?_; clear hR R
  try simp only [go_sem, glK_nil, glK_cons, gsK_nil, gsK_cons, List.cons_append, List.nil_append, hx]
  refine W_sr [1, 2, 3, 4, 6, 7, 11, 12, 13] fun R hR => ?_
  simp only [go_sem, glK_nil, glK_cons, gsK_nil, gsK_cons, List.cons_append, List.nil_append, hx]
  try simp (disch := first | omega | (simp only [go_sem] <;> omega)) only [wrapI, wrapU, appX_exact, appX_tok]
  try simp only [go_sem, glK_nil, glK_cons, gsK_nil, gsK_cons, List.cons_append, List.nil_append, hx]
  refine hR _ _ ?_; clear hR R
  try simp only [go_sem, glK_nil, glK_cons, gsK_nil, gsK_cons, List.cons_append, List.nil_append, hx]
  refine W_draw [1, 2, 3, 4, 11, 12, 13] [0, 1, 2, 3, 4, 5, 6, 7, 8, 9, 10, 11, 12, 13, 14, 15, 16, 17, 18, 19, 20, 21, 22, 23, 24, 25, 26, 27, 28, 29, 30] [(5, 4), (6, 4), (7, 4), (8, 4), (9, 4), (11, 4), (11, 10), (12, 4), (12, 10), (13, 4), (13, 10), (14, 4), (14, 10), (15, 4), (15, 10), (17, 4), (17, 10), (17, 16), (18, 4), (18, 10), (18, 16), (19, 4), (19, 10), (19, 16), (20, 4), (20, 10), (20, 16), (21, 4), (21, 10), (21, 16), (23, 10), (23, 16), (23, 22)] [[], [0], [], [2], [0, 1, 2, 3], [], [5], [], [7], [7, 8], [0, 1, 2, 3, 4, 5, 6, 7, 8, 9], [], [11], [], [13], [13, 14], [0, 1, 2, 3, 4, 5, 6, 7, 8, 9, 10, 11, 12, 13, 14, 15], [], [17], [], [19], [19, 20], [0, 1, 2, 3, 4, 5, 6, 7, 8, 9, 10, 11, 12, 13, 14, 15, 16, 17, 18, 19, 20, 21], [0, 1, 2, 3, 4, 5, 6, 11, 12, 17, 18], [0, 1, 2, 3, 4, 5, 6, 7, 8, 9, 10, 11, 12, 13, 14, 15, 16, 17, 18, 19, 20, 21, 22, 23], [0, 1, 2, 3, 4, 5, 6, 7, 8, 9, 10, 11, 12, 13, 14, 15, 16, 17, 18, 19, 20, 21, 22, 23, 24], [0, 1, 2, 3, 4, 5, 6, 7, 8, 9, 10, 11, 12, 13, 14, 15, 16, 17, 18, 19, 20, 21, 22, 23, 24, 25], [0, 1, 2, 3, 4, 5, 6, 7, 8, 9, 10, 11, 12, 13, 14, 15, 16, 17, 18, 19, 20, 21, 22, 23, 24, 25, 26], [0, 1, 2, 3, 4, 5, 6, 7, 8, 9, 10, 11, 12, 13, 14, 15, 16, 17, 18, 19, 20, 21, 22, 23, 24, 25, 26, 27], [0, 1, 2, 3, 4, 5, 6, 7, 8, 9, 10, 11, 12, 13, 14, 15, 16, 17, 18, 19, 20, 21, 22, 23, 24, 25, 26, 27, 28], [0, 1, 2, 3, 4, 5, 6, 7, 8, 9, 10, 11, 12, 13, 14, 15, 16, 17, 18, 19, 20, 21, 22, 23, 24, 25, 26, 27, 28, 29]] mixed (by kernel_rfl) fun R hR => ?_
  simp only [go_sem, glK_nil, glK_cons, gsK_nil, gsK_cons, List.cons_append, List.nil_append, hx]
  try simp (disch := first | omega | (simp only [go_sem] <;> omega)) only [wrapI, wrapU, appX_exact, appX_tok]
  try simp only [go_sem, glK_nil, glK_cons, gsK_nil, gsK_cons, List.cons_append, List.nil_append, hx]
  try simp (disch := first | omega | (simp only [go_sem] <;> omega)) only [wrapI, wrapU, appX_exact, appX_tok]
  try simp only [go_sem, glK_nil, glK_cons, gsK_nil, gsK_cons, List.cons_append, List.nil_append, hx]
  try simp (disch := first | omega | (simp only [go_sem] <;> omega)) only [wrapI, wrapU, appX_exact, appX_tok]
  try simp only [go_sem, glK_nil, glK_cons, gsK_nil, gsK_cons, List.cons_append, List.nil_append, hx]
  try simp (disch := first | omega | (simp only [go_sem] <;> omega)) only [wrapI, wrapU, appX_exact, appX_tok]
  try simp only [go_sem, glK_nil, glK_cons, gsK_nil, gsK_cons, List.cons_append, List.nil_append, hx]
  try refine And.intro (by repeat' (first | refine And.intro ?_ ?_ | exact GOr_right (fun _ => by simp only [go_sem, glK_nil, glK_cons, gsK_nil, gsK_cons, List.cons_append, List.nil_append, hx]))) ?_
  refine hR _ _ (K8 _ _ ?_); clear hR R; try clear K8 Z8
  try simp only [go_sem, glK_nil, glK_cons, gsK_nil, gsK_cons, List.cons_append, List.nil_append, hx]
  refine W_region [1, 2, 3, 4, 11, 12, 13] fun R hR => ?_
  simp only [go_sem, glK_nil, glK_cons, gsK_nil, gsK_cons, List.cons_append, List.nil_append, hx]
  try simp (disch := omega) only [wrapI, wrapU]
  refine hR _ _ ?_; clear hR R
  try simp only [go_sem, glK_nil, glK_cons, gsK_nil, gsK_cons, List.cons_append, List.nil_append, hx]
  refine ⟨i + 1, ?_, by (try simp only []); omega, ?_⟩
  ·refine Weak.trans (Weak.cutX 3 5 (by omega) (by omega) hcl (by simp only [go_sem] <;> omega) (by simp only [go_sem] <;> omega)) ?_
   simp only [go_sem]
   exact Weak.eq (by rw [hA1]; simp only [List.map_append, List.map_cons, List.map_nil]; first | done | rfl) (by rw [hS1, hA1]; simp only [List.map_append, List.map_cons, List.map_nil]; first | done | rfl)
  try dsimp only
  exact hi'
 try simp only [nrm] at c1
 have hie : i = t.songs.length := by first | omega | (simp at c1; omega)
 subst hie
 have hS2 : t.songs.take t.songs.length = t.songs := List.take_length
 have hA2 : A.take t.songs.length = A := by rw [← hAl]; exact List.take_length
 simp only [hS2, hA2]
 refine W_exit ?_
 simp only [go_sem, glK_nil, glK_cons, gsK_nil, gsK_cons, List.cons_append, List.nil_append]
 refine K4 _ _ ?_
 refine W_seq fun Z12 K12 => ?_
 refine W_seq fun Z13 K13 => ?_
 have hk0 : (0 : Int) ≤ (kn : Int) := by omega
 have hkl : kn ≤ (sortSd A).length := by rw [sortSd_len]; omega
 refine W_draw [2, 3, 57, 58, 59] [0, 1, 2, 3, 4, 5, 6, 7] [(2, 1), (3, 1), (4, 1), (7, 1)] [[], [0], [], [2], [2, 3], [0, 1, 2, 3, 4], [0, 1, 2, 3, 4, 5], []] mixed (by kernel_rfl) fun R hR => ?_
 simp only [go_sem, glK_nil, glK_cons, gsK_nil, gsK_cons, List.cons_append, List.nil_append, tl_keep, hkn, hk0, hkl, Int.toNat_natCast]
 refine GCall_of (sorted_pc Y _ A _ (by omega)) ?_
 simp only [go_sem, glK_nil, glK_cons, gsK_nil, gsK_cons, List.cons_append, List.nil_append, tl_keep, hkn, hk0, hkl, Int.toNat_natCast]
 try refine And.intro (by repeat' (first | refine And.intro ?_ ?_ | exact GOr_right (fun _ => by simp only [go_sem, glK_nil, glK_cons, gsK_nil, gsK_cons, List.cons_append, List.nil_append, tl_keep, hkn, hk0, hkl, Int.toNat_natCast]))) ?_
 refine hR _ _ (K13 _ _ ?_); clear hR R; try clear K13 Z13
 try simp only [go_sem, glK_nil, glK_cons, gsK_nil, gsK_cons, List.cons_append, List.nil_append]
 refine W_block ?_
 obtain ⟨L, hL⟩ : ∃ z, (sortSd A).take kn = z := ⟨_, rfl⟩
 have hLl : L.length = kn := by rw [← hL, List.length_take]; omega
 simp only [← List.map_take, hL]
 refine W_weak (Weak.roX (j := 2) (off := 0) rfl rfl) ?_
 simp only [go_sem]
 refine W_weak (Weak.roX (j := 2) (off := 1) rfl rfl) ?_
 simp only [go_sem]
 refine W_weak (Weak.roX (j := 2) (off := 2) rfl rfl) ?_
 simp only [go_sem]
 refine W_weak (Weak.roX (j := 2) (off := 3) rfl rfl) ?_
 simp only [go_sem]
 refine W_weak (Weak.gnilX (j := 2) (off := 4) rfl rfl) ?_
 simp only [go_sem]
 refine W_weak (Weak.cutX 3 0 (by omega) (by omega) hcl (by simp only [go_sem] <;> omega) (by simp only [go_sem] <;> omega)) ?_
 simp only [go_sem]
 refine W_loopT (α := Nat × (List Int)) (fun ⟨i, ks⟩ => [(59, I i)]) (fun ⟨i, ks⟩ => σ.ext ([some (tlCells id t), some zeroRs, some [ints t.songs, ints (A.map (·.points)), ints (A.map (·.votes)), ints (A.map (·.score)), glK (σ.store.length + 3) ks]] ++ gsK ks) []) (fun ⟨i, ks⟩ => i ≤ L.length ∧ ks = (L.take i).map (·.song)) (fun ⟨i, ks⟩ => L.length - i) ((0, [])) rfl (by first | rfl | (simp only [go_sem]; done) | (simp only [go_sem]; rfl)) (⟨Nat.zero_le _, rfl⟩) ?_
 rintro ⟨i, ks⟩ ⟨hi, hks⟩
 rcases ks with _ | ⟨k0, kt⟩
 ·skip
  refine W_sr [2, 3, 57, 58, 59, 60] fun R hR => ?_
  simp only [go_sem, glK_nil, glK_cons, gsK_nil, gsK_cons, List.cons_append, List.nil_append, appG1_nil]
  refine hR _ _ ?_; clear hR R
  try simp only [go_sem, glK_nil, glK_cons, gsK_nil, gsK_cons, List.cons_append, List.nil_append, appG1_nil]
  refine W_seq fun Z15 K15 => ?_
  refine W_cond rfl (fun c2 => ?_) (fun c2 => ?_)
  ·
   try simp only [nrm] at c2
   have hi' : i < L.length := by first | assumption | omega
   obtain ⟨b, hx⟩ : ∃ b, L[i]? = some b := ⟨L[i], by simp [hi']⟩
   have hdrop : L.drop i = b :: L.drop (i + 1) := by
    rw [List.drop_eq_getElem_cons hi']; congr 1; exact (List.getElem?_eq_some_iff.1 hx).2
   have hn1 : (L.take (i + 1)).map (·.song) = (L.take i).map (·.song) ++ [b.song] := by rw [List.take_add_one, hx]; simp
   rw [← hks] at hn1
   refine W_skip (K15 _ _ ?_)
   refine W_seq fun Z16 K16 => ?_
   refine W_block ?_
   refine W_sr [2, 3, 9, 57, 58, 59] fun R hR => ?_
   simp only [go_sem, glK_nil, glK_cons, gsK_nil, gsK_cons, List.cons_append, List.nil_append, appG1_nil, hx]
   refine hR _ _ ?_; clear hR R
   try simp only [go_sem, glK_nil, glK_cons, gsK_nil, gsK_cons, List.cons_append, List.nil_append, appG1_nil, hx]
   refine W_region [2, 3, 57, 58, 59] fun R hR => ?_
   simp only [go_sem, glK_nil, glK_cons, gsK_nil, gsK_cons, List.cons_append, List.nil_append, appG1_nil, hx]
   try simp (disch := first | omega | (simp only [go_sem] <;> omega)) only [wrapI, wrapU, appX_exact, appX_tok]
   try simp only [go_sem, glK_nil, glK_cons, gsK_nil, gsK_cons, List.cons_append, List.nil_append, appG1_nil, hx]
   refine hR _ _ (K16 _ _ ?_); clear hR R; try clear K16 Z16
   try simp only [go_sem, glK_nil, glK_cons, gsK_nil, gsK_cons, List.cons_append, List.nil_append, appG1_nil, hx]
   refine W_region [2, 3, 57, 58, 59] fun R hR => ?_
   simp only [go_sem, glK_nil, glK_cons, gsK_nil, gsK_cons, List.cons_append, List.nil_append, appG1_nil, hx]
   try simp (disch := omega) only [wrapI, wrapU]
   refine hR _ _ ?_; clear hR R
   try simp only [go_sem, glK_nil, glK_cons, gsK_nil, gsK_cons, List.cons_append, List.nil_append, appG1_nil, hx]
   refine ⟨(i + 1, [b.song]), ?_, by (try simp only []); omega, ?_⟩
   ·simp only [glK_cons, gsK_cons, List.length_nil, List.map_nil]
    try simp only [go_sem]
    refine Weak.ren [0, 1, 2, 4] (by decide) (by simp) (by first | omega | (simp only [go_sem] <;> omega)) hcl (RnE.get ?_) ?_
    ·repeat' (first | exact trivial | (refine .same _ ?_; simp only [go_sem]; done) | (refine .same _ ?_; simp only [go_sem]; omega) | exact .ptr 0 0 _ _ _  rfl rfl rfl | exact .msl 0 0 _ _ _ _  rfl rfl rfl | exact .gsl 0 0 _ _ _ _  rfl rfl rfl | exact .mapv 0 0 _ _  rfl rfl rfl | exact .ptr 1 1 _ _ _  rfl rfl rfl | exact .msl 1 1 _ _ _ _  rfl rfl rfl | exact .gsl 1 1 _ _ _ _  rfl rfl rfl | exact .mapv 1 1 _ _  rfl rfl rfl | exact .ptr 2 2 _ _ _  rfl rfl rfl | exact .msl 2 2 _ _ _ _  rfl rfl rfl | exact .gsl 2 2 _ _ _ _  rfl rfl rfl | exact .mapv 2 2 _ _  rfl rfl rfl | exact .ptr 3 4 _ _ _  rfl rfl rfl | exact .msl 3 4 _ _ _ _  rfl rfl rfl | exact .gsl 3 4 _ _ _ _  rfl rfl rfl | exact .mapv 3 4 _ _  rfl rfl rfl | refine .funcL ?_ | refine ⟨rfl, ?_, ?_⟩ | refine ⟨?_, ?_⟩)
    repeat' (first | exact trivial | (refine .inl ⟨?_, rfl⟩; simp only [go_sem]; done) | (refine .inl ⟨?_, rfl⟩; simp only [go_sem]; omega) | (refine .same _ ?_; simp only [go_sem]; done) | (refine .same _ ?_; simp only [go_sem]; omega) | exact .ptr 0 0 _ _ _  rfl rfl rfl | exact .msl 0 0 _ _ _ _  rfl rfl rfl | exact .gsl 0 0 _ _ _ _  rfl rfl rfl | exact .mapv 0 0 _ _  rfl rfl rfl | exact .ptr 1 1 _ _ _  rfl rfl rfl | exact .msl 1 1 _ _ _ _  rfl rfl rfl | exact .gsl 1 1 _ _ _ _  rfl rfl rfl | exact .mapv 1 1 _ _  rfl rfl rfl | exact .ptr 2 2 _ _ _  rfl rfl rfl | exact .msl 2 2 _ _ _ _  rfl rfl rfl | exact .gsl 2 2 _ _ _ _  rfl rfl rfl | exact .mapv 2 2 _ _  rfl rfl rfl | exact .ptr 3 4 _ _ _  rfl rfl rfl | exact .msl 3 4 _ _ _ _  rfl rfl rfl | exact .gsl 3 4 _ _ _ _  rfl rfl rfl | exact .mapv 3 4 _ _  rfl rfl rfl | refine .inr ⟨by simp, ?_⟩ | refine ⟨⟨_, rfl, ?_⟩, ?_⟩ | refine ⟨?_, ?_⟩)
   try dsimp only
   exact ⟨hi', by rw [hn1]; rfl⟩
  try simp only [nrm] at c2
  have hie : L.length = i := by first | omega | (simp at c2; omega)
  subst hie
  rw [List.take_length] at hks
  exfalso
  have := congrArg List.length hks; simp at this; omega
 have hktl : kt.length ≤ 2 ^ 20 := by have := congrArg List.length hks; simp at this; omega
 simp only [gsK_cons, glK_cons, List.cons_append, List.nil_append]
 refine W_sr [2, 3, 57, 58, 59, 60] fun R hR => ?_
 simp only [go_sem, glK_nil, glK_cons, gsK_nil, gsK_cons, List.cons_append, List.nil_append, appG1_4 hktl]
 refine hR _ _ ?_; clear hR R
 try simp only [go_sem, glK_nil, glK_cons, gsK_nil, gsK_cons, List.cons_append, List.nil_append, appG1_4 hktl]
 refine W_seq fun Z19 K19 => ?_
 refine W_cond rfl (fun c3 => ?_) (fun c3 => ?_)
 ·
  try simp only [nrm] at c3
  have hi' : i < L.length := by first | assumption | omega
  obtain ⟨b, hx⟩ : ∃ b, L[i]? = some b := ⟨L[i], by simp [hi']⟩
  have hdrop : L.drop i = b :: L.drop (i + 1) := by
   rw [List.drop_eq_getElem_cons hi']; congr 1; exact (List.getElem?_eq_some_iff.1 hx).2
  have hn1 : (L.take (i + 1)).map (·.song) = (L.take i).map (·.song) ++ [b.song] := by rw [List.take_add_one, hx]; simp
  rw [← hks] at hn1
  refine W_skip (K19 _ _ ?_)
  refine W_seq fun Z20 K20 => ?_
  refine W_block ?_
  refine W_sr [2, 3, 9, 57, 58, 59] fun R hR => ?_
  simp only [go_sem, glK_nil, glK_cons, gsK_nil, gsK_cons, List.cons_append, List.nil_append, appG1_4 hktl, hx]
  refine hR _ _ ?_; clear hR R
  try simp only [go_sem, glK_nil, glK_cons, gsK_nil, gsK_cons, List.cons_append, List.nil_append, appG1_4 hktl, hx]
  refine W_region [2, 3, 57, 58, 59] fun R hR => ?_
  simp only [go_sem, glK_nil, glK_cons, gsK_nil, gsK_cons, List.cons_append, List.nil_append, appG1_4 hktl, hx]
  try simp (disch := first | omega | (simp only [go_sem] <;> omega)) only [wrapI, wrapU, appX_exact, appX_tok]
  try simp only [go_sem, glK_nil, glK_cons, gsK_nil, gsK_cons, List.cons_append, List.nil_append, appG1_4 hktl, hx]
  refine hR _ _ (K20 _ _ ?_); clear hR R; try clear K20 Z20
  try simp only [go_sem, glK_nil, glK_cons, gsK_nil, gsK_cons, List.cons_append, List.nil_append, appG1_4 hktl, hx]
  refine W_region [2, 3, 57, 58, 59] fun R hR => ?_
  simp only [go_sem, glK_nil, glK_cons, gsK_nil, gsK_cons, List.cons_append, List.nil_append, appG1_4 hktl, hx]
  try simp (disch := omega) only [wrapI, wrapU]
  refine hR _ _ ?_; clear hR R
  try simp only [go_sem, glK_nil, glK_cons, gsK_nil, gsK_cons, List.cons_append, List.nil_append, appG1_4 hktl, hx]
  refine ⟨(i + 1, k0 :: (kt ++ [b.song])), ?_, by (try simp only []); omega, ?_⟩
  ·simp only [glK_cons, gsK_cons, List.length_append, List.length_cons, List.length_nil, List.map_append, List.map_cons, List.map_nil]
   try simp only [go_sem]
   refine Weak.ren [0, 1, 2, 5] (by decide) (by simp) (by first | omega | (simp only [go_sem] <;> omega)) hcl (RnE.get ?_) ?_
   ·repeat' (first | exact trivial | (refine .same _ ?_; simp only [go_sem]; done) | (refine .same _ ?_; simp only [go_sem]; omega) | exact .ptr 0 0 _ _ _  rfl rfl rfl | exact .msl 0 0 _ _ _ _  rfl rfl rfl | exact .gsl 0 0 _ _ _ _  rfl rfl rfl | exact .mapv 0 0 _ _  rfl rfl rfl | exact .ptr 1 1 _ _ _  rfl rfl rfl | exact .msl 1 1 _ _ _ _  rfl rfl rfl | exact .gsl 1 1 _ _ _ _  rfl rfl rfl | exact .mapv 1 1 _ _  rfl rfl rfl | exact .ptr 2 2 _ _ _  rfl rfl rfl | exact .msl 2 2 _ _ _ _  rfl rfl rfl | exact .gsl 2 2 _ _ _ _  rfl rfl rfl | exact .mapv 2 2 _ _  rfl rfl rfl | exact .ptr 3 5 _ _ _  rfl rfl rfl | exact .msl 3 5 _ _ _ _  rfl rfl rfl | exact .gsl 3 5 _ _ _ _  rfl rfl rfl | exact .mapv 3 5 _ _  rfl rfl rfl | refine .funcL ?_ | refine ⟨rfl, ?_, ?_⟩ | refine ⟨?_, ?_⟩)
   repeat' (first | exact trivial | (refine .inl ⟨?_, rfl⟩; simp only [go_sem]; done) | (refine .inl ⟨?_, rfl⟩; simp only [go_sem]; omega) | (refine .same _ ?_; simp only [go_sem]; done) | (refine .same _ ?_; simp only [go_sem]; omega) | exact .ptr 0 0 _ _ _  rfl rfl rfl | exact .msl 0 0 _ _ _ _  rfl rfl rfl | exact .gsl 0 0 _ _ _ _  rfl rfl rfl | exact .mapv 0 0 _ _  rfl rfl rfl | exact .ptr 1 1 _ _ _  rfl rfl rfl | exact .msl 1 1 _ _ _ _  rfl rfl rfl | exact .gsl 1 1 _ _ _ _  rfl rfl rfl | exact .mapv 1 1 _ _  rfl rfl rfl | exact .ptr 2 2 _ _ _  rfl rfl rfl | exact .msl 2 2 _ _ _ _  rfl rfl rfl | exact .gsl 2 2 _ _ _ _  rfl rfl rfl | exact .mapv 2 2 _ _  rfl rfl rfl | exact .ptr 3 5 _ _ _  rfl rfl rfl | exact .msl 3 5 _ _ _ _  rfl rfl rfl | exact .gsl 3 5 _ _ _ _  rfl rfl rfl | exact .mapv 3 5 _ _  rfl rfl rfl | refine .inr ⟨by simp, ?_⟩ | refine ⟨⟨_, rfl, ?_⟩, ?_⟩ | refine ⟨?_, ?_⟩)
  try dsimp only
  exact ⟨hi', by rw [hn1]; rfl⟩
 try simp only [nrm] at c3
 have hie : L.length = i := by first | omega | (simp at c3; omega)
 subst hie
 rw [List.take_length] at hks
 refine W_exit ?_
 simp only [go_sem, glK_nil, glK_cons, gsK_nil, gsK_cons, List.cons_append, List.nil_append, appG1_4 hktl]
 refine K12 _ _ ?_
 refine W_sr [2, 3] fun R hR => ?_
 simp only [go_sem, glK_nil, glK_cons, gsK_nil, gsK_cons, List.cons_append, List.nil_append, appG1_4 hktl]
 refine GCall_of (PC_sortI (xs := k0 :: kt) sortsI (Sg.get_ext ..) (by simp only [List.length_cons]; omega)) ?_
 simp only [go_sem, glK_nil, glK_cons, gsK_nil, gsK_cons, List.cons_append, List.nil_append, appG1_4 hktl]
 refine hR _ _ ?_; clear hR R
 try simp only [go_sem, glK_nil, glK_cons, gsK_nil, gsK_cons, List.cons_append, List.nil_append, appG1_4 hktl]
 refine W_seq fun Z23 K23 => ?_
 have hsl2 := sortI_len (k0 :: kt)
 obtain ⟨z0, zt, hz⟩ : ∃ z zs, sortI (k0 :: kt) = z :: zs := by cases h : sortI (k0 :: kt) with
  | nil => rw [h] at hsl2; simp at hsl2
  | cons z zs => exact ⟨z, zs, rfl⟩
 simp only [hz]
 rw [hz] at hsl2
 refine W_weak (Weak.freezeX (j := 2) (k := 3) (off := 4) (len := kt.length + 1) (es := 1) (rest := []) (m := (z0 :: zt).map I) (by decide) rfl rfl (by rw [rowC_ints, List.append_nil]; rfl) (by simpa using hsl2) (fun q hq => by obtain ⟨x, _, rfl⟩ := List.mem_map.1 hq; rfl)) ?_
 simp only [go_sem]
 refine W_region [2] fun R hR => ?_
 simp only [go_sem, glK_nil, glK_cons, gsK_nil, gsK_cons, List.cons_append, List.nil_append, appG1_4 hktl, zeroRs]
 refine hR _ _ (K23 _ _ ?_); clear hR R; try clear K23 Z23
 try simp only [go_sem, glK_nil, glK_cons, gsK_nil, gsK_cons, List.cons_append, List.nil_append, appG1_4 hktl]
 refine W_ret ?_
 simp only [go_sem, glK_nil, glK_cons, gsK_nil, gsK_cons, List.cons_append, List.nil_append, appG1_4 hktl]
 refine ⟨.inr (by trivial), ?_⟩
 first | refine Fin_same hcl (by show resPV Tryz.prog _ _ [.cell 2 55] = some _; simp only [resPV, go_sem]; rfl) (Wk_eq ?_ (by simp only [go_sem])) | refine Fin_same hcl rfl (Wk_eq ?_ (by simp only [go_sem]))
 try simp only [go_sem]
 all_goals
  simp only [resT, hA, keptS, hkn, Int.toNat_natCast, hL, ← hks, hz]; rfl
def toN (n : Nat) : List Int := (List.range n).map fun (i : Nat) => (i : Int)
theorem toI_N (n : Nat) : toI n = toN n := by simp [toI, toN]
theorem toN_succ (n : Nat) : toN (n + 1) = toN n ++ [(n : Int)] := by simp [toN, List.range_succ]
theorem toN_len (n : Nat) : (toN n).length = n := by simp [toN]
theorem mem_toN {n : Nat} {x : Int} : x ∈ toN n ↔ 0 ≤ x ∧ x < n := by
 unfold toN
 rw [List.mem_map]
 constructor
 ·rintro ⟨i, hi, rfl⟩
  have := List.mem_range.1 hi
  omega
 rintro ⟨h1, h2⟩
 exact ⟨x.toNat, List.mem_range.2 (by omega), by omega⟩
theorem allT_song {t : Tally} : (allT t).map (·.song) = t.songs := by
 unfold allT
 rw [List.map_map]
 have : ((fun x : Std => x.song) ∘ fun s => stdT t s 0 0) = id := by funext s; rfl
 rw [this, List.map_id]
theorem mem_keptS {n : Nat} {l : List Std} {x : Int} (h : x ∈ keptS n l) : x ∈ l.map (·.song) := by
 unfold keptS at h
 have h1 := (List.mergeSort_perm _ _).mem_iff.1 h
 obtain ⟨a, h2, rfl⟩ := List.mem_map.1 h1
 exact List.mem_map.2 ⟨a, (sortSd_perm l).mem_iff.1 (List.mem_of_mem_take h2), rfl⟩
theorem mem_kept {t : Tally} {x : Int} (h : x ∈ (resT t).kept) : x ∈ t.songs := by
 rw [← allT_song (t := t)]
 exact mem_keptS h
theorem resT_klen {t : Tally} (h : t.rd.keep ≤ t.songs.length) : (resT t).kept.length = t.rd.keep.toNat := kept_len (by rw [allT_len]; omega)
/-- Songs of a round that may be. -/
structure SgOk (ss : List Int) : Prop where
 ln : ss.length ≤ 8
 bd : ∀ s, s ∈ ss → 0 ≤ s ∧ s < 8
theorem countT_b {r : Rnd} {rd : Int} {ss : List Int} {l : List Ballot} {c : Contest} (hl : l.length ≤ 300) (hb : ∀ b, b ∈ l → BlV c b) (hm : c.most ≤ 100) (hj : 0 ≤ r.jury ∧ r.jury ≤ 1000) (hw : 0 ≤ r.member ∧ r.member ≤ 1000) (hk : 1 ≤ r.keep ∧ r.keep ≤ ss.length) (hs : SgOk ss) : TlB (countT r rd ss l) := by
 have hml := voices_len rd ss l l.length
 refine ⟨fun s => ?_, fun s => ?_, hj, hw, hk, hs.ln, hs.bd⟩
 ·have := sumB_bd (f := cpB s) (l := l) (m := voices rd ss l l.length) (c := 100) (by omega) (fun b h => by
   have h1 := (hb b h).pt
   unfold cpB
   split
   ·split at h1 <;> omega
   omega) (List.range (voices rd ss l l.length).length)
  simp only [List.length_range] at this
  exact ⟨this.1, Int.le_trans this.2 (by omega)⟩
 have := sumB_bd (f := cvB s) (l := l) (m := voices rd ss l l.length) (c := 1) (by omega) (fun b h => by unfold cvB; split <;> omega) (List.range (voices rd ss l l.length).length)
 simp only [List.length_range] at this
 exact ⟨this.1, Int.le_trans this.2 (by omega)⟩
theorem chkRds_step {s : Int} {r : Rnd} {l : List Rnd} (h : chkRds s (r :: l) = 0) : (1 ≤ r.keep ∧ r.keep ≤ s) ∧ (0 ≤ r.jury ∧ r.jury ≤ 1000) ∧ (0 ≤ r.member ∧ r.member ≤ 1000) ∧ chkRds r.keep l = 0 := by
 simp only [chkRds] at h
 split at h
 ·cases h
 rename_i h1
 simp only [chkRd, allIn, List.all_cons, List.all_nil, Bool.and_true, Bool.not_eq_true', Bool.not_eq_false, Bool.and_eq_true, inR_true] at h1
 exact ⟨h1.2, h1.1.1, h1.1.2, h⟩
/-- The tallies of some rounds, all that may be. -/
theorem rdsT_b {l : List Ballot} {c : Contest} (hl : l.length ≤ 300) (hb : ∀ b, b ∈ l → BlV c b) (hm : c.most ≤ 100) : ∀ {rs : List Rnd} {i : Nat} {ss : List Int}, chkRds ss.length rs = 0 → SgOk ss → ∀ t, t ∈ rdsT l rs i ss → TlB t := by
 intro rs
 induction rs with
 | nil => intro i ss _ _ t h; cases h
 | cons r rs ih =>
  intro i ss h hs t ht
  obtain ⟨h1, h2, h3, h4⟩ := chkRds_step h
  have hT := countT_b (rd := (i : Int)) hl hb hm h2 h3 h1 hs
  simp only [rdsT, List.mem_cons] at ht
  rcases ht with rfl | ht
  ·exact hT
  have hk := resT_klen (t := countT r i ss l) h1.2
  have hke : (countT r i ss l).rd.keep = r.keep := rfl
  refine ih (by rw [hk, hke, Int.toNat_of_nonneg (by omega)]; exact h4) ⟨by rw [hk, hke]; have := hs.ln; omega, fun s h => hs.bd s (mem_kept h)⟩ t ht
theorem sgOk_all {c : Contest} (hV : CnV c) : SgOk (toI c.songs) := by
 obtain ⟨N, hN⟩ : ∃ z : Nat, c.songs = z := ⟨c.songs.toNat, by have := hV.sg; omega⟩
 have := hV.sg
 rw [hN, toI_N]
 exact ⟨by rw [toN_len]; omega, fun s h => by have := mem_toN.1 h; omega⟩
theorem toI_len {n : Int} (h : 0 ≤ n) : ((toI n).length : Int) = n := by simp [toI]; omega
theorem roundsT_b {c : Contest} {l : List Ballot} (hV : CnV c) (hl : l.length ≤ 300) (hb : ∀ b, b ∈ l → BlV c b) : ∀ t, t ∈ roundsT c l → TlB t :=
 rdsT_b hl hb hV.ms.2 (by rw [toI_len (by have := hV.sg; omega)]; exact hV.rs) (sgOk_all hV)
/-- The reading of the tallies. -/
def tlF (n : Nat) (p : Tally × Nat) : PV := tlPV (n + p.2) p.1
def tls (n : Nat) (ts : List Tally) : List PV := ts.zipIdx.map (tlF n)
def mapsOf (ts : List Tally) : List (Option (List PV)) := ts.map fun t => some (.mark :: mapE vcPV I t.m)
theorem mapsOf_len {ts : List Tally} : (mapsOf ts).length = ts.length := by simp [mapsOf]
theorem mapsOf_clean {a b c : Nat} {ts : List Tally} : CleanLs a b c (mapsOf ts) := by
 intro cs h p hp
 obtain ⟨t, _, e⟩ := List.mem_map.1 h
 simp only [Option.some.injEq] at e
 subst e
 rcases List.mem_cons.1 hp with rfl | hp
 ·exact .mark
 exact CleanAll_mapV.mpr trivial p hp
theorem tls_get {n i : Nat} {ts : List Tally} {t : Tally} (h : ts[i]? = some t) : (tls n ts)[i]? = some (tlPV (n + i) t) := by
 unfold tls
 rw [List.getElem?_map, List.getElem?_zipIdx, h]
 simp [tlF]
theorem tls_len {n : Nat} {ts : List Tally} : (tls n ts).length = ts.length := by simp [tls]
theorem tls_snoc {n : Nat} {ts : List Tally} {t : Tally} : tls n (ts ++ [t]) = tls n ts ++ [tlPV (n + ts.length) t] := by
 unfold tls
 rw [List.zipIdx_append, List.map_append]
 simp [tlF]
theorem cA_tls {a b c n : Nat} {ts : List Tally} (h : n + ts.length ≤ a) : CleanAll a b c (tls n ts) := by
 intro p hp
 obtain ⟨i, hi⟩ := List.mem_iff_getElem?.1 hp
 cases ht : ts[i]? with
 | none =>
  rw [List.getElem?_eq_none_iff] at ht
  rw [List.getElem?_eq_none (by rw [tls_len]; exact ht)] at hi
  cases hi
 | some t =>
  rw [tls_get ht] at hi
  injection hi with hi
  subst hi
  have := (List.getElem?_eq_some_iff.1 ht).1
  exact clean_tl t (by omega)
theorem CleanAll_tls {a b c n : Nat} {ts : List Tally} : CleanAll a b c (tls n ts) = (ts.length = 0 ∨ n + ts.length ≤ a) := propext ⟨fun h => by
 rcases Nat.eq_zero_or_pos ts.length with h0 | h0
 ·exact .inl h0
 ·right
  have hg := tls_get (n := n) (i := ts.length - 1) (ts := ts) (t := ts[ts.length - 1]'(by omega)) (by simp)
  have := C_tl.mp (h _ (List.mem_of_getElem? hg))
  omega, fun h => by
 rcases h with h | h
 ·obtain rfl := List.eq_nil_of_length_eq_zero h
  intro p hp
  cases hp
 exact cA_tls h⟩
theorem okC_tls {n : Nat} {ts : List Tally} : okC 21 (tls n ts) = True := okC_map fun x => by simp [okC, tlF, tlPV, tlCells, PV.cells, PV.scalar]
theorem mapsOf_snoc {ts : List Tally} {t : Tally} : mapsOf (ts ++ [t]) = mapsOf ts ++ [some (.mark :: mapE vcPV I t.m)] := by simp [mapsOf]
theorem roL_tls {n : Nat} {ts : List Tally} : PV.roL (tls n ts) = tls n ts := roL_enc fun x => by simp only [tlF, tlPV, tlCells, ro_agg, roL_cons, roL_nil, ro_int, ro_isl, roL_ints, PV.ro]
attribute [go_sem] roL_tls
theorem CleanLs_noneC {a b c : Nat} {l : List (Option (List PV))} : CleanLs a b c (none :: l) = CleanLs a b c l := propext ⟨fun h cs hc => h cs (List.mem_cons_of_mem _ hc), fun h cs hc => by rcases List.mem_cons.1 hc with e | hc; cases e; exact h cs hc⟩
attribute [go_sem] mapsOf_len CleanLs_noneC
theorem CleanLs_maps {a b c : Nat} {ts : List Tally} : CleanLs a b c (mapsOf ts) = True := eq_true mapsOf_clean
attribute [go_sem] CleanAll_tls CleanLs_maps okC_tls tls_len
theorem unl_true {b : Bool} {e : Int} (h : b = true) : unl b e = 0 := by unfold unl; rw [h]; rfl
theorem chkBl_of {c : Contest} {b : Ballot} (h : BlV c b) : chkBl c b = 0 := by
 have h1 : bl1 c b = 0 := unl_true (inR_true.2 (by have := h.rd; omega))
 have h2 : bl2 b = 0 := unl_true (inR_true.2 (by have := h.kd; omega))
 have h3 : bl3 c b = 0 := unl_true (inR_true.2 (by have := h.vt; omega))
 have h4 : bl4 c b = 0 := unl_true (inR_true.2 (by have := h.sg; omega))
 have h5 : bl5 c b = 0 := by
  have := h.pt
  unfold bl5
  split
  ·rename_i hk
   rw [if_pos hk] at this
   exact unl_true (by simp; omega)
  rename_i hk
  rw [if_neg hk] at this
  exact unl_true (inR_true.2 this)
 simp [chkBl, blEs, firstE, h1, h2, h3, h4, h5]
theorem blsF_ok {c : Contest} : ∀ {l : List Ballot} {p : List Int}, (∀ b, b ∈ l → BlV c b) → (p ++ l.map (·.serial)).Nodup → chkBlsF c p l = 0 := by
 intro l
 induction l with
 | nil => intro p _ _; rfl
 | cons b l ih =>
  intro p hb hn
  have h1 := hb b (by simp)
  have hin : inR b.serial 1 1000000000 = true := inR_true.2 h1.sr
  have hno : has p b.serial = false := by
   cases h : has p b.serial with
   | false => rfl
   | true =>
    have := has_iff.1 h
    rw [List.nodup_append] at hn
    exact absurd rfl (hn.2.2 _ this b.serial (by simp))
  simp only [chkBlsF, hin, hno, chkBl_of h1]
  simp only [Bool.not_true, Bool.false_eq_true, if_false, ne_eq, not_true]
  exact ih (fun x hx => hb x (by simp [hx])) (by simpa using hn)
theorem chkBls_of {c : Contest} {l : List Ballot} (hc : chkCn c = 0) (hl : l.length ≤ 300) (hb : ∀ b, b ∈ l → BlV c b) (hn : (l.map (·.serial)).Nodup) : chkBls c l = 0 := by
 unfold chkBls
 rw [if_neg (by simp [hc]), if_neg (by omega)]
 exact blsF_ok hb (by simpa using hn)
/-- Points given: by a jury, to a song. -/
abbrev Giv := Int × Nat × Int
def balG (r : Giv × Nat) : Ballot := ⟨(r.2 : Int) + 1, 0, 1, r.1.1, (r.1.2.1 : Int), r.1.2.2⟩
def mkG (R : List Giv) : List Ballot := R.zipIdx.map balG
def rowG (j : Int) (m : List Int) : List Giv := m.zipIdx.map fun x => (j, x.2, x.1)
def allG (ps : List (Int × List Int)) : List Giv := ps.flatMap fun p => rowG p.1 p.2
theorem mkG_snoc (R : List Giv) (r : Giv) : mkG (R ++ [r]) = mkG R ++ [⟨(R.length : Int) + 1, 0, 1, r.1, (r.2.1 : Int), r.2.2⟩] := by
 unfold mkG
 rw [List.zipIdx_append, List.map_append]
 simp [balG]
theorem mkG_len (R : List Giv) : (mkG R).length = R.length := by simp [mkG]
theorem rowG_take {j : Int} {m : List Int} {k : Nat} {x : Int} (h : m[k]? = some x) : rowG j (m.take (k + 1)) = rowG j (m.take k) ++ [(j, k, x)] := by
 have hk : k < m.length := (List.getElem?_eq_some_iff.1 h).1
 unfold rowG
 rw [List.take_add_one, h]
 simp only [Option.toList_some]
 rw [List.zipIdx_append, List.map_append]
 simp [List.length_take, Nat.min_eq_left (Nat.le_of_lt hk)]
theorem rowG_len (j : Int) (m : List Int) : (rowG j m).length = m.length := by simp [rowG]
theorem allG_snoc (ps : List (Int × List Int)) (j : Int) (m : List Int) : allG (ps ++ [(j, m)]) = allG ps ++ rowG j m := by simp [allG]
theorem allG_len {ps : List (Int × List Int)} {S : Nat} (h : ∀ p, p ∈ ps → p.2.length = S) : (allG ps).length = ps.length * S := by
 induction ps with
 | nil => simp [allG]
 | cons p ps ih =>
  have h1 := ih fun q hq => h q (List.mem_cons_of_mem _ hq)
  have h2 := h p (List.mem_cons_self ..)
  unfold allG at h1 ⊢
  rw [List.flatMap_cons, List.length_append, h1, rowG_len, h2, List.length_cons, Nat.succ_mul]
  omega
def keyG (r : Giv) : Int × Nat := (r.1, r.2.1)
theorem rowG_keys (j : Int) (m : List Int) : (rowG j m).map keyG = (List.range m.length).map fun k => (j, k) := by
 unfold rowG
 rw [List.map_map]
 have : (keyG ∘ fun x : Int × Nat => (j, x.2, x.1)) = (fun k : Nat => (j, k)) ∘ Prod.snd := by funext x; rfl
 rw [this, ← List.map_map, List.zipIdx_map_snd, List.range_eq_range']
theorem allG_keys {ps : List (Int × List Int)} (h : (ps.map (·.1)).Nodup) : ((allG ps).map keyG).Nodup := by
 induction ps with
 | nil => simp [allG]
 | cons p ps ih =>
  rw [List.map_cons, List.nodup_cons] at h
  have h1 := ih h.2
  have e : (allG (p :: ps)).map keyG = (rowG p.1 p.2).map keyG ++ (allG ps).map keyG := by simp [allG]
  rw [e, List.nodup_append]
  refine ⟨?_, h1, fun a ha b hb e => ?_⟩
  ·rw [rowG_keys, List.nodup_iff_pairwise_ne, List.pairwise_map]
   exact (List.nodup_range (n := p.2.length)).imp fun h e => h (by injection e)
  subst e
  rw [rowG_keys] at ha
  obtain ⟨k, _, rfl⟩ := List.mem_map.1 ha
  obtain ⟨r, hr, he⟩ := List.mem_map.1 hb
  unfold allG at hr
  obtain ⟨q, hq, hr⟩ := List.mem_flatMap.1 hr
  unfold rowG at hr
  obtain ⟨x, _, rfl⟩ := List.mem_map.1 hr
  simp only [keyG, Prod.mk.injEq] at he
  exact h.1 (List.mem_map.2 ⟨q, hq, he.1⟩)
theorem mkG_map {α : Type} {f : Ballot → α} {g : Giv → α} (h : ∀ r, f (balG r) = g r.1) (R : List Giv) : (mkG R).map f = R.map g := by
 unfold mkG
 rw [List.map_map]
 have : (f ∘ balG) = g ∘ Prod.fst := by funext r; exact h r
 rw [this, ← List.map_map, List.zipIdx_map_fst]
theorem mem_mkG {R : List Giv} {b : Ballot} (h : b ∈ mkG R) : ∃ r i, r ∈ R ∧ i < R.length ∧ b = balG (r, i) := by
 unfold mkG at h
 obtain ⟨⟨r, i⟩, hr, rfl⟩ := List.mem_map.1 h
 have := List.mem_zipIdx hr
 simp at this
 obtain ⟨h1, h2⟩ := this
 exact ⟨r, i, by rw [h2]; exact List.getElem_mem _, h1, rfl⟩
theorem mkG_serials (R : List Giv) : ((mkG R).map (·.serial)).Nodup := by
 unfold mkG
 rw [List.map_map]
 have : ((fun b : Ballot => b.serial) ∘ balG) = (fun i : Nat => (i : Int) + 1) ∘ Prod.snd := by funext r; rfl
 rw [this, ← List.map_map, List.zipIdx_map_snd, List.nodup_iff_pairwise_ne, List.pairwise_map]
 exact (List.nodup_iff_pairwise_ne.1 (List.nodup_range' ..)).imp fun h e => h (by omega)
theorem mkG_inj {R : List Giv} (hk : (R.map keyG).Nodup) {a b : Ballot} (ha : a ∈ mkG R) (hb : b ∈ mkG R) (e : keyOf a = keyOf b) : a.serial = b.serial := by
 obtain ⟨r, i, hr, hi, rfl⟩ := mem_mkG ha
 obtain ⟨q, j, hq, hj, rfl⟩ := mem_mkG hb
 unfold mkG at ha hb
 obtain ⟨⟨r', i'⟩, ha', ea⟩ := List.mem_map.1 ha
 obtain ⟨⟨q', j'⟩, hb', eb⟩ := List.mem_map.1 hb
 have ha2 := List.mem_zipIdx ha'
 have hb2 := List.mem_zipIdx hb'
 simp at ha2 hb2
 obtain ⟨ha3, ha4⟩ := ha2
 obtain ⟨hb3, hb4⟩ := hb2
 rw [← ea, ← eb] at e ⊢
 simp only [keyOf, balG, Prod.mk.injEq] at e
 have e2 : r'.1 = q'.1 ∧ r'.2.1 = q'.2.1 := by
  refine ⟨e.2.1, ?_⟩
  have := e.2.2
  simp at this
  omega
 have h1 := List.pairwise_iff_getElem.1 (List.nodup_iff_pairwise_ne.1 hk)
 have hij : i' = j' := by
  rcases Nat.lt_trichotomy i' j' with h | h | h
  ·have := h1 i' j' (by simpa using ha3) (by simpa using hb3) h
   simp only [List.getElem_map] at this
   rw [← ha4, ← hb4] at this
   exact absurd (by simp [keyG, e2.1, e2.2]) this
  ·exact h
  have := h1 j' i' (by simpa using hb3) (by simpa using ha3) h
  simp only [List.getElem_map] at this
  rw [← ha4, ← hb4] at this
  exact absurd (by simp [keyG, e2.1, e2.2]) this
 simp [balG, hij]
def cnJ (S J high w : Int) : Contest := ⟨S, J, 0, high, [⟨1, w, 0⟩]⟩
structure GivV (S J high : Int) (R : List Giv) : Prop where
 ln : R.length ≤ 300
 ok : ∀ r, r ∈ R → (0 ≤ r.1 ∧ r.1 < J) ∧ (r.2.1 : Int) < S ∧ 0 ≤ r.2.2 ∧ r.2.2 ≤ high
 nd : (R.map keyG).Nodup
section
variable {S J high w : Int} {R : List Giv}
theorem cnJ_ok (hS : 1 ≤ S ∧ S ≤ 8) (hJ : 0 ≤ J ∧ J ≤ 8) (hh : 0 ≤ high ∧ high ≤ 100) (hw : 0 ≤ w ∧ w ≤ 1000) : chkCn (cnJ S J high w) = 0 := by
 unfold chkCn
 have h1 : chkCn0 (cnJ S J high w) = true := by
  simp only [chkCn0, cnJ, allIn1, Bool.and_eq_true, inR_true]
  omega
 rw [h1]
 have h2 : chkRd S ⟨1, w, 0⟩ = true := by
  simp only [chkRd, allIn, List.all_cons, List.all_nil, Bool.and_true, Bool.and_eq_true, inR_true]
  omega
 simp [cnJ, chkRds, h2]
theorem mkG_v (hR : GivV S J high R) : ∀ b, b ∈ mkG R → BlV (cnJ S J high w) b := fun b hb => by
 obtain ⟨r, i, hr, hi, rfl⟩ := mem_mkG hb
 obtain ⟨h1, h2, h3⟩ := hR.ok r hr
 have := hR.ln
 refine ⟨?_, ?_, .inl rfl, ?_, ?_, ?_⟩
 ·simp only [balG]; omega
 ·simp [balG, cnJ]
 ·simp only [balG, cnJ]; simpa using h1
 ·simp only [balG, cnJ]; omega
 simp only [balG, cnJ]; simpa using h3
theorem mkG_chk (hS : 1 ≤ S ∧ S ≤ 8) (hJ : 0 ≤ J ∧ J ≤ 8) (hh : 0 ≤ high ∧ high ≤ 100) (hw : 0 ≤ w ∧ w ≤ 1000) (hR : GivV S J high R) : chkBls (cnJ S J high w) (mkG R) = 0 :=
 chkBls_of (cnJ_ok hS hJ hh hw) (by rw [mkG_len]; exact hR.ln) (mkG_v hR) (mkG_serials R)
theorem mkG_cnt (hR : GivV S J high R) : (mkG R).filter (cntB (mkG R) 0 (toI S)) = mkG R := by
 rw [List.filter_eq_self]
 intro b hb
 obtain ⟨r, i, hr, hi, e⟩ := mem_mkG hb
 have h2 := (hR.ok r hr).2.1
 unfold cntB
 rw [Bool.and_eq_true, List.all_eq_true]
 refine ⟨?_, fun x hx => ?_⟩
 ·rw [e]
  simp only [isIn, balG, Bool.and_eq_true, decide_eq_true_eq, true_and]
  rw [has_iff]
  unfold toI
  exact List.mem_map.2 ⟨r.2.1, by simp; omega, rfl⟩
 by_cases hk : keyOf x = keyOf b
 ·have := mkG_inj hR.nd hx hb hk
  simp [this]
 simp [hk]
def ptG (s : Nat) (r : Giv) : Int := if r.2.1 = s then r.2.2 else 0
theorem pts_G (hR : GivV S J high R) (s : Nat) : (countT ⟨1, w, 0⟩ 0 (toI S) (mkG R)).pts s = (R.map (ptG s)).sum := by
 show sumB (cpB s) _ _ _ = _
 rw [sumB_cnt (mkG_serials R), mkG_cnt hR, mkG_map (g := ptG s) fun r => ?_]
 simp only [cpB, balG, ptG, Int.natCast_inj]
 simp
theorem vts_G (hR : GivV S J high R) (s : Nat) : (countT ⟨1, w, 0⟩ 0 (toI S) (mkG R)).vts s = 0 := by
 show sumB (cvB s) _ _ _ = _
 rw [sumB_cnt (mkG_serials R), mkG_cnt hR, mkG_map (g := fun _ => (0 : Int)) fun r => by simp [cvB, balG]]
 clear hR
 induction R with
 | nil => rfl
 | cons r R ih => simpa using ih
theorem toI_up (n : Int) : Up (toI n) := by
 unfold Up toI
 rw [List.pairwise_map]
 exact List.pairwise_lt_range.imp fun h => by omega
theorem runJ (hS : 1 ≤ S ∧ S ≤ 8) (hJ : 0 ≤ J ∧ J ≤ 8) (hh : 0 ≤ high ∧ high ≤ 100) (hw : 1 ≤ w ∧ w ≤ 1000) (hR : GivV S J high R) :
 ∃ (r : Res) (win : Int), runD (cnJ S J high w) (mkG R) = ([r], win, 0) ∧ r.points = (toI S).map (fun k => (R.map (ptG k.toNat)).sum) ∧
  (0 ≤ win ∧ win < S) ∧ ∀ k : Nat, (k : Int) < S → ¬ ((R.map (ptG win.toNat)).sum < (R.map (ptG k)).sum ∨ ((R.map (ptG k)).sum = (R.map (ptG win.toNat)).sum ∧ (k : Int) < win)) := by
 have hck := mkG_chk hS hJ hh ⟨by omega, hw.2⟩ hR
 obtain ⟨t, ht⟩ : ∃ z, countT ⟨1, w, 0⟩ 0 (toI S) (mkG R) = z := ⟨_, rfl⟩
 have hp : ∀ s, t.pts s = (R.map (ptG s)).sum := fun s => by rw [← ht]; exact pts_G hR s
 have hv : ∀ s, t.vts s = 0 := fun s => by rw [← ht]; exact vts_G hR s
 have hrd : t.rd = ⟨1, w, 0⟩ := by rw [← ht]; rfl
 have hsg : t.songs = toI S := by rw [← ht]; rfl
 have hres : resultsT (cnJ S J high w) (mkG R) = [resT t] := by
  unfold resultsT roundsT
  simp only [cnJ, rdsT, List.map_cons, List.map_nil]
  rw [← ht]
  rfl
 have hst : ∀ s : Int, stdT t s 0 0 = ⟨s, t.pts s.toNat, 0, w * t.pts s.toNat⟩ := fun s => by
  unfold stdT weighS
  rw [hv, hrd]
  simp
 have hall : (allT t).map (·.song) = toI S := by rw [allT_song, hsg]
 have hlenI : (toI S).length = S.toNat := by simp [toI]
 have hkl : (resT t).kept.length = 1 := by
  have := resT_klen (t := t) (by rw [hrd, hsg, hlenI]; simp only; omega)
  rw [this, hrd]
  rfl
 obtain ⟨win, hwin⟩ : ∃ a, (resT t).kept = [a] := List.length_eq_one_iff.1 hkl
 have hkr : (resT t).kept = ((allT t).filter fun x => decide (rank (allT t) x < 1)).map (·.song) := by
  show keptS t.rd.keep.toNat (allT t) = _
  rw [hrd]
  exact kept_rank (by rw [hall]; exact toI_up S) 1
 have hmem : win ∈ (resT t).kept := by rw [hwin]; simp
 rw [hkr] at hmem
 obtain ⟨x, hx, hxs⟩ := List.mem_map.1 hmem
 obtain ⟨hx1, hx2⟩ := List.mem_filter.1 hx
 have hx3 : rank (allT t) x = 0 := by have := of_decide_eq_true hx2; omega
 unfold rank at hx3
 rw [List.countP_eq_zero] at hx3
 unfold allT at hx1
 obtain ⟨s0, hs0, e0⟩ := List.mem_map.1 hx1
 rw [hst] at e0
 have hs0w : s0 = win := by rw [← hxs, ← e0]
 subst hs0w
 rw [hsg] at hs0
 have hb : 0 ≤ s0 ∧ s0 < S := by
  unfold toI at hs0
  obtain ⟨i, hi, e⟩ := List.mem_map.1 hs0
  simp at hi
  omega
 refine ⟨resT t, s0, ?_, ?_, hb, fun k hk hor => ?_⟩
 ·unfold runD
  rw [if_neg (by simp [hck]), hres]
  unfold winnerT
  rw [hres]
  show ([resT t], (resT t).kept.headD 0, (0 : Int)) = _
  rw [hwin]
  rfl
 ·show ((allT t).map (·.points)) = _
  unfold allT
  rw [List.map_map, hsg]
  refine List.map_congr_left fun s _ => ?_
  simp only [Function.comp]
  rw [hst, ← hp]
 have hk2 : stdT t (k : Int) 0 0 ∈ allT t := by
  unfold allT
  rw [hsg]
  refine List.mem_map.2 ⟨(k : Int), ?_, rfl⟩
  unfold toI
  exact List.mem_map.2 ⟨k, by simp; omega, rfl⟩
 have := hx3 _ hk2
 rw [hst, ← e0] at this
 simp only [decide_eq_true_eq] at this
 apply this
 rw [ahd_iff]
 simp only [Int.toNat_natCast, hp] at *
 rcases hor with h | ⟨h, h2⟩
 ·left
  exact Int.mul_lt_mul_of_pos_left h (by omega)
 right
 refine ⟨by rw [h], ?_⟩
 right
 exact ⟨h, h2⟩
end
end Go.Proofs.YtpkkegbiddcodaaGreat.So
namespace Go.Proofs.YtpkkegbiddcodaaGreat
open Go
theorem rowG_sum (k : Nat) (j : Int) : ∀ (m : List Int) (n : Nat), (((m.zipIdx n).map fun x => ((j, x.2, x.1) : So.Giv)).map (So.ptG k)).sum = if n ≤ k then (m[k - n]?).getD 0 else 0 := by
 intro m
 induction m with
 | nil => intro n; simp
 | cons x m ih =>
  intro n
  rw [List.zipIdx_cons, List.map_cons, List.map_cons, List.sum_cons, ih]
  simp only [So.ptG]
  rcases Nat.lt_trichotomy n k with h | h | h
  ·rw [if_neg (by omega), if_pos (by omega), if_pos (by omega)]
   have e : k - n = (k - (n + 1)) + 1 := by omega
   rw [e, List.getElem?_cons_succ]
   omega
  ·subst h
   rw [if_pos rfl, if_neg (by omega), if_pos (Nat.le_refl _), Nat.sub_self]
   simp
  rw [if_neg (by omega), if_neg (by omega), if_neg (by omega)]
  rfl
theorem allG_sum (k : Nat) : ∀ ps : List (Int × List Int), ((So.allG ps).map (So.ptG k)).sum = Mk.totJ ps k := by
 intro ps
 induction ps with
 | nil => rfl
 | cons p ps ih =>
  have e : So.allG (p :: ps) = So.rowG p.1 p.2 ++ So.allG ps := by simp [So.allG]
  rw [e, List.map_append, List.sum_append, ih]
  unfold So.rowG
  rw [rowG_sum]
  simp only [Nat.zero_le, if_true, Nat.sub_zero]
  rfl
theorem judgesJ {s : Mk.Scale} {ps : List (Int × List Int)} {w : Int} (hs : Mk.OneS s) (ha : Mk.AllC s ps) (hw : 1 ≤ w ∧ w ≤ 1000) :
 ∃ (T : List Mk.Stand) (r : So.Res) (win : Int), Mk.tableP s (Mk.nightT s ps) = (T, 0) ∧ (T.length : Int) = s.schools ∧ So.runD (So.cnJ s.schools s.judges s.high w) (So.mkG (So.allG ps)) = ([r], win, 0) ∧ (r.points.length : Int) = s.schools ∧
  (∃ x, T[0]? = some x ∧ x.school = win) ∧ ∀ (i : Nat) (x : Mk.Stand), T[i]? = some x → ∃ c : Nat, (c : Int) < s.schools ∧ x.school = (c : Int) ∧ r.points[c]? = some x.total := by
 have hv := Mk.Scale.v hs.c
 have hsc := hv.sc; have hjd := hv.jd; have hlo := hv.lo; have hhi := hv.hi
 have hlen : ps.length = s.judges.toNat := by
  have := ha.pf.length_eq
  simpa [Mk.toI] using this
 have hml : ∀ p, p ∈ ps → p.2.length = s.schools.toNat := fun p hp => by have := (ha.ml p hp).1; omega
 have hR : So.GivV s.schools s.judges s.high (So.allG ps) := by
  refine ⟨?_, fun r hr => ?_, So.allG_keys (ha.pf.nodup_iff.2 (Mk.toI_nodup _))⟩
  ·rw [So.allG_len hml, hlen]
   have h1 : s.judges.toNat ≤ 5 := by omega
   have h2 : s.schools.toNat ≤ 8 := by omega
   have := Nat.mul_le_mul h1 h2
   omega
  unfold So.allG at hr
  obtain ⟨p, hp, hr⟩ := List.mem_flatMap.1 hr
  unfold So.rowG at hr
  obtain ⟨⟨x, i⟩, hx, rfl⟩ := List.mem_map.1 hr
  have hx2 := List.mem_zipIdx hx
  simp at hx2
  obtain ⟨hx3, hx4⟩ := hx2
  have h1 := hml p hp
  have h2 := (ha.ml p hp).2 x (by rw [hx4]; exact List.getElem_mem _)
  have h3 := (ha.pf.mem_iff (a := p.1)).1 (List.mem_map.2 ⟨p, hp, rfl⟩)
  have h4 := Mk.mem_toI'.1 h3
  refine ⟨h4, ?_, ?_, h2.2⟩
  ·simp only; omega
  simp only; omega
 obtain ⟨T, t1, t2, t3, t4⟩ := Mk.tableJ hs ha
 obtain ⟨r, win, r1, r2, r3, r4⟩ := So.runJ ⟨hsc.1, hsc.2⟩ ⟨by omega, by omega⟩ hhi hw hR
 refine ⟨T, r, win, t1, t2, r1, by rw [r2]; simp [So.toI]; omega, ?_, fun i x hx => ?_⟩
 ·obtain ⟨x, hx⟩ : ∃ x, T[0]? = some x := ⟨T[0]'(by omega), by simp⟩
  refine ⟨x, hx, ?_⟩
  obtain ⟨c, c1, c2, c3⟩ := t3 0 x hx
  by_cases e : x.school = win
  ·exact e
  exfalso
  have h1 := t4 x hx win.toNat (by omega) (by omega)
  have h2 := r4 c c1
  rw [allG_sum, allG_sum] at h2
  apply h2
  omega
 obtain ⟨c, c1, c2, c3⟩ := t3 i x hx
 refine ⟨c, c1, c2, ?_⟩
 rw [r2, List.getElem?_map]
 unfold So.toI
 rw [List.getElem?_map, List.getElem?_range (by omega)]
 simp only [Option.map_some, Int.toNat_natCast]
 rw [allG_sum, c3]
end Go.Proofs.YtpkkegbiddcodaaGreat
namespace Go.Proofs.YtpkkegbiddcodaaGreat.Mk
open Go Go.RowKit
set_option maxRecDepth 100000
set_option maxHeartbeats 2000000 in
theorem Seal_pc (Y : YEnv) (σ : Sg) (s : Scale) (a b : Int) (l : List Int) (o : Own) (hl : l.length < 2 ^ 40) (hs : s.Ok) :
 PC Tryz.prog Y 25 [scPV s, I a, I b, intsO o l] σ (.tuple [I (sealAns s (a, b) l).1, I (sealAns s (a, b) l).2]) (σ) := by
 refine PC_of_W Tryz.func25 rfl (by kernel_rfl) Tryz.ntmps25 (by simp) fun hcl hca => ?_
 refine W_sr [1, 2, 3, 4] fun R hR => ?_
 simp only [go_sem]
 refine hR _ _ ?_; clear hR R
 try simp only [go_sem]
 refine W_seq fun Z2 K2 => ?_
 refine W_sr [1, 2, 3, 4, 10] fun R hR => ?_
 simp only [go_sem]
 refine GCall_of (Check_pc Y _ s hs) ?_
 simp only [go_sem]
 refine hR _ _ ?_; clear hR R
 try simp only [go_sem]
 refine W_sr [1, 2, 3, 4, 10, 16] fun R hR => ?_
 simp only [go_sem]
 refine hR _ _ ?_; clear hR R
 try simp only [go_sem]
 refine W_cond rfl (fun c1 => ?_) (fun c1 => ?_)
 ·
  try simp only [nrm] at c1
  refine W_sr [8, 9] fun R hR => ?_
  simp only [go_sem]
  refine hR _ _ ?_; clear hR R
  try simp only [go_sem]
  refine W_ret ?_
  simp only [go_sem]
  refine ⟨.inr (by trivial), ?_⟩
  first | refine Fsa hcl rfl ?_ | refine Fse hcl rfl ?_
  try simp only [go_sem]
  all_goals
   simp [sealAns, *]
 try simp only [nrm] at c1
 refine W_skip (K2 _ _ ?_)
 refine W_sr [3, 4, 11] fun R hR => ?_
 simp only [go_sem]
 refine hR _ _ ?_; clear hR R
 try simp only [go_sem]
 refine W_seq fun Z7 K7 => ?_
 refine W_sr [3, 11, 12] fun R hR => ?_
 simp only [go_sem]
 have hv := Scale.v c1
 refine GCall_of (marked_pc Y _ s (a, b) l o hl hv) ?_
 simp only [go_sem]
 refine hR _ _ ?_; clear hR R
 try simp only [go_sem]
 refine W_sr [3, 11, 12, 26] fun R hR => ?_
 simp only [go_sem]
 refine hR _ _ ?_; clear hR R
 try simp only [go_sem]
 refine W_cond rfl (fun c2 => ?_) (fun c2 => ?_)
 ·
  try simp only [nrm] at c2
  refine W_sr [8, 9] fun R hR => ?_
  simp only [go_sem]
  refine hR _ _ ?_; clear hR R
  try simp only [go_sem]
  refine W_ret ?_
  simp only [go_sem]
  refine ⟨.inr (by trivial), ?_⟩
  first | refine Fsa hcl rfl ?_ | refine Fse hcl rfl ?_
  try simp only [go_sem]
  all_goals
   simp [sealAns, *]
 try simp only [nrm] at c2
 refine W_skip (K7 _ _ ?_)
 refine W_sr [8, 9] fun R hR => ?_
 simp only [go_sem]
 obtain ⟨k1, k2, k3⟩ := marked_ok c2
 simp only [ofSc_true] at k1
 have q1 := hv.mt
 have q2 := hv.jd
 have q3 := hv.sc
 have q4 := hv.lo
 have q5 := hv.hi
 refine GCall_of (seal_pc Y _ (a, b) l o (by simp only; omega) (by simp only; omega) (by omega) (fun x hx => by have := k3 x hx; omega)) ?_
 simp only [go_sem]
 refine hR _ _ ?_; clear hR R
 try simp only [go_sem]
 refine W_ret ?_
 simp only [go_sem]
 refine ⟨.inr (by trivial), ?_⟩
 first | refine Fsa hcl rfl ?_ | refine Fse hcl rfl ?_
 try simp only [go_sem]
 all_goals
  simp [sealAns, *]
theorem Weak.freezeS {N : Nat} {lo : Nat × Nat} {E : Env} {σ : Sg} {t : Nat} {A : List (Option (List PV))} {rm : List Nat} {ys : List LState} {out : List Stand} (ht : E.get t = glS (σ.store.length + A.length) out) (hne : out ≠ []) :
 Weak N lo E (σ.ext (A ++ gsS out) rm ys) (E.put (some t) (.isl (out.map sdPV) .ro)) (σ.ext (A ++ List.replicate out.length none) rm ys) := by
 cases out with
 | nil => exact absurd rfl hne
 | cons z zs =>
  have h := Weak.freeze (N := N) (lo := lo) (E := E) (σ := σ.ext (A ++ gsS (z :: zs)) rm ys) (t := t) (id := σ.store.length + (A.length + zs.length)) (len := zs.length + 1) (es := 3) (l := (z :: zs).map sdPV) (by rw [ht]; simp only [glS, Nat.add_assoc]) (by rw [Sg.get_ext]; exact gsS_get) (by simp) (fun q hq => by obtain ⟨x, _, rfl⟩ := List.mem_map.1 hq; rfl)
  rw [Sg.drop_ext, gsS_set] at h
  have e : List.replicate (z :: zs).length (none : Option (List PV)) = List.replicate zs.length none ++ [none] := by simp [List.replicate_succ']
  rw [e]
  exact h
set_option maxHeartbeats 4000000 in
theorem tabO_pc (Y : YEnv) (σ : Sg) (s : Scale) (g : Night) (hs : s.Ok) (hg : g.Ok) (hE : knownE s g = 0) (hne0 : sealedK s (knownK s g) = []) :
 PC Tryz.prog Y 10 [scPV s, ngPV g] σ (.tuple [sds (tblP s (knownK s g) g), I 0]) (σ) := by
 refine PC_of_W Tryz.func10 rfl (by kernel_rfl) Tryz.ntmps10 (by simp) fun hcl hca => ?_
 have hV := known_V hE
 obtain ⟨K, hK⟩ : ∃ z, knownK s g = z := ⟨_, rfl⟩
 rw [hK] at hV
 have hv := hV.v
 have q3 := hv.sc
 have q4 := hv.lo
 have q5 := hv.hi
 obtain ⟨N, hN⟩ : ∃ z : Nat, s.schools = z := ⟨s.schools.toNat, by omega⟩
 have hNi : (s.schools : Int) = (N : Int) := hN
 have hkn := fun Y σ => knownOf_ok Y σ s g hs hg hE
 rw [hK] at hkn
 have hne : sealedK s K = [] := by rw [← hK]; exact hne0
 have htb : tblP s (knownK s g) g = sortSd s.order (sdUp s K g N) := by rw [hK, tblP, hN, Int.toNat_natCast]
 rw [htb]
 have hol := hv.ol
 have q1 := hv.mt
 refine W_sr [2, 3, 4, 5] fun R hR => ?_
 simp only [go_sem]
 refine hR _ _ ?_; clear hR R
 try simp only [go_sem]
 refine W_sr [2, 3, 4, 5, 6, 7] fun R hR => ?_
 simp only [go_sem]
 refine GCall_of (hkn Y _) ?_
 simp only [go_sem]
 refine hR _ _ ?_; clear hR R
 try simp only [go_sem]
 refine W_seq fun Z3 K3 => ?_
 refine W_sr [2, 3, 4, 5, 6, 7, 18] fun R hR => ?_
 simp only [go_sem]
 refine hR _ _ ?_; clear hR R
 try simp only [go_sem]
 refine W_cond_false rfl ?_
 refine W_skip (K3 _ _ ?_)
 refine W_seq fun Z5 K5 => ?_
 refine W_sr [2, 3, 4, 5, 6, 22] fun R hR => ?_
 simp only [go_sem]
 refine GCall_of (sealed_pc Y _ (σ.store.length + 6) (by simp only [go_sem] <;> omega) s) ?_
 simp only [go_sem]
 refine hR _ _ ?_; clear hR R
 try simp only [go_sem]
 refine W_block ?_
 have hLc : ∀ (z : Int) (n r yy : Nat), σ.store.length + 9 ≤ n → CleanLs n r yy [some (scCells s), some (ngCells g), some [.isl [] .exact], some [I z], some (scCells s), some (ngCells g), some (.mark :: knE K), some [.map (σ.store.length + 6)], some (scCells s)] := fun z n r yy h => by
  have c1 := cleans_ng (a := n) (b := r) (c := yy) g
  have c2 := cleans_sc (a := n) (b := r) (c := yy) s
  have c3 : CleanAll n r yy (knE K) := cA_kn.mpr trivial
  have c1' : CleanAll n r yy (ngCells g) := c1
  have c2' : CleanAll n r yy (scCells s) := c2
  simp only [CleanLs_cons, CleanLs_nil, CleanAll_cons, CleanAll_nil, Cl_map, Cl_mark, Cl_isl, OwnLt_exact, Cl_int, c1', c2', c3, true_and, and_true]
  omega
 refine W_rangeFunc (gf := 39) (v := .tuple []) (s := .ready) (σ5 := σ.ext [some (scCells s), some (ngCells g), some [.isl [] .exact], some [I 0], some (scCells s), some (ngCells g), some (.mark :: knE K), some [.map (σ.store.length + 6)], some (scCells s)] [] [.ready]) rfl (by simp) (fun _ _ _ _ => False) ?_ ?_ ?_ ?_ ?_
 ·intro args τ b τ' h; exact h.elim
 ·have hst := sealedA_pc (Y.at σ.ys.length (fun _ _ _ _ => False)) σ σ.ys.length (σ.store.length + 8) (σ.store.length + 7) (σ.store.length + 6) s hv K (fun _ => σ.ext [some (scCells s), some (ngCells g), some [.isl [] .exact], some [I 0], some (scCells s), some (ngCells g), some (.mark :: knE K), some [.map (σ.store.length + 6)], some (scCells s)] [] [.ready])
   (fun _ _ => Sg.get_ext ..) (fun _ _ => Sg.get_ext ..) (fun _ _ => Sg.get_ext ..) (fun _ _ => ⟨rfl, rfl, rfl⟩) (fun h _ _ => h)
   (fun c m n h => by rw [hne] at h; simp at h)
  simp only [go_sem] at hst ⊢
  exact hst
 ·simp only [go_sem]
 ·simp only [go_sem]
  exact CleanCut_ext hcl (by first | omega | (simp only [go_sem] <;> omega)) (by first | omega | (simp only [go_sem] <;> omega)) (Nat.le_refl _) (hLc 0 _ _ _ (by first | omega | (simp only [go_sem] <;> omega)))
 simp only [AfterLoop, go_sem]
 refine K5 _ _ ?_
 refine W_sr [2, 3, 4, 5, 6, 8] fun R hR => ?_
 simp only [go_sem]
 refine hR _ _ ?_; clear hR R
 try simp only [go_sem]
 refine W_seq fun Z8 K8 => ?_
 refine W_sr [2, 3, 4, 5, 6, 8, 25, 26] fun R hR => ?_
 simp only [go_sem]
 refine hR _ _ ?_; clear hR R
 try simp only [go_sem]
 refine W_block ?_
 refine W_weak (Weak.gnil (t := 8) rfl) ?_
 refine W_weak (Weak.keep [2, 3, 4, 5, 6, 8, 25, 26]) ?_
 simp only [go_sem]
 refine W_loopT (α := Nat) (fun (i : Nat) => [(8, glS (σ.store.length + 9) (sdUp s K g i)), (26, I i)]) (fun (i : Nat) => σ.ext ([some (scCells s), some (ngCells g), some [.isl [] .exact], some [I 0], some (scCells s), some (ngCells g), some (.mark :: knE K), some [.map (σ.store.length + 6)], some (scCells s)] ++ gsS (sdUp s K g i)) []) (fun (i : Nat) => i ≤ N) (fun (i : Nat) => N - i) (0) rfl (by first | rfl | (simp only [go_sem]; done) | (simp only [go_sem]; rfl)) (Nat.zero_le _) ?_
 rintro i hi
 refine W_sr [2, 3, 4, 5, 6, 8, 25, 26, 27] fun R hR => ?_
 simp only [go_sem]
 refine hR _ _ ?_; clear hR R
 try simp only [go_sem]
 refine W_seq fun Z11 K11 => ?_
 refine W_cond rfl (fun c1 => ?_) (fun c1 => ?_)
 ·
  try simp only [nrm] at c1
  have hiN : i < N := by first | omega | (simp at c1; omega)
  have hsu := sdUp_succ s K g i
  have hsl : (sdUp s K g i).length = i := by simp [sdUp]
  have happ := appG_gs (σ := σ) (A := [some (scCells s), some (ngCells g), some [.isl [] .exact], some [I 0], some (scCells s), some (ngCells g), some (.mark :: knE K), some [.map (σ.store.length + 6)], some (scCells s)]) (rm := []) (ys := []) (out := sdUp s K g i) 40 (standK s K g i 0) (by omega)
  rw [← hsu] at happ
  simp only [go_sem, List.length_cons, List.length_nil] at happ
  refine W_skip (K11 _ _ ?_)
  refine W_seq fun Z12 K12 => ?_
  refine W_block ?_
  refine W_sr [2, 3, 4, 5, 6, 8, 9, 25, 26] fun R hR => ?_
  simp only [go_sem, happ]
  refine hR _ _ ?_; clear hR R
  try simp only [go_sem, happ]
  refine W_region [2, 3, 4, 5, 6, 8, 25, 26] fun R hR => ?_
  simp only [go_sem, happ]
  refine GCall_of (standing_pc Y _ (σ.store.length + 6) K (Sg.get_ext ..) s g hV i (by omega) 0 (by omega)) ?_
  simp only [go_sem, happ]
  try simp (disch := first | omega | (simp only [go_sem] <;> omega)) only [wrapI, wrapU, appX_exact, appX_tok]
  try simp only [go_sem, happ]
  refine hR _ _ (K12 _ _ ?_); clear hR R; try clear K12 Z12
  try simp only [go_sem, happ]
  refine W_region [2, 3, 4, 5, 6, 8, 25, 26] fun R hR => ?_
  simp only [go_sem, happ]
  try simp (disch := omega) only [wrapI, wrapU]
  refine hR _ _ ?_; clear hR R
  try simp only [go_sem, happ]
  refine ⟨i + 1, ?_, by (try simp only []); omega, ?_⟩
  ·exact Weak.refl
  try dsimp only
  omega
 try simp only [nrm] at c1
 have hie : N = i := by first | omega | (simp at c1; omega)
 subst hie
 have hsl : (sdUp s K g N).length = N := by simp [sdUp]
 have hCmp : ∀ a b, a ∈ sdUp s K g N → b ∈ sdUp s K g N → CmpOk s.order a b := fun a b ha hb => by
  obtain ⟨x, hx, rfl⟩ := List.mem_map.1 ha
  obtain ⟨y, hy, rfl⟩ := List.mem_map.1 hb
  have h1 := List.mem_range.1 hx
  have h2 := List.mem_range.1 hy
  exact cmp_ok hV (by omega) (by omega) (by omega) (by omega)
 refine W_exit ?_
 simp only [go_sem]
 refine K8 _ _ ?_
 refine W_sr [4, 5, 8, 10] fun R hR => ?_
 simp only [go_sem]
 refine hR _ _ ?_; clear hR R
 try simp only [go_sem]
 refine W_sr [4, 5, 8] fun R hR => ?_
 simp only [go_sem]
 refine GCall_of (sort_gs Y σ [_, _, _, _, _, _, _, _, _] [] s.order (sdUp s K g N) hCmp (by omega) (by omega)) ?_
 simp only [go_sem]
 refine hR _ _ ?_; clear hR R
 try simp only [go_sem]
 refine W_seq fun Z16 K16 => ?_
 have hne3 : sortSd s.order (sdUp s K g N) ≠ [] := fun e => by
  have := sortSd_len s.order (sdUp s K g N)
  rw [e, hsl] at this
  simp at this; omega
 refine W_weak (Weak.freezeS (t := 8) (A := [_, _, _, _, _, _, _, _, _]) (out := sortSd s.order (sdUp s K g N)) (by rw [glS_sort]; rfl) hne3) ?_
 refine W_weak (Weak.keep [4, 5, 8]) ?_
 simp only [go_sem]
 refine W_region [4, 5] fun R hR => ?_
 simp only [go_sem]
 refine hR _ _ (K16 _ _ ?_); clear hR R; try clear K16 Z16
 try simp only [go_sem]
 refine W_ret ?_
 simp only [go_sem]
 refine ⟨.inr (by trivial), ?_⟩
 refine Fin_same hcl (by show resPV Tryz.prog _ _ [.cell 4 47, .cell 5 48] = some _; simp only [resPV, go_sem]; rfl) (Wk.ro (by simp only [go_sem]) ?_)
 try simp only [go_sem]
 all_goals
  first | rfl | simp only [go_sem]
theorem Table_pc (Y : YEnv) (σ : Sg) (s : Scale) (g : Night) (hs : s.Ok) (hg : g.Ok) : PC Tryz.prog Y 10 [scPV s, ngPV g] σ (.tuple [sds (tableP s g).1, I (tableP s g).2]) σ := by
 unfold tableP
 by_cases h : knownE s g = 0
 ·rw [if_neg (by simpa using h)]
  by_cases h2 : sealedK s (knownK s g) = []
  ·rw [if_neg (by simpa using h2)]; exact tabO_pc Y σ s g hs hg h h2
  rw [if_pos h2]; exact tabS_pc Y σ s g hs hg h h2
 rw [if_pos h]; exact tabE_pc Y σ s g hs hg h
set_option maxHeartbeats 2000000 in
theorem EqInts_pc (Y : YEnv) (σ : Sg) (xs ys : List Int) (o o2 : Own) (hx : xs.length < 2 ^ 50) :
 PC Tryz.prog Y 27 [.isl (xs.map I) o, .isl (ys.map I) o2] σ (.bool (decide (xs = ys))) (σ) := by
 refine PC_of_W Tryz.func27 rfl (by kernel_rfl) Tryz.ntmps27 (by simp) fun hcl hca => ?_
 refine W_sr [0, 1] fun R hR => ?_
 simp only [go_sem]
 refine hR _ _ ?_; clear hR R
 try simp only [go_sem]
 refine W_seq fun Z2 K2 => ?_
 refine W_sr [0, 1, 10] fun R hR => ?_
 simp only [go_sem]
 refine hR _ _ ?_; clear hR R
 try simp only [go_sem]
 refine W_cond rfl (fun c1 => ?_) (fun c1 => ?_)
 ·
  try simp only [nrm] at c1
  refine W_sr [4] fun R hR => ?_
  simp only [go_sem]
  refine hR _ _ ?_; clear hR R
  try simp only [go_sem]
  refine W_ret ?_
  simp only [go_sem]
  refine ⟨.inr (by trivial), ?_⟩
  first | refine Fsa hcl rfl ?_ | refine Fse hcl rfl ?_
  try simp only [go_sem]
  all_goals
   simp; intro h; subst h; exact c1 rfl
 try simp only [nrm] at c1
 refine W_skip (K2 _ _ ?_)
 refine W_seq fun Z5 K5 => ?_
 refine W_sr [0, 1, 5] fun R hR => ?_
 simp only [go_sem]
 refine hR _ _ ?_; clear hR R
 try simp only [go_sem]
 refine W_block ?_
 refine W_loopS (α := Nat) (fun (i : Nat) => [(5, I i)]) (fun (i : Nat) => i ≤ xs.length ∧ xs.take i = ys.take i) (fun (i : Nat) => xs.length - i) (0) rfl (⟨Nat.zero_le _, rfl⟩) ?_
 rintro i ⟨hi, ht⟩
 refine W_seq fun Z7 K7 => ?_
 refine W_sr [0, 1, 5, 14] fun R hR => ?_
 simp only [go_sem]
 refine hR _ _ ?_; clear hR R
 try simp only [go_sem]
 refine W_cond rfl (fun c2 => ?_) (fun c2 => ?_)
 ·
  try simp only [nrm] at c2
  have hi' : i < xs.length := by first | assumption | omega
  obtain ⟨x, hxi⟩ : ∃ x, xs[i]? = some x := ⟨xs[i], by simp⟩
  obtain ⟨y, hyi⟩ : ∃ y, ys[i]? = some y := ⟨ys[i]'(by omega), by simp⟩
  refine W_skip (K7 _ _ ?_)
  refine W_seq fun Z9 K9 => ?_
  refine W_block ?_
  refine W_seq fun Z10 K10 => ?_
  refine W_draw [0, 1, 5, 25] [0, 1, 2, 3, 4, 5, 6, 7, 8] [] [[], [], [0, 1], [0, 1, 2], [], [], [4, 5], [4, 5, 6], [0, 1, 2, 3, 4, 5, 6, 7]] mixed (by kernel_rfl) fun R hR => ?_
  simp only [go_sem, hxi, hyi]
  try refine And.intro (by repeat' (first | refine And.intro ?_ ?_ | exact GOr_right (fun _ => by simp only [go_sem, hxi, hyi]))) ?_
  refine hR _ _ (K10 _ _ ?_); clear hR R; try clear K10 Z10
  try simp only [go_sem, hxi, hyi]
  refine W_cond rfl (fun c3 => ?_) (fun c3 => ?_)
  ·
   try simp only [nrm] at c3
   refine W_sr [4] fun R hR => ?_
   simp only [go_sem, hxi, hyi]
   refine hR _ _ ?_; clear hR R
   try simp only [go_sem, hxi, hyi]
   refine W_ret ?_
   simp only [go_sem, hxi, hyi]
   refine ⟨.inr (by trivial), ?_⟩
   first | refine Fsa hcl rfl ?_ | refine Fse hcl rfl ?_
   try simp only [go_sem]
   all_goals
    simp; intro h; subst h; rw [hxi] at hyi; injection hyi with h; exact c3 h
  try simp only [nrm] at c3
  refine W_skip (K9 _ _ ?_)
  refine W_region [0, 1, 5] fun R hR => ?_
  simp only [go_sem, hxi, hyi]
  try simp (disch := omega) only [wrapI, wrapU]
  refine hR _ _ ?_; clear hR R
  try simp only [go_sem, hxi, hyi]
  refine ⟨i + 1, ?_, by (try simp only []); omega, ?_⟩
  ·first | exact Weak.refl | exact Weak.eq (by first | rfl | (simp only [go_sem]; done) | (simp only [go_sem]; rfl) | (simp [go_sem]; done) | (simp [go_sem] <;> omega)) (by first | rfl | (simp only [go_sem]; done) | (simp [go_sem]; done))
  try dsimp only
  refine ⟨hi', ?_⟩
  rw [List.take_add_one, List.take_add_one, ht, hxi, hyi, c3]
 try simp only [nrm] at c2
 have hie : i = xs.length := by omega
 subst hie
 have hxy : xs = ys := by rw [List.take_length] at ht; rw [c1, List.take_length] at ht; exact ht
 refine W_exit ?_
 simp only [go_sem]
 refine K5 _ _ ?_
 refine W_sr [4] fun R hR => ?_
 simp only [go_sem]
 refine hR _ _ ?_; clear hR R
 try simp only [go_sem]
 refine W_ret ?_
 simp only [go_sem]
 refine ⟨.inr (by trivial), ?_⟩
 first | refine Fsa hcl rfl ?_ | refine Fse hcl rfl ?_
 try simp only [go_sem]
 all_goals
  simp [hxy]
end Go.Proofs.YtpkkegbiddcodaaGreat.Mk
namespace Go.Proofs.YtpkkegbiddcodaaGreat.So
open Go Go.RowKit
set_option maxRecDepth 100000
theorem allOne {lo hi x : Int} : allIn lo hi [x] = inR x lo hi := by simp [allIn]
def chkRow (n : Int) : List Int → List Int → Int
 | _, [] => 0
 | p, x :: r => if !(inR x 0 (n - 1)) then 7 else if has p x then 8 else chkRow n (p ++ [x]) r
def orE (a b : Int) : Int := if a ≠ 0 then a else b
def chkRows (n : Int) : List (List Int) → Int
 | [] => 0
 | l :: r => orE (chkRow n [] l) (chkRows n r)
/-- The error of preferences. -/
def chkPf (n : Int) (ls : List (List Int)) : Int := if !(inR n 1 8) then 2 else if (ls.length : Int) > 200 then 5 else chkRows n ls
structure PfV (n : Int) (ls : List (List Int)) : Prop where
 nb : 1 ≤ n ∧ n ≤ 8
 ln : ls.length ≤ 200
 ck : ∀ l, l ∈ ls → chkRow n [] l = 0
theorem chkRows_zero {n : Int} : ∀ {ls : List (List Int)}, chkRows n ls = 0 ↔ ∀ l, l ∈ ls → chkRow n [] l = 0 := by
 intro ls
 induction ls with
 | nil => simp [chkRows]
 | cons a r ih =>
  simp only [chkRows, orE, List.mem_cons, forall_eq_or_imp]
  by_cases h : chkRow n [] a = 0
  ·rw [if_neg (by simp [h]), ih]; simp [h]
  rw [if_pos h]; simp [h]
theorem pfV_iff {n : Int} {ls : List (List Int)} : chkPf n ls = 0 ↔ PfV n ls := by
 unfold chkPf
 constructor
 ·intro h
  by_cases h1 : inR n 1 8 = true
  ·rw [h1] at h
   simp only [Bool.not_true, Bool.false_eq_true, if_false] at h
   split at h
   ·omega
   exact ⟨inR_true.1 h1, by omega, chkRows_zero.1 h⟩
  have e : inR n 1 8 = false := by simpa using h1
  rw [e] at h
  simp at h
 rintro ⟨h1, h2, h3⟩
 rw [inR_true.2 h1, if_neg (by simp), if_neg (by omega)]
 exact chkRows_zero.2 h3
theorem chkRow_mem {n : Int} : ∀ {l p : List Int}, chkRow n p l = 0 → (∀ x, x ∈ l → 0 ≤ x ∧ x ≤ n - 1) ∧ l.Nodup ∧ ∀ x, x ∈ l → x ∉ p := by
 intro l
 induction l with
 | nil => intro p _; simp
 | cons x r ih =>
  intro p h
  simp only [chkRow] at h
  by_cases h1 : inR x 0 (n - 1) = true
  ·rw [h1] at h
   simp only [Bool.not_true, Bool.false_eq_true, if_false] at h
   by_cases h2 : has p x = true
   ·rw [if_pos h2] at h; omega
   rw [if_neg h2] at h
   obtain ⟨a, b, c⟩ := ih h
   have hx : x ∉ p := fun hm => h2 (has_iff.2 hm)
   refine ⟨fun y hy => ?_, List.nodup_cons.2 ⟨fun hm => c x hm (by simp), b⟩, fun y hy => ?_⟩
   ·rcases List.mem_cons.1 hy with rfl | hy
    ·exact inR_true.1 h1
    exact a y hy
   rcases List.mem_cons.1 hy with rfl | hy
   ·exact hx
   exact fun hm => c y hy (by simp [hm])
  have e : inR x 0 (n - 1) = false := by simpa using h1
  rw [e] at h
  simp at h
set_option maxHeartbeats 4000000 in
theorem chkPf_pc (Y : YEnv) (σ : Sg) (n : Int) (ls : List (List Int)) (hl : ls.length < 2 ^ 40) (hl2 : ∀ l, l ∈ ls → l.length < 2 ^ 40) :
 PC Tryz.prog Y 56 [I n, lls ls] σ (I (chkPf n ls)) (σ) := by
 refine PC_of_W Tryz.func56 rfl (by kernel_rfl) Tryz.ntmps56 (by simp) fun hcl hca => ?_
 obtain ⟨res, hres⟩ : ∃ r, chkPf n ls = r := ⟨_, rfl⟩
 rw [hres]
 have hres2 := hres.symm
 unfold chkPf at hres2
 refine W_sr [0, 1] fun R hR => ?_
 simp only [go_sem, allOne]
 refine hR _ _ ?_; clear hR R
 try simp only [go_sem, allOne]
 refine W_seq fun Z2 K2 => ?_
 refine W_block ?_
 refine W_sr [0, 1, 9] fun R hR => ?_
 simp only [go_sem, allOne]
 refine GCall_of (in_pc Y _ 1 8 [n] .exact (by simp)) ?_
 simp only [go_sem, allOne]
 refine hR _ _ ?_; clear hR R
 try simp only [go_sem, allOne]
 refine W_cond rfl (fun c1 => ?_) (fun c1 => ?_)
 ·
  try simp only [nrm] at c1
  have c1b : inR n 1 8 = false := by simpa using c1
  refine W_sr [4] fun R hR => ?_
  simp only [go_sem, allOne]
  refine hR _ _ ?_; clear hR R
  try simp only [go_sem, allOne]
  refine W_ret ?_
  simp only [go_sem, allOne]
  refine ⟨.inr (by trivial), ?_⟩
  first | refine Fsa hcl rfl ?_ | refine Fse hcl rfl ?_
  try simp only [go_sem]
  all_goals
   rw [hres2, c1b]; simp
 try simp only [nrm] at c1
 have c1b : inR n 1 8 = true := by simpa using c1
 have hn := inR_true.1 c1b
 refine W_sr [0, 1, 14] fun R hR => ?_
 simp only [go_sem, allOne]
 refine hR _ _ ?_; clear hR R
 try simp only [go_sem, allOne]
 refine W_cond rfl (fun c2 => ?_) (fun c2 => ?_)
 ·
  try simp only [nrm] at c2
  have c2b : (ls.length : Int) > 200 := by first | omega | (simp at c2; omega)
  refine W_sr [4] fun R hR => ?_
  simp only [go_sem, allOne]
  refine hR _ _ ?_; clear hR R
  try simp only [go_sem, allOne]
  refine W_ret ?_
  simp only [go_sem, allOne]
  refine ⟨.inr (by trivial), ?_⟩
  first | refine Fsa hcl rfl ?_ | refine Fse hcl rfl ?_
  try simp only [go_sem]
  all_goals
   rw [hres2, c1b, if_neg (by simp), if_pos c2b]
 try simp only [nrm] at c2
 have c2b : ¬ (ls.length : Int) > 200 := by first | omega | (simp at c2; omega)
 have hres3 : res = chkRows n ls := by rw [hres2, c1b, if_neg (by simp), if_neg c2b]
 refine W_skip (K2 _ _ ?_)
 refine W_seq fun Z7 K7 => ?_
 refine W_sr [0, 18, 19, 20] fun R hR => ?_
 simp only [go_sem, allOne]
 refine hR _ _ ?_; clear hR R
 try simp only [go_sem, allOne]
 refine W_block ?_
 refine W_loopS (α := Nat) (fun (i : Nat) => [(20, I i)]) (fun (i : Nat) => i ≤ ls.length ∧ res = chkRows n (ls.drop i)) (fun (i : Nat) => ls.length - i) (0) rfl (⟨Nat.zero_le _, hres3⟩) ?_
 rintro i ⟨hi, hinv⟩
 refine W_sr [0, 18, 19, 20, 21] fun R hR => ?_
 simp only [go_sem, allOne]
 refine hR _ _ ?_; clear hR R
 try simp only [go_sem, allOne]
 refine W_seq fun Z10 K10 => ?_
 refine W_cond rfl (fun c3 => ?_) (fun c3 => ?_)
 ·
  try simp only [nrm] at c3
  have hi' : i < ls.length := by first | assumption | omega
  obtain ⟨l, hx⟩ : ∃ x, ls[i]? = some x := ⟨ls[i], by simp [hi']⟩
  have hdrop : ls.drop i = l :: ls.drop (i + 1) := by
   rw [List.drop_eq_getElem_cons hi']; congr 1; exact (List.getElem?_eq_some_iff.1 hx).2
  rw [hdrop] at hinv
  simp only [chkRows] at hinv
  have hll := hl2 l (List.mem_of_getElem? hx)
  have hik : i + 1 ≤ ls.length := hi'
  refine W_skip (K10 _ _ ?_)
  refine W_seq fun Z11 K11 => ?_
  refine W_block ?_
  refine W_sr [0, 6, 18, 19, 20] fun R hR => ?_
  simp only [go_sem, allOne, hx, llPV]
  refine hR _ _ ?_; clear hR R
  try simp only [go_sem, allOne, hx, llPV]
  refine W_sr [0, 6, 18, 19, 20, 24, 25, 26] fun R hR => ?_
  simp only [go_sem, allOne, hx, llPV]
  refine hR _ _ ?_; clear hR R
  try simp only [go_sem, allOne, hx, llPV]
  refine W_block ?_
  refine W_loopS (α := Nat) (fun (k : Nat) => [(26, I k)]) (fun (k : Nat) => k ≤ l.length ∧ res = orE (chkRow n (l.take k) (l.drop k)) (chkRows n (ls.drop (i + 1)))) (fun (k : Nat) => l.length - k) (0) rfl (⟨Nat.zero_le _, by rw [hinv]; rfl⟩) ?_
  rintro k ⟨hk, hinv2⟩
  refine W_sr [0, 6, 18, 19, 20, 24, 25, 26, 27] fun R hR => ?_
  simp only [go_sem, allOne, hx, llPV]
  refine hR _ _ ?_; clear hR R
  try simp only [go_sem, allOne, hx, llPV]
  refine W_seq fun Z15 K15 => ?_
  refine W_cond rfl (fun c4 => ?_) (fun c4 => ?_)
  ·
   try simp only [nrm] at c4
   have hk' : k < l.length := by first | assumption | omega
   obtain ⟨v, hv⟩ : ∃ v, l[k]? = some v := ⟨l[k], by simp [hk']⟩
   have hdk : l.drop k = v :: l.drop (k + 1) := by
    rw [List.drop_eq_getElem_cons hk']; congr 1; exact (List.getElem?_eq_some_iff.1 hv).2
   rw [hdk] at hinv2
   simp only [chkRow] at hinv2
   have htk : l.take (k + 1) = l.take k ++ [v] := by rw [List.take_add_one, hv]; rfl
   refine W_skip (K15 _ _ ?_)
   refine W_seq fun Z16 K16 => ?_
   refine W_block ?_
   refine W_sr [0, 6, 7, 8, 18, 19, 20, 24, 25, 26] fun R hR => ?_
   simp only [go_sem, allOne, hx, llPV, hv]
   refine hR _ _ ?_; clear hR R
   try simp only [go_sem, allOne, hx, llPV, hv]
   refine W_block ?_
   refine W_sr [0, 6, 7, 8, 18, 19, 20, 24, 25, 26, 31] fun R hR => ?_
   simp only [go_sem, allOne, hx, llPV, hv]
   try simp (disch := omega) only [wrapI, wrapU]
   refine GCall_of (in_pc Y _ 0 (n - 1) [v] .exact (by simp)) ?_
   simp only [go_sem, allOne, hx, llPV, hv]
   try simp (disch := omega) only [wrapI, wrapU]
   refine hR _ _ ?_; clear hR R
   try simp only [go_sem, allOne, hx, llPV, hv]
   refine W_cond rfl (fun c5 => ?_) (fun c5 => ?_)
   ·
    try simp only [nrm] at c5
    have c5b : inR v 0 (n - 1) = false := by simpa using c5
    refine W_sr [4] fun R hR => ?_
    simp only [go_sem, allOne, hx, llPV, hv]
    refine hR _ _ ?_; clear hR R
    try simp only [go_sem, allOne, hx, llPV, hv]
    refine W_ret ?_
    simp only [go_sem, allOne, hx, llPV, hv]
    refine ⟨.inr (by trivial), ?_⟩
    first | refine Fsa hcl rfl ?_ | refine Fse hcl rfl ?_
    try simp only [go_sem]
    all_goals
     rw [hinv2, c5b]; simp [orE]
   try simp only [nrm] at c5
   have c5b : inR v 0 (n - 1) = true := by simpa using c5
   refine W_sr [0, 6, 18, 19, 20, 24, 25, 26, 38] fun R hR => ?_
   simp only [go_sem, allOne, hx, llPV, hv, hk, ← List.map_take]
   refine GCall_of (contains_pc Y _ (l.take k) _ v (by rw [List.length_take]; omega)) ?_
   simp only [go_sem, allOne, hx, llPV, hv, hk, ← List.map_take]
   refine hR _ _ ?_; clear hR R
   try simp only [go_sem, allOne, hx, llPV, hv]
   refine W_cond rfl (fun c6 => ?_) (fun c6 => ?_)
   ·
    try simp only [nrm] at c6
    have c6b : has (l.take k) v = true := by simpa using c6
    refine W_sr [4] fun R hR => ?_
    simp only [go_sem, allOne, hx, llPV, hv]
    refine hR _ _ ?_; clear hR R
    try simp only [go_sem, allOne, hx, llPV, hv]
    refine W_ret ?_
    simp only [go_sem, allOne, hx, llPV, hv]
    refine ⟨.inr (by trivial), ?_⟩
    first | refine Fsa hcl rfl ?_ | refine Fse hcl rfl ?_
    try simp only [go_sem]
    all_goals
     rw [hinv2, c5b, c6b]; simp [orE]
   try simp only [nrm] at c6
   have c6b : has (l.take k) v = false := by simpa using c6
   refine W_skip (K16 _ _ ?_)
   refine W_region [0, 6, 18, 19, 20, 24, 25, 26] fun R hR => ?_
   simp only [go_sem, allOne, hx, llPV, hv]
   try simp (disch := omega) only [wrapI, wrapU]
   refine hR _ _ ?_; clear hR R
   try simp only [go_sem, allOne, hx, llPV, hv]
   refine ⟨k + 1, ?_, by (try simp only []); omega, ?_⟩
   ·first | exact Weak.refl | exact Wqq
   try dsimp only
   refine ⟨by omega, ?_⟩
   rw [hinv2, htk, c5b, c6b]
   simp
  try simp only [nrm] at c4
  have hdk : l.drop k = [] := List.drop_eq_nil_of_le (by omega)
  rw [hdk] at hinv2
  simp only [chkRow, orE] at hinv2
  have hdone : res = chkRows n (ls.drop (i + 1)) := by rw [hinv2]; simp
  refine W_exit ?_
  simp only [go_sem, allOne, hx, llPV]
  refine K11 _ _ ?_
  refine W_region [0, 18, 19, 20] fun R hR => ?_
  simp only [go_sem, allOne, hx, llPV]
  try simp (disch := omega) only [wrapI, wrapU]
  refine hR _ _ ?_; clear hR R
  try simp only [go_sem, allOne, hx, llPV]
  refine ⟨i + 1, ?_, by (try simp only []); omega, ?_⟩
  ·first | exact Weak.refl | exact Wqq
  try dsimp only
  exact ⟨hik, hdone⟩
 try simp only [nrm] at c3
 have hdrop : ls.drop i = [] := List.drop_eq_nil_of_le (by omega)
 rw [hdrop] at hinv
 simp only [chkRows] at hinv
 refine W_exit ?_
 simp only [go_sem, allOne]
 refine K7 _ _ ?_
 refine W_sr [4] fun R hR => ?_
 simp only [go_sem, allOne]
 refine hR _ _ ?_; clear hR R
 try simp only [go_sem, allOne]
 refine W_ret ?_
 simp only [go_sem, allOne]
 refine ⟨.inr (by trivial), ?_⟩
 first | refine Fsa hcl rfl ?_ | refine Fse hcl rfl ?_
 try simp only [go_sem]
 all_goals
  rw [hinv]
/-- The first song of a list that is not left out. -/
def firstLeft (out l : List Int) : Option Int := l.find? fun s => !has out s
/-- How many lists are for a song. -/
def manyFor (out : List Int) (ls : List (List Int)) (s : Int) : Nat := ls.countP fun l => decide (firstLeft out l = some s)
theorem manyFor_snoc (out : List Int) (ls : List (List Int)) (l : List Int) (s : Int) : manyFor out (ls ++ [l]) s = manyFor out ls s + (if firstLeft out l = some s then 1 else 0) := by
 simp [manyFor, List.countP_append, List.countP_cons]
theorem manyFor_le (out : List Int) (ls : List (List Int)) (s : Int) : manyFor out ls s ≤ ls.length := List.countP_le_length
/-- The last one of those for which the fewest lists are. -/
def worstF (out : List Int) (ls : List (List Int)) : Nat → Int
 | 0 => -1
 | i + 1 => if !has out i && (decide (worstF out ls i < 0) || decide (manyFor out ls i ≤ manyFor out ls (worstF out ls i))) then (i : Int) else worstF out ls i
theorem worstF_bd (out : List Int) (ls : List (List Int)) : ∀ i, (worstF out ls i = -1 ∧ ∀ s : Nat, s < i → has out s = true) ∨ (0 ≤ worstF out ls i ∧ worstF out ls i < i ∧ has out (worstF out ls i) = false) := by
 intro i
 induction i with
 | zero => exact .inl ⟨rfl, fun s h => by omega⟩
 | succ i ih =>
  simp only [worstF]
  split
  ·rename_i h
   right
   simp only [Bool.and_eq_true, Bool.not_eq_true'] at h
   exact ⟨by omega, by omega, h.1⟩
  rename_i h
  rcases ih with ⟨h1, h2⟩ | ⟨h1, h2, h3⟩
  ·left
   refine ⟨h1, fun s hs => ?_⟩
   by_cases e : s = i
   ·subst e
    rw [h1] at h
    simpa using h
   exact h2 s (by omega)
  right; exact ⟨h1, by omega, h3⟩
/-- So many songs, left out. -/
def runU (n : Nat) (ls : List (List Int)) : Nat → List Int
 | 0 => []
 | i + 1 => runU n ls i ++ [worstF (runU n ls i) ls n]
theorem runU_len (n : Nat) (ls : List (List Int)) : ∀ i, (runU n ls i).length = i := by
 intro i
 induction i with
 | zero => rfl
 | succ i ih => simp [runU, ih]
theorem sub_len : ∀ {l l' : List Int}, l.Nodup → (∀ x, x ∈ l → x ∈ l') → l.length ≤ l'.length := by
 intro l
 induction l with
 | nil => intro l' _ _; simp
 | cons a l ih =>
  intro l' hn hs
  obtain ⟨h1, h2⟩ := List.nodup_cons.1 hn
  have ha := hs a (by simp)
  have := ih (l' := l'.erase a) h2 fun x hx => (List.mem_erase_of_ne (show x ≠ a from fun e => h1 (by rw [← e]; exact hx))).2 (hs x (by simp [hx]))
  rw [List.length_erase_of_mem ha] at this
  have hp := List.length_pos_of_mem ha
  simp only [List.length_cons]
  omega
theorem some_left {n : Nat} {out : List Int} (h : out.length < n) : ∃ s : Nat, s < n ∧ has out s = false := by
 refine Classical.byContradiction fun hh => ?_
 have hall : ∀ s : Nat, s < n → has out s = true := fun s hs => by
  cases e : has out s with
  | true => rfl
  | false => exact absurd ⟨s, hs, e⟩ hh
 have hnd : ((List.range n).map fun s : Nat => (s : Int)).Nodup := by
  rw [List.nodup_iff_pairwise_ne, List.pairwise_map]
  exact (List.nodup_iff_pairwise_ne.1 List.nodup_range).imp fun h e => h (by omega)
 have := sub_len hnd (l' := out) fun x hx => by
  obtain ⟨s, hs, rfl⟩ := List.mem_map.1 hx
  exact has_iff.1 (hall s (List.mem_range.1 hs))
 simp at this
 omega
theorem worst_ok {n : Nat} {out : List Int} (ls : List (List Int)) (h : out.length < n) : 0 ≤ worstF out ls n ∧ worstF out ls n < n ∧ has out (worstF out ls n) = false := by
 rcases worstF_bd out ls n with ⟨_, h2⟩ | h2
 ·obtain ⟨s, hs, e⟩ := some_left h
  rw [h2 s hs] at e; cases e
 exact h2
theorem runU_ok (n : Nat) (ls : List (List Int)) : ∀ i, i ≤ n → (∀ x, x ∈ runU n ls i → 0 ≤ x ∧ x < n) ∧ (runU n ls i).Nodup := by
 intro i
 induction i with
 | zero => intro _; exact ⟨fun x hx => absurd hx (by simp [runU]), by simp [runU]⟩
 | succ i ih =>
  intro hi
  obtain ⟨h1, h2⟩ := ih (by omega)
  obtain ⟨w1, w2, w3⟩ := worst_ok (n := n) (out := runU n ls i) ls (by rw [runU_len]; omega)
  refine ⟨fun x hx => ?_, ?_⟩
  ·simp only [runU, List.mem_append, List.mem_singleton] at hx
   rcases hx with hx | rfl
   ·exact h1 x hx
   exact ⟨w1, w2⟩
  simp only [runU]
  rw [List.nodup_append]
  refine ⟨h2, by simp, fun a ha b hb e => ?_⟩
  simp at hb
  subst hb e
  rw [has_iff.2 ha] at w3; cases w3
/-- The first song that is not left out. -/
def winF (out : List Int) : Nat → Nat → Int
 | 0, i => i
 | k + 1, i => if has out i then winF out k (i + 1) else i
/-- Songs left out, the one that remains, an error. -/
def runoffA (n : Int) (ls : List (List Int)) : List Int × Int × Int :=
 if chkPf n ls ≠ 0 then ([], 0, chkPf n ls) else (runU n.toNat ls (n.toNat - 1), winF (runU n.toNat ls (n.toNat - 1)) n.toNat 0, 0)
def goneC (out : List Int) : List PV := (List.range 8).map fun s : Nat => PV.bool (has out s)
def manyC (out : List Int) (ls : List (List Int)) : List PV := (List.range 8).map fun s : Nat => I (manyFor out ls s : Nat)
theorem goneC_get {out : List Int} {s : Nat} (h : s < 8) : (goneC out)[s]? = some (.bool (has out s)) := by simp [goneC, h]
theorem manyC_get {out : List Int} {ls : List (List Int)} {s : Nat} (h : s < 8) : (manyC out ls)[s]? = some (I (manyFor out ls s : Nat)) := by simp [manyC, h]
theorem has_snoc {out : List Int} {w v : Int} : has (out ++ [w]) v = (has out v || decide (w = v)) := by simp [has, List.any_append]
theorem goneC_set {out : List Int} {s : Nat} (h : s < 8) : (goneC out).set s (.bool true) = goneC (out ++ [(s : Int)]) := by
 apply List.ext_getElem?
 intro i
 by_cases e : s = i
 ·subst e
  rw [List.getElem?_set_self (by simpa [goneC] using h), goneC_get h, has_snoc]
  simp
 rw [List.getElem?_set_ne e]
 by_cases hi : i < 8
 ·rw [goneC_get hi, goneC_get hi, has_snoc]
  simp; omega
 simp [goneC, hi]
theorem manyC_none {out : List Int} {ls : List (List Int)} {l : List Int} (h : firstLeft out l = none) : manyC out (ls ++ [l]) = manyC out ls := by
 unfold manyC
 refine List.map_congr_left fun s _ => ?_
 rw [manyFor_snoc, if_neg (by rw [h]; simp)]
 rfl
theorem manyC_some {out : List Int} {ls : List (List Int)} {l : List Int} {s : Nat} (h : s < 8) (hf : firstLeft out l = some (s : Int)) : (manyC out ls).set s (I ((manyFor out ls s : Nat) + 1)) = manyC out (ls ++ [l]) := by
 apply List.ext_getElem?
 intro i
 by_cases e : s = i
 ·subst e
  rw [List.getElem?_set_self (by simpa [manyC] using h), manyC_get h, manyFor_snoc, if_pos hf]
  rfl
 rw [List.getElem?_set_ne e]
 by_cases hi : i < 8
 ·rw [manyC_get hi, manyC_get hi, manyFor_snoc, if_neg (by rw [hf]; intro h; injection h with h; omega)]
  rfl
 simp [manyC, hi]
theorem firstLeft_at {out l : List Int} {k : Nat} {v : Int} (hk : ∀ x, x ∈ l.take k → has out x = true) (hv : l[k]? = some v) (h : has out v = false) : firstLeft out l = some v := by
 have hlt := (List.getElem?_eq_some_iff.1 hv).1
 unfold firstLeft
 rw [List.find?_eq_some_iff_append]
 refine ⟨by simp [h], l.take k, l.drop (k + 1), ?_, fun x hx => by simp [hk x hx]⟩
 conv => lhs; rw [← List.take_append_drop k l]
 rw [List.drop_eq_getElem_cons hlt, (List.getElem?_eq_some_iff.1 hv).2]
theorem firstLeft_none {out l : List Int} (h : ∀ x, x ∈ l → has out x = true) : firstLeft out l = none := by
 unfold firstLeft
 rw [List.find?_eq_none]
 intro x hx
 simp [h x hx]
theorem goneC_len (out : List Int) : (goneC out).length = 8 := by simp [goneC]
theorem manyC_len (out : List Int) (ls : List (List Int)) : (manyC out ls).length = 8 := by simp [manyC]
theorem goneC_clean {a b c : Nat} (out : List Int) : CleanAll a b c (goneC out) := by
 intro p hp
 obtain ⟨s, _, rfl⟩ := List.mem_map.1 hp
 simp only [go_sem]
theorem beqB2 {a b : Bool} : eqPV Tryz.prog 4 (.bool a) (.bool b) = some (decide (a = b)) := by cases a <;> cases b <;> kernel_rfl
theorem sl130 {id : Nat} {k : IntKind} {n : Nat} (h0 : 0 < n) (h8 : n ≤ 8) : slicePV Tryz.prog 130 (.ptr id 0) none (some (.int k n)) none = some (.msl id 0 n) := by
 unfold slicePV
 rw [Tryz.underlying130]
 simp only [Tryz.underlying4, bnd]
 simp [h8]
 omega
def idxF (out : List Int) : Nat → Nat → Int
 | 0, _ => -1
 | k + 1, i => if has out i = false then i else idxF out k (i + 1)
theorem idxF_eq {n : Nat} {out : List Int} : ∀ (k i : Nat), i + k = n → (∃ s : Nat, i ≤ s ∧ s < n ∧ has out s = false) → idxF out k i = winF out k i := by
 intro k
 induction k with
 | zero => rintro i h ⟨s, h1, h2, _⟩; omega
 | succ k ih =>
  rintro i h ⟨s, h1, h2, h3⟩
  simp only [idxF, winF]
  cases e : has out i with
  | false => simp
  | true =>
   simp only [Bool.true_eq_false, if_false, if_true]
   exact ih (i + 1) (by omega) ⟨s, by
    by_cases q : s = i
    ·subst q; rw [e] at h3; cases h3
    omega, h2, h3⟩
set_option maxHeartbeats 2000000 in
theorem gIndex_pc (Y : YEnv) (σ : Sg) (out : List Int) (id n : Nat) (hn8 : n ≤ 8) (hd : σ.store[id]? = some (some (goneC out))) :
 PC Tryz.prog Y 57 [.msl id 0 n, .bool false] σ (I (idxF out n 0)) (σ) := by
 refine PC_of_W Tryz.func57 rfl (by kernel_rfl) Tryz.ntmps57 (by simp) fun hcl hca => ?_
 obtain ⟨res, hres⟩ : ∃ r, idxF out n 0 = r := ⟨_, rfl⟩
 rw [hres]
 refine W_sr [0, 1] fun R hR => ?_
 simp only [go_sem, beqB2, ldS_at hd]
 refine hR _ _ ?_; clear hR R
 try simp only [go_sem, beqB2, ldS_at hd]
 refine W_seq fun Z2 K2 => ?_
 refine W_sr [0, 1, 7, 8] fun R hR => ?_
 simp only [go_sem, beqB2, ldS_at hd]
 refine hR _ _ ?_; clear hR R
 try simp only [go_sem, beqB2, ldS_at hd]
 refine W_block ?_
 refine W_loopS (α := Nat) (fun (i : Nat) => [(8, I i)]) (fun (i : Nat) => i ≤ n ∧ res = idxF out (n - i) i) (fun (i : Nat) => n - i) (0) rfl (⟨Nat.zero_le _, hres.symm⟩) ?_
 rintro i ⟨hi, hinv⟩
 refine W_sr [0, 1, 7, 8, 9] fun R hR => ?_
 simp only [go_sem, beqB2, ldS_at hd]
 refine hR _ _ ?_; clear hR R
 try simp only [go_sem, beqB2, ldS_at hd]
 refine W_seq fun Z5 K5 => ?_
 refine W_cond rfl (fun c1 => ?_) (fun c1 => ?_)
 ·
  try simp only [nrm] at c1
  have hin : i < n := by first | assumption | omega
  have hin2 : (i : Int) < (n : Int) := by omega
  obtain ⟨k, hk⟩ : ∃ k, n - i = k + 1 := ⟨n - i - 1, by omega⟩
  rw [hk] at hinv
  simp only [idxF] at hinv
  have hg := goneC_get (out := out) (s := i) (by omega)
  refine W_skip (K5 _ _ ?_)
  refine W_seq fun Z6 K6 => ?_
  refine W_block ?_
  refine W_sr [0, 1, 5, 7, 8] fun R hR => ?_
  simp only [go_sem, beqB2, ldS_at hd, hg]
  refine hR _ _ ?_; clear hR R
  try simp only [go_sem, beqB2, ldS_at hd, hg]
  refine W_sr [0, 1, 5, 7, 8, 16] fun R hR => ?_
  simp only [go_sem, beqB2, ldS_at hd, hg, hin2, iaM_nat (Int.ofNat_lt.1 hin2), Nat.mul_one, Nat.zero_add, bindSome]
  refine hR _ _ ?_; clear hR R
  try simp only [go_sem, beqB2, ldS_at hd, hg]
  refine W_cond rfl (fun c2 => ?_) (fun c2 => ?_)
  ·
   try simp only [nrm] at c2
   refine W_sr [4] fun R hR => ?_
   simp only [go_sem, beqB2, ldS_at hd, hg]
   refine hR _ _ ?_; clear hR R
   try simp only [go_sem, beqB2, ldS_at hd, hg]
   refine W_ret ?_
   simp only [go_sem, beqB2, ldS_at hd, hg]
   refine ⟨.inr (by trivial), ?_⟩
   first | refine Fsa hcl rfl ?_ | refine Fse hcl rfl ?_
   try simp only [go_sem]
   all_goals
    first | (rw [hinv]; done) | (rw [hinv]; simp_all; done) | rfl
  try simp only [nrm] at c2
  refine W_skip (K6 _ _ ?_)
  refine W_region [0, 1, 7, 8] fun R hR => ?_
  simp only [go_sem, beqB2, ldS_at hd, hg]
  try simp (disch := omega) only [wrapI, wrapU]
  refine hR _ _ ?_; clear hR R
  try simp only [go_sem, beqB2, ldS_at hd, hg]
  refine ⟨i + 1, ?_, by (try simp only []); omega, ?_⟩
  ·first | exact Weak.refl | exact Wqq
  try dsimp only
  refine ⟨hin, ?_⟩
  rw [hinv, show n - (i + 1) = k by omega]
  simp_all
 try simp only [nrm] at c1
 have hie : n - i = 0 := by omega
 rw [hie] at hinv
 simp only [idxF] at hinv
 refine W_exit ?_
 simp only [go_sem, beqB2, ldS_at hd]
 refine K2 _ _ ?_
 refine W_sr [4] fun R hR => ?_
 simp only [go_sem, beqB2, ldS_at hd]
 refine hR _ _ ?_; clear hR R
 try simp only [go_sem, beqB2, ldS_at hd]
 refine W_ret ?_
 simp only [go_sem, beqB2, ldS_at hd]
 refine ⟨.inr (by trivial), ?_⟩
 first | refine Fsa hcl rfl ?_ | refine Fse hcl rfl ?_
 try simp only [go_sem]
 all_goals
  first | (rw [hinv]; done) | (rw [hinv]; simp_all; done) | rfl
set_option maxHeartbeats 8000000 in
theorem Runoff_pc (Y : YEnv) (σ : Sg) (n : Int) (ls : List (List Int)) (hl : ls.length < 2 ^ 40) (hl2 : ∀ l, l ∈ ls → l.length < 2 ^ 40) :
 PC Tryz.prog Y 26 [I n, lls ls] σ (.tuple [ints (runoffA n ls).1, I (runoffA n ls).2.1, I (runoffA n ls).2.2]) (σ) := by
 refine PC_of_W Tryz.func26 rfl (by kernel_rfl) Tryz.ntmps26 (by simp) fun hcl hca => ?_
 refine W_sr [0, 1, 4] fun R hR => ?_
 simp only [go_sem]
 refine hR _ _ ?_; clear hR R
 try simp only [go_sem]
 refine W_seq fun Z2 K2 => ?_
 refine W_sr [0, 1, 4, 7] fun R hR => ?_
 simp only [go_sem]
 refine GCall_of (chkPf_pc Y _ n ls hl hl2) ?_
 simp only [go_sem]
 refine hR _ _ ?_; clear hR R
 try simp only [go_sem]
 refine W_sr [0, 1, 4, 7, 20] fun R hR => ?_
 simp only [go_sem]
 refine hR _ _ ?_; clear hR R
 try simp only [go_sem]
 refine W_cond rfl (fun c1 => ?_) (fun c1 => ?_)
 ·
  try simp only [nrm] at c1
  refine W_sr [4, 5, 6] fun R hR => ?_
  simp only [go_sem]
  refine hR _ _ ?_; clear hR R
  try simp only [go_sem]
  refine W_ret ?_
  simp only [go_sem]
  refine ⟨.inr (by trivial), ?_⟩
  first | (rw [hall]; refine Fin_same hcl rfl (Wk.ro (by simp only [go_sem]) ?_)) | refine Fin_same hcl rfl (Wk.ro (by simp only [go_sem]) ?_) | refine Fin_self hcl rfl (Wk.ro (by simp only [go_sem]) ?_)
  try simp only [go_sem]
  all_goals
   simp only [runoffA]; rw [if_pos c1]; first | rfl | simp only [go_sem]
 try simp only [nrm] at c1
 have hV := pfV_iff.1 c1
 have hn1 := hV.nb
 obtain ⟨N, hN⟩ : ∃ z : Nat, n = z := ⟨n.toNat, by omega⟩
 have hall : runoffA n ls = (runU N ls (N - 1), winF (runU N ls (N - 1)) N 0, 0) := by
  unfold runoffA
  rw [if_neg (by simp [c1]), hN, Int.toNat_natCast]
 have hmem := fun l (h : l ∈ ls) => (chkRow_mem (hV.ck l h)).1
 subst hN
 refine W_skip (K2 _ _ ?_)
 refine W_sr [0, 1, 4, 8] fun R hR => ?_
 simp only [go_sem]
 refine hR _ _ ?_; clear hR R
 try simp only [go_sem]
 refine W_seq fun Z7 K7 => ?_
 refine W_block ?_
 refine W_weak (Weak.room (t := 4) (es := 1) rfl (by simp)) ?_
 refine W_weak (Weak.keep [0, 1, 4, 8]) ?_
 simp only [go_sem]
 refine W_loopT (α := Nat) (fun (i : Nat) => [(4, .isl ((runU N ls i).map I) (.tok σ.rooms.length i 1))]) (fun (i : Nat) => σ.ext [some (goneC (runU N ls i))] [i]) (fun (i : Nat) => i ≤ N - 1) (fun (i : Nat) => N - 1 - i) (0) rfl (by first | rfl | (simp only [go_sem]; done) | (simp only [go_sem]; rfl)) (Nat.zero_le _) ?_
 rintro i hi
 have hrl := runU_len N ls i
 obtain ⟨out, hout⟩ : ∃ z, runU N ls i = z := ⟨_, rfl⟩
 rw [hout] at hrl
 rw [hout]
 refine W_seq fun Z8 K8 => ?_
 refine W_sr [0, 1, 4, 8, 26] fun R hR => ?_
 simp only [go_sem, hrl]
 try simp (disch := omega) only [wrapI, wrapU]
 refine hR _ _ ?_; clear hR R
 try simp only [go_sem, hrl]
 refine W_cond rfl (fun c2 => ?_) (fun c2 => ?_)
 ·
  try simp only [nrm] at c2
  have hiN : i < N - 1 := by first | omega | (simp at c2; omega)
  have hok := runU_ok N ls i (by omega)
  have hw := worst_ok (n := N) ls (out := out) (by omega)
  refine W_skip (K8 _ _ ?_)
  refine W_block ?_
  refine W_scope ?_
  refine W_sr [0, 1, 4, 8, 9] fun R hR => ?_
  simp only [go_sem, hrl]
  refine hR _ _ ?_; clear hR R
  try simp only [go_sem, hrl]
  refine W_seq fun Z11 K11 => ?_
  refine W_label (K11 _ _ ?_)
  refine W_seq fun Z12 K12 => ?_
  refine W_sr [0, 1, 4, 8, 9, 27, 28, 29] fun R hR => ?_
  simp only [go_sem, hrl]
  refine hR _ _ ?_; clear hR R
  try simp only [go_sem, hrl]
  refine W_block ?_
  refine W_loopT (α := Nat) (fun (j : Nat) => [(29, I j)]) (fun (j : Nat) => σ.ext [some (goneC out), some (manyC out (ls.take j))] [i]) (fun (j : Nat) => j ≤ ls.length) (fun (j : Nat) => ls.length - j) (0) rfl (by first | rfl | (simp only [go_sem]; done) | (simp only [go_sem]; rfl)) (Nat.zero_le _) ?_
  rintro j hj
  refine W_sr [0, 1, 4, 8, 9, 27, 28, 29, 30] fun R hR => ?_
  simp only [go_sem, hrl]
  refine hR _ _ ?_; clear hR R
  try simp only [go_sem, hrl]
  refine W_seq fun Z15 K15 => ?_
  refine W_cond rfl (fun c3 => ?_) (fun c3 => ?_)
  ·
   try simp only [nrm] at c3
   have hj' : j < ls.length := by first | assumption | omega
   obtain ⟨l, hlj⟩ : ∃ l, ls[j]? = some l := ⟨ls[j], by simp [hj']⟩
   have hdrop : ls.drop j = l :: ls.drop (j + 1) := by
    rw [List.drop_eq_getElem_cons hj']; congr 1; exact (List.getElem?_eq_some_iff.1 hlj).2
   have hsn : ls.take (j + 1) = ls.take j ++ [l] := by rw [List.take_add_one, hlj]; rfl
   have hlm := hmem l (List.mem_of_getElem? hlj)
   have hll := hl2 l (List.mem_of_getElem? hlj)
   have hj2 : j + 1 ≤ ls.length := hj'
   refine W_skip (K15 _ _ ?_)
   refine W_seq fun Z16 K16 => ?_
   refine W_block ?_
   refine W_sr [0, 1, 4, 8, 9, 11, 27, 28, 29] fun R hR => ?_
   simp only [go_sem, hrl, hlj, llPV]
   refine hR _ _ ?_; clear hR R
   try simp only [go_sem, hrl, hlj, llPV]
   refine W_sr [0, 1, 4, 8, 9, 27, 28, 29, 33, 34, 35] fun R hR => ?_
   simp only [go_sem, hrl, hlj, llPV]
   refine hR _ _ ?_; clear hR R
   try simp only [go_sem, hrl, hlj, llPV]
   refine W_block ?_
   refine W_loopT (α := Nat) (fun (k : Nat) => [(35, I k)]) (fun (k : Nat) => σ.ext [some (goneC out), some (manyC out (ls.take j))] [i]) (fun (k : Nat) => k ≤ l.length ∧ ∀ x, x ∈ l.take k → has out x = true) (fun (k : Nat) => l.length - k) (0) rfl (by first | rfl | (simp only [go_sem]; done) | (simp only [go_sem]; rfl)) (⟨Nat.zero_le _, fun x hx => by simp at hx⟩) ?_
   rintro k ⟨hk, hta⟩
   refine W_sr [0, 1, 4, 8, 9, 27, 28, 29, 33, 34, 35, 36] fun R hR => ?_
   simp only [go_sem, hrl, hlj, llPV]
   refine hR _ _ ?_; clear hR R
   try simp only [go_sem, hrl, hlj, llPV]
   refine W_seq fun Z20 K20 => ?_
   refine W_cond rfl (fun c4 => ?_) (fun c4 => ?_)
   ·
    try simp only [nrm] at c4
    have hk' : k < l.length := by first | assumption | omega
    obtain ⟨v, hv⟩ : ∃ v, l[k]? = some v := ⟨l[k], by simp [hk']⟩
    have hdrop : l.drop k = v :: l.drop (k + 1) := by
     rw [List.drop_eq_getElem_cons hk']; congr 1; exact (List.getElem?_eq_some_iff.1 hv).2
    have hvb := hlm v (List.mem_of_getElem? hv)
    obtain ⟨vn, hvn⟩ : ∃ z : Nat, v = z := ⟨v.toNat, by omega⟩
    subst hvn
    have hgv := goneC_get (out := out) (s := vn) (by omega)
    have hmv := manyC_get (out := out) (ls := ls.take j) (s := vn) (by omega)
    have hml := manyFor_le out (ls.take j) vn
    have hvn8 : (vn : Int) < 8 := by omega
    have hml8 : decide (vn + 1 ≤ (manyC out (ls.take j)).length) = true := decide_eq_true (by rw [manyC_len]; omega)
    rw [List.length_take] at hml
    refine W_skip (K20 _ _ ?_)
    refine W_seq fun Z21 K21 => ?_
    refine W_block ?_
    refine W_sr [0, 1, 4, 8, 9, 13, 27, 28, 29, 33, 34, 35] fun R hR => ?_
    simp only [go_sem, hrl, hlj, llPV, hv, hgv, hmv, hvn8, hml8, Nat.mul_one]
    refine hR _ _ ?_; clear hR R
    try simp only [go_sem, hrl, hlj, llPV, hv, hgv, hmv, hvn8, hml8, Nat.mul_one]
    refine W_sr [0, 1, 4, 8, 9, 13, 27, 28, 29, 33, 34, 35, 42] fun R hR => ?_
    simp only [go_sem, hrl, hlj, llPV, hv, hgv, hmv, hvn8, hml8, Nat.mul_one]
    refine hR _ _ ?_; clear hR R
    try simp only [go_sem, hrl, hlj, llPV, hv, hgv, hmv, hvn8, hml8, Nat.mul_one]
    refine W_cond rfl (fun c5 => ?_) (fun c5 => ?_)
    ·
     try simp only [nrm] at c5
     have hf := firstLeft_at hta hv (by simpa using c5)
     have hset := manyC_some (out := out) (ls := ls.take j) (s := vn) (by omega) hf
     rw [← hsn] at hset
     refine W_sr [0, 1, 4, 8, 9, 27, 28, 29] fun R hR => ?_
     simp only [go_sem, hrl, hlj, llPV, hv, hgv, hmv, hvn8, hml8, Nat.mul_one, hset]
     try simp (disch := omega) only [wrapI, wrapU]
     refine hR _ _ ?_; clear hR R
     try simp only [go_sem, hrl, hlj, llPV, hv, hgv, hmv, hvn8, hml8, Nat.mul_one]
     refine W_exit ?_
     simp only [go_sem, hrl, hlj, llPV, hv, hgv, hmv, hvn8, hml8, Nat.mul_one]
     refine K16 _ _ ?_
     refine W_region [0, 1, 4, 8, 9, 27, 28, 29] fun R hR => ?_
     simp only [go_sem, hrl, hlj, llPV, hv, hgv, hmv, hvn8, hml8, Nat.mul_one]
     try simp (disch := omega) only [wrapI, wrapU]
     refine hR _ _ ?_; clear hR R
     try simp only [go_sem, hrl, hlj, llPV, hv, hgv, hmv, hvn8, hml8, Nat.mul_one]
     refine ⟨j + 1, ?_, by (try simp only []); omega, ?_⟩
     ·first | exact Weak.refl | exact Weak.eq rfl (by rw [hmn]) | exact Weak.eq rfl (congrArg (fun z => σ.ext [some (goneC out), some z] [i]) hset)
     try dsimp only
     exact hj2
    try simp only [nrm] at c5
    have hhv : has out (vn : Int) = true := by simpa using c5
    refine W_skip (K21 _ _ ?_)
    refine W_region [0, 1, 4, 8, 9, 27, 28, 29, 33, 34, 35] fun R hR => ?_
    simp only [go_sem, hrl, hlj, llPV, hv, hgv, hmv, hvn8, hml8, Nat.mul_one]
    try simp (disch := omega) only [wrapI, wrapU]
    refine hR _ _ ?_; clear hR R
    try simp only [go_sem, hrl, hlj, llPV, hv, hgv, hmv, hvn8, hml8, Nat.mul_one]
    refine ⟨k + 1, ?_, by (try simp only []); omega, ?_⟩
    ·first | exact Weak.refl | exact Wqq
    try dsimp only
    refine ⟨by omega, fun x hx => ?_⟩
    rw [List.take_add_one, hv] at hx
    rcases List.mem_append.1 hx with h | h
    ·exact hta x h
    simp at h; subst h; exact hhv
   try simp only [nrm] at c4
   have hke : k = l.length := by omega
   rw [hke, List.take_length] at hta
   have hmn : manyC out (ls.take j) = manyC out (ls.take (j + 1)) := by rw [hsn, manyC_none (firstLeft_none hta)]
   refine W_exit ?_
   simp only [go_sem, hrl, hlj, llPV]
   refine K16 _ _ ?_
   refine W_region [0, 1, 4, 8, 9, 27, 28, 29] fun R hR => ?_
   simp only [go_sem, hrl, hlj, llPV]
   try simp (disch := omega) only [wrapI, wrapU]
   refine hR _ _ ?_; clear hR R
   try simp only [go_sem, hrl, hlj, llPV]
   refine ⟨j + 1, ?_, by (try simp only []); omega, ?_⟩
   ·first | exact Weak.refl | exact Weak.eq rfl (by rw [hmn]) | exact Weak.eq rfl (congrArg (fun z => σ.ext [some (goneC out), some z] [i]) hset)
   try dsimp only
   exact hj2
  try simp only [nrm] at c3
  have hje : j = ls.length := by omega
  subst hje
  rw [List.take_length]
  refine W_exit ?_
  simp only [go_sem, hrl]
  refine K12 _ _ ?_
  refine W_sr [0, 1, 4, 8, 9, 14] fun R hR => ?_
  simp only [go_sem, hrl]
  refine hR _ _ ?_; clear hR R
  try simp only [go_sem, hrl]
  refine W_seq fun Z26 K26 => ?_
  refine W_sr [0, 1, 4, 8, 9, 14, 50, 51] fun R hR => ?_
  simp only [go_sem, hrl]
  refine hR _ _ ?_; clear hR R
  try simp only [go_sem, hrl]
  refine W_block ?_
  refine W_loopS (α := Nat) (fun (s : Nat) => [(14, I (worstF out ls s)), (51, I s)]) (fun (s : Nat) => s ≤ N) (fun (s : Nat) => N - s) (0) rfl (Nat.zero_le _) ?_
  rintro s hs
  refine W_sr [0, 1, 4, 8, 9, 14, 50, 51, 52] fun R hR => ?_
  simp only [go_sem, hrl]
  refine hR _ _ ?_; clear hR R
  try simp only [go_sem, hrl]
  refine W_seq fun Z29 K29 => ?_
  refine W_cond rfl (fun c6 => ?_) (fun c6 => ?_)
  ·
   try simp only [nrm] at c6
   have hsN : s < N := by first | omega | (simp at c6; omega)
   have hgs := goneC_get (out := out) (s := s) (by omega)
   have hms := manyC_get (out := out) (ls := ls) (s := s) (by omega)
   have hwb := worstF_bd out ls s
   have hs8 : (s : Int) < 8 := by omega
   refine W_skip (K29 _ _ ?_)
   refine W_seq fun Z30 K30 => ?_
   refine W_block ?_
   refine W_sr [0, 1, 4, 8, 9, 14, 15, 50, 51] fun R hR => ?_
   simp only [go_sem, hrl, hgs, hms, hs8, Nat.mul_one]
   refine hR _ _ ?_; clear hR R
   try simp only [go_sem, hrl, hgs, hms, hs8, Nat.mul_one]
   refine W_seq fun Z32 K32 => ?_
   refine W_drawJ [0, 1, 4, 8, 9, 14, 15, 50, 51, 70] [(70, .bool (!has out s && (decide (worstF out ls s < 0) || decide (manyFor out ls s ≤ manyFor out ls (worstF out ls s)))))] [0, 1, 2, 3, 4, 5, 6, 7, 8, 9, 10, 11, 12, 13, 14, 15, 16] [] [[], [0], [0, 1], [0, 1, 2], [0, 1, 2, 3], [0, 1, 2, 3, 4], [0, 1, 2, 3, 4, 5], [0, 1, 2, 3, 4, 5, 6], [0, 1, 2, 3, 4, 5, 6, 7], [0, 1, 2, 3, 4, 5, 6, 7, 8], [0, 1, 2, 3, 4, 5, 6, 7, 8, 9], [0, 1, 2, 3, 4, 5, 6, 7], [0, 1, 2, 3, 4, 5, 6, 7, 11], [0, 1, 2, 3, 4, 5, 6, 7, 11, 12], [0, 1, 2, 3, 4, 5, 6, 7, 8, 9, 10, 11, 12, 13], [0, 1, 2, 3, 4, 5, 6, 7, 8, 9, 10, 11, 12, 13, 14], [0, 1, 2, 3, 4, 5, 6, 7, 8, 9, 10, 11, 12, 13, 14, 15]] mixed (by kernel_rfl) ?_ fun R hR => ?_
   ·refine K32 _ _ ?_
    simp only [go_sem, hrl, hgs, hms, hs8, Nat.mul_one]
    refine W_cond rfl (fun c7 => ?_) (fun c7 => ?_)
    ·
     try simp only [nrm] at c7
     have hws1 : worstF out ls (s + 1) = (s : Int) := by simp only [worstF]; rw [if_pos c7]
     refine W_region [0, 1, 4, 8, 9, 14, 50, 51] fun R hR => ?_
     simp only [go_sem, hrl, hgs, hms, hs8, Nat.mul_one]
     refine hR _ _ (K30 _ _ ?_); clear hR R; try clear K30 Z30
     try simp only [go_sem, hrl, hgs, hms, hs8, Nat.mul_one]
     refine W_region [0, 1, 4, 8, 9, 14, 50, 51] fun R hR => ?_
     simp only [go_sem, hrl, hgs, hms, hs8, Nat.mul_one]
     try simp (disch := omega) only [wrapI, wrapU]
     refine hR _ _ ?_; clear hR R
     try simp only [go_sem, hrl, hgs, hms, hs8, Nat.mul_one]
     refine ⟨s + 1, ?_, by (try simp only []); omega, ?_⟩
     ·refine Weak.eq (by simp only [hws1]; first | done | rfl | (simp only [go_sem]; done)) rfl
     try dsimp only
     omega
    try simp only [nrm] at c7
    have hws1 : worstF out ls (s + 1) = worstF out ls s := by simp only [worstF]; rw [if_neg (by rw [c7]; simp)]
    refine W_skip (K30 _ _ ?_)
    refine W_region [0, 1, 4, 8, 9, 14, 50, 51] fun R hR => ?_
    simp only [go_sem, hrl, hgs, hms, hs8, Nat.mul_one]
    try simp (disch := omega) only [wrapI, wrapU]
    refine hR _ _ ?_; clear hR R
    try simp only [go_sem, hrl, hgs, hms, hs8, Nat.mul_one]
    refine ⟨s + 1, ?_, by (try simp only []); omega, ?_⟩
    ·refine Weak.eq (by simp only [hws1]; first | done | rfl | (simp only [go_sem]; done)) rfl
    try dsimp only
    omega
   simp only [go_sem, hrl, hgs, hms, hs8, Nat.mul_one]
   refine GWant_split (fun g1 => ?_) (fun g1 => ?_)
   ·try simp only [Bool.not_eq_true', Bool.not_eq_false'] at g1
    have n1 := g1; try simp only [nrm] at n1
    simp only [go_sem, hrl, hgs, hms, hs8, Nat.mul_one, g1]
    refine GWant_split (fun g2 => ?_) (fun g2 => ?_)
    ·try simp only [Bool.not_eq_true', Bool.not_eq_false'] at g2
     have n2 := g2; try simp only [nrm] at n2
     obtain ⟨wn, hwn⟩ : ∃ z : Nat, worstF out ls s = z := ⟨(worstF out ls s).toNat, by simp at g2; omega⟩
     rw [hwn] at g2
     have hmw := manyC_get (out := out) (ls := ls) (s := wn) (by omega)
     have hwn8 : (wn : Int) < 8 := by omega
     simp only [go_sem, hrl, hgs, hms, hs8, Nat.mul_one, hwn, hmw, hwn8, Nat.mul_one, g1, g2]
     try refine And.intro (by repeat' (first | refine And.intro ?_ ?_ | exact GOr_right (fun _ => by simp only [go_sem, hrl, hgs, hms, hs8, Nat.mul_one, hwn, hmw, hwn8, Nat.mul_one]))) ?_
     refine hR _ ?_
     all_goals try simp only [go_sem, hrl, hgs, hms, hs8, Nat.mul_one, hwn, hmw, hwn8, Nat.mul_one]
     all_goals
      first | rfl | (simp [*]; done) | (simp_all; done) | (simp_all; omega)
    try simp only [Bool.not_eq_true', Bool.not_eq_false'] at g2
    have n2 := g2; try simp only [nrm] at n2
    simp only [go_sem, hrl, hgs, hms, hs8, Nat.mul_one, g1, g2]
    try refine And.intro (by repeat' (first | refine And.intro ?_ ?_ | exact GOr_right (fun _ => by simp only [go_sem, hrl, hgs, hms, hs8, Nat.mul_one]))) ?_
    refine hR _ ?_
    all_goals try simp only [go_sem, hrl, hgs, hms, hs8, Nat.mul_one]
    all_goals
     first | rfl | (simp [*]; done) | (simp_all; done) | (simp_all; omega)
   try simp only [Bool.not_eq_true', Bool.not_eq_false'] at g1
   have n1 := g1; try simp only [nrm] at n1
   simp only [go_sem, hrl, hgs, hms, hs8, Nat.mul_one, g1]
   try refine And.intro (by repeat' (first | refine And.intro ?_ ?_ | exact GOr_right (fun _ => by simp only [go_sem, hrl, hgs, hms, hs8, Nat.mul_one]))) ?_
   refine hR _ ?_
   all_goals try simp only [go_sem, hrl, hgs, hms, hs8, Nat.mul_one]
   all_goals
    first | rfl | (simp [*]; done) | (simp_all; done) | (simp_all; omega)
  try simp only [nrm] at c6
  have hse : N = s := by first | omega | (simp at c6; omega)
  subst hse
  obtain ⟨wl, hwl⟩ : ∃ z : Nat, worstF out ls N = z := ⟨(worstF out ls N).toNat, by omega⟩
  have hgset := goneC_set (out := out) (s := wl) (by omega)
  have hwl8 : (wl : Int) < 8 := by omega
  have hgl8 : decide (wl + 1 ≤ (goneC out).length) = true := decide_eq_true (by rw [goneC_len]; omega)
  refine W_exit ?_
  simp only [go_sem, hrl, hwl, hgset, hwl8, hgl8, Nat.mul_one]
  refine K26 _ _ ?_
  refine W_sr [0, 1, 4, 8, 14] fun R hR => ?_
  simp only [go_sem, hrl, hwl, hgset, hwl8, hgl8, Nat.mul_one]
  refine hR _ _ ?_; clear hR R
  try simp only [go_sem, hrl, hwl, hgset, hwl8, hgl8, Nat.mul_one]
  refine W_region [0, 1, 4, 8] fun R hR => ?_
  simp only [go_sem, hrl, hwl, hgset, hwl8, hgl8, Nat.mul_one]
  try simp (disch := first | omega | (simp only [go_sem] <;> omega)) only [wrapI, wrapU, appX_exact, appX_tok]
  try simp only [go_sem, hrl, hwl, hgset, hwl8, hgl8, Nat.mul_one]
  refine hR _ _ ?_; clear hR R
  try simp only [go_sem, hrl, hwl, hgset, hwl8, hgl8, Nat.mul_one]
  refine ⟨i + 1, ?_, by (try simp only []); omega, ?_⟩
  ·have hru : runU N ls (i + 1) = out ++ [(wl : Int)] := by simp only [runU, hout, hwl]
   refine Weak.trans (Weak.cutX 1 1 (by omega) (by omega) hcl ?_ ?_) ?_
   ·simp only [go_sem, eq_true (goneC_clean _)]
   ·simp only [go_sem]
    all_goals first | omega | exact fail1
   simp only [go_sem]
   refine Weak.eq ?_ ?_
   ·simp only [hru, List.map_append, List.map_cons, List.map_nil]; first | done | rfl
   simp only [hru]; first | done | rfl
  try dsimp only
  omega
 try simp only [nrm] at c2
 have hie : i = N - 1 := by first | omega | (simp at c2; omega)
 subst hie
 have hlo := some_left (n := N) (out := out) (by omega)
 have hsl : ∀ id, slicePV Tryz.prog 130 (.ptr id 0) none (some (I N)) none = some (.msl id 0 N) := fun id => sl130 (by omega) (by omega)
 refine W_exit ?_
 simp only [go_sem, hrl, hsl]
 refine K7 _ _ ?_
 refine W_sr [4, 5, 6] fun R hR => ?_
 simp only [go_sem, hrl, hsl]
 refine GCall_of (gIndex_pc Y (σ.ext [some (goneC out)] [N - 1]) out σ.store.length N (by omega) (Sg.get_ext0 ..)) ?_
 simp only [go_sem, hrl, hsl]
 refine hR _ _ ?_; clear hR R
 try simp only [go_sem, hrl, hsl]
 refine W_ret ?_
 simp only [go_sem, hrl, hsl]
 refine ⟨.inr (by trivial), ?_⟩
 first | (rw [hall]; refine Fin_same hcl rfl (Wk.ro (by simp only [go_sem]) ?_)) | refine Fin_same hcl rfl (Wk.ro (by simp only [go_sem]) ?_) | refine Fin_self hcl rfl (Wk.ro (by simp only [go_sem]) ?_)
 try simp only [go_sem]
 all_goals
  first | done | rfl | (simp only [go_sem]; done) | (rw [idxF_eq (n := N) (out := out) N 0 (by omega) (by obtain ⟨s, h1, h2⟩ := hlo; exact ⟨s, Nat.zero_le _, h1, h2⟩), hout]; first | done | rfl)
end Go.Proofs.YtpkkegbiddcodaaGreat.So
