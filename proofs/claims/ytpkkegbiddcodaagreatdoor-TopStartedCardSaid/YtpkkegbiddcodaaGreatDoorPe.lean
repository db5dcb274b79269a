/-
  Walks: scales, judges, marks, seals (marks).
  The data of the laws, read: towns, cities, bands; rows of things.
  Walks: numbers copied, bands copied.
  Walks: within bounds.
  Walks: numbers within bounds, spans, ends of streets.
  Walks: spans, groups, towns (crowd).
  Walks: towns (crowd).
  Walks: cities, squares, bands that may be (band).
  Walks: a director's check (night).
  Texts, plainly: parts between separators; numerals.
  A parade that is started line by line, plainly: what the desk says.
  Walks: a builder is written to; what it holds becomes a string.
  Parts of texts, and numbers out of texts, as the library makes them.
  Builders among a walk's variables: written to, read.
  Walks: words and numbers, rows of texts (night, bateriakit).
  Walks: numbers, the words with which lines begin (night).
  Walks: whether so many numbers have a form (night): a range over a text.
  Walks: the row of wings that started, the second of the parade (night).
  Walks: the reply ok; the clock (night).
  Walks: a wing starts (night).
  Walks: how long the parade lasts, as the desk says (night).
  Walks: a line of a script (night).
-/
import Derived.Test.YtpkkegbiddcodaaGreatDoorPd
import Derived.CallsIn
import Derived.RangeFuncLeaves
import Derived.RangeFuncRecord
import Derived.OrdersIn
import Derived.Below
import Derived.Laws.World
import Derived.Laws.StructEq
import Derived.Laws.BytesString
import Derived.Laws.Append
import Derived.MapKept
import Derived.ProofKit
import Derived.Carry
import Derived.Handed
import Derived.ChangeCalls
import Derived.Stop.Joined
import Derived.Lib.LaidTab
import Derived.Shelf.Strconv.Itoa3
import Derived.RangeFuncIn
import Derived.RangeFuncNested
import Derived.Test.YtpkkegbiddcodaaGreatDoorProg
import Derived.KernelRfl
import Derived.IntWalk
import Derived.Sort.OwnSortedInts
import Derived.Lib.SlicesCompact
import Derived.Shelf.Strings.Builder1
import Derived.Shelf.Strings.SlTrimAscii
import Derived.Lib.SplitLaws
import Derived.Lib.AtoiAll
import Derived.Lib.ItoaNum
import Derived.Lib.IndexBytes
import Derived.Shelf.Strings.Split
import Derived.Shelf.Strconv.AtoiAll
import Derived.Lib.AtoiErrMem
import Derived.Lib.ItoaLen
import Derived.Tactics
import Derived.Tactics2
import Derived.StillTactics
import Derived.Laws.RangeString
import Derived.Laws.RangeAny
import Derived.LoopTactic
import Derived.Scope
import Derived.FnLit
import Derived.Shelf.Strings.Prefix
import Derived.Shelf.Strings.Count
import Derived.Shelf.Strings.Cut
import Derived.Test.YtpkkegbiddcodaaGreatDoorCards
import Derived.Test.YtpkkegbiddcodaaGreatDoorChecked
import Derived.JoinedOf
import Derived.Test.YtpkkegbiddcodaaGreatDoorTie
import Derived.LaidMore
import Derived.LaidSub
import Derived.Lay
import Derived.SevenTiedAt
import Derived.Lib.LaidU8
import Derived.Shelf.Vars
import Derived.OpenShut
set_option linter.unusedSimpArgs false
set_option linter.unusedVariables false
namespace Go.Proofs.YtpkkegbiddcodaaGreatDoor.Mk
open Go Go.RowKit
set_option maxRecDepth 100000
theorem ncmp_neq {l : List Int} : nilCmp Tryz.prog .neq 22 (mkPV l) = some (.bool (!l.isEmpty)) := by simp only [nilCmp, nilmk, Option.map_some]
theorem ncmp_eql {l : List Int} : nilCmp Tryz.prog .eql 22 (mkPV l) = some (.bool l.isEmpty) := by simp only [nilCmp, nilmk, Option.map_some]
attribute [go_sem] ncmp_neq ncmp_eql
theorem inR_true {n lo hi : Int} : inR n lo hi = true ↔ lo ≤ n ∧ n ≤ hi := by simp [inR]
structure Scale.V (s : Scale) : Prop where
 sc : 1 ≤ s.schools ∧ s.schools ≤ 8
 mt : 1 ≤ s.matters ∧ s.matters ≤ 6
 jd : 1 ≤ s.judges ∧ s.judges ≤ 5
 dr : 0 ≤ s.drop ∧ s.drop ≤ s.judges - 1
 lo : 0 ≤ s.low ∧ s.low ≤ 100
 hi : 0 ≤ s.high ∧ s.high ≤ 100
 lh : s.low ≤ s.high
 ol : (s.order.length : Int) = s.matters
 od : chkOrd s.matters [] s.order = 0
 c : chkSc s = 0
structure Scale.Ok (s : Scale) : Prop where
 ho : s.order.length < 2 ^ 40
theorem Scale.v {s : Scale} (h : chkSc s = 0) : s.V := by
 have h0 := h
 unfold chkSc at h
 by_cases h1 : scRange s = true
 ·rw [h1] at h
  simp only [Bool.not_true, Bool.false_eq_true, if_false] at h
  split at h
  ·omega
  split at h
  ·omega
  rename_i h2 h3
  simp only [scRange, Bool.and_eq_true, inR_true] at h1
  exact ⟨h1.1, h1.2.1, h1.2.2.1, h1.2.2.2.1, h1.2.2.2.2.1, h1.2.2.2.2.2, by omega, by simpa using h3, h, h0⟩
 have : scRange s = false := by simpa using h1
 rw [this] at h
 simp at h
/-- The first place of a number, or -1. -/
def fIdx {α : Type} (q : α → Bool) : Nat → List α → Int
 | _, [] => -1
 | i, x :: l => if q x then (i : Int) else fIdx q (i + 1) l
theorem fIdx_anyi {α : Type} (q : α → Bool) : ∀ (l : List α) (i : Nat), decide (0 ≤ fIdx q i l) = l.any q := by
 intro l
 induction l with
 | nil => intro i; simp [fIdx]
 | cons x l ih =>
  intro i
  by_cases h : q x = true
  ·have e : fIdx q i (x :: l) = (i : Int) := by simp only [fIdx]; rw [if_pos h]
   rw [e]; simp [h]
  have e : fIdx q i (x :: l) = fIdx q (i + 1) l := by simp only [fIdx]; rw [if_neg h]
  rw [e, ih (i + 1), List.any_cons]
  have h' : q x = false := by simpa using h
  rw [h', Bool.false_or]
theorem has_comm (l : List Int) (v : Int) : (l.any fun x => decide (v = x)) = has l v := by
 unfold has
 congr 1
 funext x
 rw [Bool.eq_iff_iff]
 simp [eq_comm]
theorem fIdx_any {α : Type} (q : α → Bool) (l : List α) : decide (0 ≤ fIdx q 0 l) = l.any q := fIdx_anyi q l 0
set_option maxHeartbeats 2000000 in
theorem in_pc (Y : YEnv) (σ : Sg) (n lo hi : Int) :
 PC Tryz.prog Y 80 [I n, I lo, I hi] σ (.bool (inR n lo hi)) (σ) := by
 refine PC_of_W Tryz.func80 rfl (by kernel_rfl) Tryz.ntmps80 (by simp) fun hcl hca => ?_
 refine W_sr [0, 1, 2] fun R hR => ?_
 simp only [go_sem]
 refine hR _ _ ?_; clear hR R
 try simp only [go_sem]
 refine W_sr [6] fun R hR => ?_
 simp only [go_sem]
 refine GWant_split (fun g1 => ?_) (fun g1 => ?_)
 ·try simp only [Bool.not_eq_true', Bool.not_eq_false'] at g1
  have n1 := g1; try simp only [nrm] at n1
  simp only [go_sem, g1]
  refine hR _ _ ?_; clear hR R
  try simp only [go_sem]
  refine W_ret ?_
  simp only [go_sem]
  refine ⟨.inr (by trivial), ?_⟩
  first | refine Fsa hcl rfl ?_ | refine Fse hcl rfl ?_
  try simp only [go_sem]
  all_goals
   simp [inR, *]
 try simp only [Bool.not_eq_true', Bool.not_eq_false'] at g1
 have n1 := g1; try simp only [nrm] at n1
 simp only [go_sem, g1]
 refine hR _ _ ?_; clear hR R
 try simp only [go_sem]
 refine W_ret ?_
 simp only [go_sem]
 refine ⟨.inr (by trivial), ?_⟩
 first | refine Fsa hcl rfl ?_ | refine Fse hcl rfl ?_
 try simp only [go_sem]
 all_goals
  simp [inR, *]
set_option maxHeartbeats 2000000 in
theorem index_pc (Y : YEnv) (σ : Sg) (l : List Int) (o : Own) (v : Int) (hl : l.length < 2 ^ 62) :
 PC Tryz.prog Y 254 [intsO o l, I v] σ (I (fIdx (fun x => decide (v = x)) 0 l)) (σ) := by
 refine PC_of_W Tryz.func254 rfl (by kernel_rfl) Tryz.ntmps254 (by simp) fun hcl hca => ?_
 refine W_sr [0, 1] fun R hR => ?_
 simp only [go_sem]
 refine hR _ _ ?_; clear hR R
 try simp only [go_sem]
 refine W_seq fun Z2 K2 => ?_
 refine W_sr [0, 1, 7, 8] fun R hR => ?_
 simp only [go_sem]
 refine hR _ _ ?_; clear hR R
 try simp only [go_sem]
 refine W_block ?_
 refine W_loopS (α := Nat) (fun (i : Nat) => [(8, I i)]) (fun (i : Nat) => i ≤ l.length ∧ fIdx (fun x => decide (v = x)) i (l.drop i) = fIdx (fun x => decide (v = x)) 0 l) (fun (i : Nat) => l.length - i) (0) rfl (⟨Nat.zero_le _, rfl⟩) ?_
 rintro i ⟨hi, hinv⟩
 refine W_sr [0, 1, 7, 8, 9] fun R hR => ?_
 simp only [go_sem]
 refine hR _ _ ?_; clear hR R
 try simp only [go_sem]
 refine W_seq fun Z5 K5 => ?_
 refine W_cond rfl (fun c1 => ?_) (fun c1 => ?_)
 ·
  try simp only [nrm] at c1
  have hi' : i < l.length := by first | assumption | omega
  obtain ⟨x, hx⟩ : ∃ x, l[i]? = some x := ⟨l[i], by simp [hi']⟩
  have hdrop : l.drop i = x :: l.drop (i + 1) := by
   rw [List.drop_eq_getElem_cons hi']; congr 1; exact (List.getElem?_eq_some_iff.1 hx).2
  rw [hdrop] at hinv
  simp only [fIdx] at hinv
  refine W_skip (K5 _ _ ?_)
  refine W_seq fun Z6 K6 => ?_
  refine W_block ?_
  refine W_sr [0, 1, 5, 7, 8] fun R hR => ?_
  simp only [go_sem, hx]
  refine hR _ _ ?_; clear hR R
  try simp only [go_sem, hx]
  refine W_sr [0, 1, 5, 7, 8, 16] fun R hR => ?_
  simp only [go_sem, hx]
  refine hR _ _ ?_; clear hR R
  try simp only [go_sem, hx]
  refine W_cond rfl (fun c2 => ?_) (fun c2 => ?_)
  ·
   try simp only [nrm] at c2
   refine W_sr [4] fun R hR => ?_
   simp only [go_sem, hx]
   refine hR _ _ ?_; clear hR R
   try simp only [go_sem, hx]
   refine W_ret ?_
   simp only [go_sem, hx]
   refine ⟨.inr (by trivial), ?_⟩
   first | refine Fsa hcl rfl ?_ | refine Fse hcl rfl ?_
   try simp only [go_sem]
   all_goals
    first | rfl | (simp_all; done) | (simp_all; omega)
  try simp only [nrm] at c2
  refine W_skip (K6 _ _ ?_)
  refine W_region [0, 1, 7, 8] fun R hR => ?_
  simp only [go_sem, hx]
  try simp (disch := omega) only [wrapI, wrapU]
  refine hR _ _ ?_; clear hR R
  try simp only [go_sem, hx]
  refine ⟨i + 1, ?_, by (try simp only []); omega, ?_⟩
  ·first | exact Weak.refl | exact Wqq
  try dsimp only
  exact ⟨hi', by simp_all⟩
 try simp only [nrm] at c1
 have hdrop : l.drop i = [] := List.drop_eq_nil_of_le (by omega)
 rw [hdrop] at hinv
 simp only [fIdx] at hinv
 refine W_exit ?_
 simp only [go_sem]
 refine K2 _ _ ?_
 refine W_sr [4] fun R hR => ?_
 simp only [go_sem]
 refine hR _ _ ?_; clear hR R
 try simp only [go_sem]
 refine W_ret ?_
 simp only [go_sem]
 refine ⟨.inr (by trivial), ?_⟩
 first | refine Fsa hcl rfl ?_ | refine Fse hcl rfl ?_
 try simp only [go_sem]
 all_goals
  first | rfl | (simp_all; done) | (simp_all; omega)
set_option maxHeartbeats 2000000 in
theorem contains_pc (Y : YEnv) (σ : Sg) (l : List Int) (o : Own) (v : Int) (hl : l.length < 2 ^ 62) :
 PC Tryz.prog Y 195 [intsO o l, I v] σ (.bool (has l v)) (σ) := by
 refine PC_of_W Tryz.func195 rfl (by kernel_rfl) Tryz.ntmps195 (by simp) fun hcl hca => ?_
 refine W_sr [0, 1] fun R hR => ?_
 simp only [go_sem]
 refine hR _ _ ?_; clear hR R
 try simp only [go_sem]
 refine W_sr [4] fun R hR => ?_
 simp only [go_sem]
 refine GCall_of (index_pc Y _ l o v hl) ?_
 simp only [go_sem]
 refine hR _ _ ?_; clear hR R
 try simp only [go_sem]
 refine W_ret ?_
 simp only [go_sem]
 refine ⟨.inr (by trivial), ?_⟩
 first | refine Fsa hcl rfl ?_ | refine Fse hcl rfl ?_
 try simp only [go_sem]
 all_goals
  simp only [fIdx_any, has_comm, go_sem]
set_option maxHeartbeats 4000000 in
theorem Check_pc (Y : YEnv) (σ : Sg) (s : Scale) (hs : s.Ok) :
 PC Tryz.prog Y 131 [scPV s] σ (I (chkSc s)) (σ) := by
 refine PC_of_W Tryz.func131 rfl (by kernel_rfl) Tryz.ntmps131 (by simp) fun hcl hca => ?_
 have ho := hs.ho
 obtain ⟨res, hres⟩ : ∃ r, chkSc s = r := ⟨_, rfl⟩
 rw [hres]
 refine W_sr [1] fun R hR => ?_
 simp only [go_sem]
 refine hR _ _ ?_; clear hR R
 try simp only [go_sem]
 refine W_seq fun Z2 K2 => ?_
 refine W_block ?_
 refine W_seq fun Z3 K3 => ?_
 refine W_sr [1, 5] fun R hR => ?_
 simp only [go_sem]
 refine GCall_of (in_pc Y _ s.schools 1 8) ?_
 simp only [go_sem]
 refine hR _ _ ?_; clear hR R
 try simp only [go_sem]
 refine W_cond rfl (fun c1 => ?_) (fun c1 => ?_)
 ·
  try simp only [nrm] at c1
  refine W_skip (K3 _ _ ?_)
  refine W_cond_true (by first | rfl | (simp only [go_sem]; simp [c1])) ?_
  refine W_sr [2] fun R hR => ?_
  simp only [go_sem]
  refine hR _ _ ?_; clear hR R
  try simp only [go_sem]
  refine W_ret ?_
  simp only [go_sem]
  refine ⟨.inr (by trivial), ?_⟩
  first | refine Fsa hcl rfl ?_ | refine Fse hcl rfl ?_
  try simp only [go_sem]
  all_goals
   first | rfl | (simp_all; done) | (rw [← hres]; simp [chkSc, scRange, *]; done) | (rw [← hres]; simp [chkSc, scRange, *]; omega) | (simp_all; omega)
 try simp only [nrm] at c1
 refine W_sr [1, 5] fun R hR => ?_
 simp only [go_sem]
 refine GCall_of (in_pc Y _ s.matters 1 6) ?_
 simp only [go_sem]
 refine hR _ _ ?_; clear hR R
 try simp only [go_sem]
 refine W_cond rfl (fun c2 => ?_) (fun c2 => ?_)
 ·
  try simp only [nrm] at c2
  refine W_skip (K3 _ _ ?_)
  refine W_cond_true (by first | rfl | (simp only [go_sem]; simp [c2])) ?_
  refine W_sr [2] fun R hR => ?_
  simp only [go_sem]
  refine hR _ _ ?_; clear hR R
  try simp only [go_sem]
  refine W_ret ?_
  simp only [go_sem]
  refine ⟨.inr (by trivial), ?_⟩
  first | refine Fsa hcl rfl ?_ | refine Fse hcl rfl ?_
  try simp only [go_sem]
  all_goals
   first | rfl | (simp_all; done) | (rw [← hres]; simp [chkSc, scRange, *]; done) | (rw [← hres]; simp [chkSc, scRange, *]; omega) | (simp_all; omega)
 try simp only [nrm] at c2
 refine W_sr [1, 5] fun R hR => ?_
 simp only [go_sem]
 refine GCall_of (in_pc Y _ s.judges 1 5) ?_
 simp only [go_sem]
 refine hR _ _ ?_; clear hR R
 try simp only [go_sem]
 refine W_cond rfl (fun c3 => ?_) (fun c3 => ?_)
 ·
  try simp only [nrm] at c3
  refine W_skip (K3 _ _ ?_)
  refine W_cond_true (by first | rfl | (simp only [go_sem]; simp [c3])) ?_
  refine W_sr [2] fun R hR => ?_
  simp only [go_sem]
  refine hR _ _ ?_; clear hR R
  try simp only [go_sem]
  refine W_ret ?_
  simp only [go_sem]
  refine ⟨.inr (by trivial), ?_⟩
  first | refine Fsa hcl rfl ?_ | refine Fse hcl rfl ?_
  try simp only [go_sem]
  all_goals
   first | rfl | (simp_all; done) | (rw [← hres]; simp [chkSc, scRange, *]; done) | (rw [← hres]; simp [chkSc, scRange, *]; omega) | (simp_all; omega)
 try simp only [nrm] at c3
 have d3 : inR s.judges 1 5 = true := by simp_all
 simp only [inR_true] at d3
 refine W_sr [1, 5] fun R hR => ?_
 simp only [go_sem]
 skip
 try simp (disch := omega) only [wrapI, wrapU]
 refine GCall_of (in_pc Y _ s.drop 0 _) ?_
 simp only [go_sem]
 try simp (disch := omega) only [wrapI, wrapU]
 refine hR _ _ ?_; clear hR R
 try simp only [go_sem]
 refine W_cond rfl (fun c4 => ?_) (fun c4 => ?_)
 ·
  try simp only [nrm] at c4
  refine W_skip (K3 _ _ ?_)
  refine W_cond_true (by first | rfl | (simp only [go_sem]; simp [c4])) ?_
  refine W_sr [2] fun R hR => ?_
  simp only [go_sem]
  refine hR _ _ ?_; clear hR R
  try simp only [go_sem]
  refine W_ret ?_
  simp only [go_sem]
  refine ⟨.inr (by trivial), ?_⟩
  first | refine Fsa hcl rfl ?_ | refine Fse hcl rfl ?_
  try simp only [go_sem]
  all_goals
   first | rfl | (simp_all; done) | (rw [← hres]; simp [chkSc, scRange, *]; done) | (rw [← hres]; simp [chkSc, scRange, *]; omega) | (simp_all; omega)
 try simp only [nrm] at c4
 refine W_sr [1, 5] fun R hR => ?_
 simp only [go_sem]
 refine GCall_of (in_pc Y _ s.low 0 100) ?_
 simp only [go_sem]
 refine hR _ _ ?_; clear hR R
 try simp only [go_sem]
 refine W_cond rfl (fun c5 => ?_) (fun c5 => ?_)
 ·
  try simp only [nrm] at c5
  refine W_skip (K3 _ _ ?_)
  refine W_cond_true (by first | rfl | (simp only [go_sem]; simp [c5])) ?_
  refine W_sr [2] fun R hR => ?_
  simp only [go_sem]
  refine hR _ _ ?_; clear hR R
  try simp only [go_sem]
  refine W_ret ?_
  simp only [go_sem]
  refine ⟨.inr (by trivial), ?_⟩
  first | refine Fsa hcl rfl ?_ | refine Fse hcl rfl ?_
  try simp only [go_sem]
  all_goals
   first | rfl | (simp_all; done) | (rw [← hres]; simp [chkSc, scRange, *]; done) | (rw [← hres]; simp [chkSc, scRange, *]; omega) | (simp_all; omega)
 try simp only [nrm] at c5
 refine W_region [1, 5] fun R hR => ?_
 simp only [go_sem]
 refine GCall_of (in_pc Y _ s.high 0 100) ?_
 simp only [go_sem]
 refine hR _ _ (K3 _ _ ?_); clear hR R; try clear K3 Z3
 try simp only [go_sem]
 refine W_cond rfl (fun c6 => ?_) (fun c6 => ?_)
 ·
  try simp only [nrm] at c6
  refine W_sr [2] fun R hR => ?_
  simp only [go_sem]
  refine hR _ _ ?_; clear hR R
  try simp only [go_sem]
  refine W_ret ?_
  simp only [go_sem]
  refine ⟨.inr (by trivial), ?_⟩
  first | refine Fsa hcl rfl ?_ | refine Fse hcl rfl ?_
  try simp only [go_sem]
  all_goals
   first | rfl | (simp_all; done) | (rw [← hres]; simp [chkSc, scRange, *]; done) | (rw [← hres]; simp [chkSc, scRange, *]; omega) | (simp_all; omega)
 try simp only [nrm] at c6
 refine W_sr [1, 33] fun R hR => ?_
 simp only [go_sem]
 refine hR _ _ ?_; clear hR R
 try simp only [go_sem]
 refine W_cond rfl (fun c7 => ?_) (fun c7 => ?_)
 ·
  try simp only [nrm] at c7
  refine W_sr [2] fun R hR => ?_
  simp only [go_sem]
  refine hR _ _ ?_; clear hR R
  try simp only [go_sem]
  refine W_ret ?_
  simp only [go_sem]
  refine ⟨.inr (by trivial), ?_⟩
  first | refine Fsa hcl rfl ?_ | refine Fse hcl rfl ?_
  try simp only [go_sem]
  all_goals
   first | rfl | (simp_all; done) | (rw [← hres]; simp [chkSc, scRange, *]; done) | (rw [← hres]; simp [chkSc, scRange, *]; omega) | (simp_all; omega)
 try simp only [nrm] at c7
 refine W_sr [1, 39] fun R hR => ?_
 simp only [go_sem]
 refine hR _ _ ?_; clear hR R
 try simp only [go_sem]
 refine W_cond rfl (fun c8 => ?_) (fun c8 => ?_)
 ·
  try simp only [nrm] at c8
  refine W_sr [2] fun R hR => ?_
  simp only [go_sem]
  refine hR _ _ ?_; clear hR R
  try simp only [go_sem]
  refine W_ret ?_
  simp only [go_sem]
  refine ⟨.inr (by trivial), ?_⟩
  first | refine Fsa hcl rfl ?_ | refine Fse hcl rfl ?_
  try simp only [go_sem]
  all_goals
   first | rfl | (simp_all; done) | (rw [← hres]; simp [chkSc, scRange, *]; done) | (rw [← hres]; simp [chkSc, scRange, *]; omega) | (simp_all; omega)
 try simp only [nrm] at c8
 refine W_skip (K2 _ _ ?_)
 refine W_seq fun Z19 K19 => ?_
 refine W_sr [1, 47, 48, 49] fun R hR => ?_
 simp only [go_sem]
 refine hR _ _ ?_; clear hR R
 try simp only [go_sem]
 refine W_block ?_
 refine W_loopS (α := Nat) (fun (i : Nat) => [(49, I i)]) (fun (i : Nat) => i ≤ s.order.length ∧ res = chkOrd s.matters (s.order.take i) (s.order.drop i)) (fun (i : Nat) => s.order.length - i) (0) rfl (⟨Nat.zero_le _, by rw [← hres]; simp [chkSc, scRange, *] <;> omega⟩) ?_
 rintro i ⟨hi, hinv⟩
 refine W_sr [1, 47, 48, 49, 50] fun R hR => ?_
 simp only [go_sem]
 refine hR _ _ ?_; clear hR R
 try simp only [go_sem]
 refine W_seq fun Z22 K22 => ?_
 refine W_cond rfl (fun c9 => ?_) (fun c9 => ?_)
 ·
  try simp only [nrm] at c9
  have hi' : i < s.order.length := by first | assumption | omega
  obtain ⟨x, hx⟩ : ∃ x, s.order[i]? = some x := ⟨s.order[i], by simp [hi']⟩
  have hdrop : s.order.drop i = x :: s.order.drop (i + 1) := by
   rw [List.drop_eq_getElem_cons hi']; congr 1; exact (List.getElem?_eq_some_iff.1 hx).2
  rw [hdrop] at hinv
  simp only [chkOrd] at hinv
  have htk : s.order.take i ++ [x] = s.order.take (i + 1) := by rw [List.take_add_one, hx]; rfl
  rw [htk] at hinv
  refine W_skip (K22 _ _ ?_)
  refine W_seq fun Z23 K23 => ?_
  refine W_block ?_
  refine W_sr [1, 3, 4, 47, 48, 49] fun R hR => ?_
  simp only [go_sem, hx]
  refine hR _ _ ?_; clear hR R
  try simp only [go_sem, hx]
  refine W_block ?_
  refine W_sr [1, 3, 4, 47, 48, 49, 54] fun R hR => ?_
  simp only [go_sem, hx]
  try simp (disch := omega) only [wrapI, wrapU]
  refine GCall_of (in_pc Y _ x 0 _) ?_
  simp only [go_sem, hx]
  try simp (disch := omega) only [wrapI, wrapU]
  refine hR _ _ ?_; clear hR R
  try simp only [go_sem, hx]
  refine W_cond rfl (fun c10 => ?_) (fun c10 => ?_)
  ·
   try simp only [nrm] at c10
   refine W_sr [2] fun R hR => ?_
   simp only [go_sem, hx]
   refine hR _ _ ?_; clear hR R
   try simp only [go_sem, hx]
   refine W_ret ?_
   simp only [go_sem, hx]
   refine ⟨.inr (by trivial), ?_⟩
   first | refine Fsa hcl rfl ?_ | refine Fse hcl rfl ?_
   try simp only [go_sem]
   all_goals
    first | rfl | (simp_all; done) | (rw [← hres]; simp [chkSc, scRange, *]; done) | (rw [← hres]; simp [chkSc, scRange, *]; omega) | (simp_all; omega)
  try simp only [nrm] at c10
  refine W_sr [1, 47, 48, 49, 61] fun R hR => ?_
  simp only [go_sem, hx, hi, ← List.map_take]
  refine GCall_of (contains_pc Y _ (s.order.take i) _ x (by rw [List.length_take]; omega)) ?_
  simp only [go_sem, hx, hi, ← List.map_take]
  refine hR _ _ ?_; clear hR R
  try simp only [go_sem, hx]
  refine W_cond rfl (fun c11 => ?_) (fun c11 => ?_)
  ·
   try simp only [nrm] at c11
   refine W_sr [2] fun R hR => ?_
   simp only [go_sem, hx]
   refine hR _ _ ?_; clear hR R
   try simp only [go_sem, hx]
   refine W_ret ?_
   simp only [go_sem, hx]
   refine ⟨.inr (by trivial), ?_⟩
   first | refine Fsa hcl rfl ?_ | refine Fse hcl rfl ?_
   try simp only [go_sem]
   all_goals
    first | rfl | (simp_all; done) | (rw [← hres]; simp [chkSc, scRange, *]; done) | (rw [← hres]; simp [chkSc, scRange, *]; omega) | (simp_all; omega)
  try simp only [nrm] at c11
  refine W_skip (K23 _ _ ?_)
  refine W_region [1, 47, 48, 49] fun R hR => ?_
  simp only [go_sem, hx]
  try simp (disch := omega) only [wrapI, wrapU]
  refine hR _ _ ?_; clear hR R
  try simp only [go_sem, hx]
  refine ⟨i + 1, ?_, by (try simp only []); omega, ?_⟩
  ·first | exact Weak.refl | exact Wqq
  try dsimp only
  exact ⟨hi', by simp_all⟩
 try simp only [nrm] at c9
 have hdrop : s.order.drop i = [] := List.drop_eq_nil_of_le (by omega)
 rw [hdrop] at hinv
 simp only [chkOrd] at hinv
 refine W_exit ?_
 simp only [go_sem]
 refine K19 _ _ ?_
 refine W_sr [2] fun R hR => ?_
 simp only [go_sem]
 refine hR _ _ ?_; clear hR R
 try simp only [go_sem]
 refine W_ret ?_
 simp only [go_sem]
 refine ⟨.inr (by trivial), ?_⟩
 first | refine Fsa hcl rfl ?_ | refine Fse hcl rfl ?_
 try simp only [go_sem]
 all_goals
  first | rfl | (simp_all; done) | (rw [← hres]; simp [chkSc, scRange, *]; done) | (rw [← hres]; simp [chkSc, scRange, *]; omega) | (simp_all; omega)
theorem appOne {c b : Nat} {σ : Sg} {l : List PV} {r n : Nat} {m : List PV} (hm : (m.all fun q => (q.cells.length == c) && q.cells.all PV.scalar) = true) (hs : (l.length + m.length) * b ≤ 2 ^ 47) (hr : σ.rooms[r]? = some n) :
 appX c b σ l (.tok r n c) m = some (.isl (l ++ m) (.tok r (n + m.length) c), σ.setRoom r (n + m.length)) := by
 unfold appX
 rw [hm]
 simp [hs, hr]
end Go.Proofs.YtpkkegbiddcodaaGreatDoor.Mk
namespace Go.Proofs.YtpkkegbiddcodaaGreatDoor.Bd
open Go Go.RowKit
structure Group where
 slo : Int
 shi : Int
 alo : Int
 ahi : Int
 stay : Int
 first : Int
 path : List Int
 deriving DecidableEq
structure Town where
 rooms : List Int
 streets : List (Int × Int)
 groups : List Group
 steps : Int
 deriving DecidableEq
structure City where
 town : Town
 brk : Int
 sleep : List Int
 deriving DecidableEq
structure Band where
 first : Int
 path : List Int
 lo : Int
 hi : Int
 stay : Int
 people : Int
 deriving DecidableEq
abbrev intsO (o : Own) (xs : List Int) : PV := .isl (xs.map I) o
def stPV (s : Int × Int) : PV := .agg [I s.1, I s.2]
def grPV (g : Group) : PV := .agg [I g.slo, I g.shi, I g.alo, I g.ahi, I g.stay, I g.first, ints g.path]
def twCells (t : Town) : List PV := [ints t.rooms, .isl (t.streets.map stPV) .ro, .isl (t.groups.map grPV) .ro, I t.steps]
def twPV (t : Town) : PV := .agg (twCells t)
def ctCells (c : City) : List PV := [ints c.town.rooms, .isl (c.town.streets.map stPV) .ro, .isl (c.town.groups.map grPV) .ro, I c.town.steps, I c.brk, ints c.sleep]
def ctPV (c : City) : PV := .agg (ctCells c)
def bdCells (b : Band) : List PV := [I b.first, ints b.path, I b.lo, I b.hi, I b.stay, I b.people]
def bdPV (b : Band) : PV := .agg (bdCells b)
section
variable {α : Type} {f : α → PV} {xs : List α} {i : Nat} {x : α} {c k off : Nat}
theorem iaX_map (h : xs[i]? = some x) (hc : (f x).cells.length = c) : iaX c (xs.map f) (i : Int) = some (.eptr c (xs.map f) i 0) := by
 have hlt : i < xs.length := (List.getElem?_eq_some_iff.1 h).1
 have hx : xs[i] = x := (List.getElem?_eq_some_iff.1 h).2
 unfold iaX
 rw [if_pos ⟨Int.natCast_nonneg _, by simpa using hlt⟩]
 simp [hlt, hx, hc]
theorem elS_map (h : xs[i]? = some x) : elS (xs.map f) i off = (f x).cells[off]? := by simp [elS, h]
theorem elA_map (h : xs[i]? = some x) : elA k (xs.map f) i off = if off + k ≤ (f x).cells.length then some (.agg (((f x).cells.drop off).take k)) else none := by simp [elA, h]
end
theorem Clean.map {α : Type} {a b c : Nat} {f : α → PV} {xs : List α} {o : Own} (ho : ∀ r n es, o = .tok r n es → r < b) (h : ∀ x, Clean a b c (f x)) : Clean a b c (.isl (xs.map f) o) :=
 .isl _ _ (fun e he => by obtain ⟨x, _, rfl⟩ := List.mem_map.1 he; exact h x) ho
theorem noTok {b : Nat} : ∀ r n es, Own.ro = .tok r n es → r < b := fun r n es e => by cases e
theorem clean_ints {a b c : Nat} (xs : List Int) : Clean a b c (ints xs) := Clean.ints xs .ro noTok
theorem clean_st {a b c : Nat} (s : Int × Int) : Clean a b c (stPV s) := .agg _ (Clean.all_cons (.int _ _) (Clean.all_cons (.int _ _) Clean.all_nil))
theorem clean_gr {a b c : Nat} (g : Group) : Clean a b c (grPV g) :=
 .agg _ (Clean.all_cons (.int _ _) (Clean.all_cons (.int _ _) (Clean.all_cons (.int _ _) (Clean.all_cons (.int _ _) (Clean.all_cons (.int _ _) (Clean.all_cons (.int _ _) (Clean.all_cons (clean_ints _) Clean.all_nil)))))))
theorem cleans_bd {a b c : Nat} (x : Band) : ∀ p, p ∈ bdCells x → Clean a b c p :=
 Clean.all_cons (.int _ _) (Clean.all_cons (clean_ints _) (Clean.all_cons (.int _ _) (Clean.all_cons (.int _ _) (Clean.all_cons (.int _ _) (Clean.all_cons (.int _ _) Clean.all_nil)))))
theorem clean_bd {a b c : Nat} (x : Band) : Clean a b c (bdPV x) := .agg _ (cleans_bd x)
theorem cleans_tw {a b c : Nat} (t : Town) : ∀ p, p ∈ twCells t → Clean a b c p :=
 Clean.all_cons (clean_ints _) (Clean.all_cons (Clean.map noTok clean_st) (Clean.all_cons (Clean.map noTok clean_gr) (Clean.all_cons (.int _ _) Clean.all_nil)))
theorem Wk_int {a b c : Nat} {k : IntKind} {n m : Int} (h : n = m) : Wk a b c (.int k n) (.int k m) := by rw [h]; exact Wk.of_clean (.int _ _)
theorem Wk_bool {a b c : Nat} {n m : Bool} (h : n = m) : Wk a b c (.bool n) (.bool m) := by rw [h]; exact Wk.of_clean (.bool _)
def inR (n lo hi : Int) : Bool := decide (lo ≤ n) && decide (n ≤ hi)
def allIn (lo hi : Int) (l : List Int) : Bool := l.all fun n => inR n lo hi
def other (s : Int × Int) (at' : Int) : Int := if at' = s.1 then s.2 else if at' = s.2 then s.1 else -1
def chkSpan (lo hi limit : Int) : Int := if !(inR lo 0 limit && inR hi 0 limit) then 2 else if lo > hi then 9 else 0
theorem okC_st {xs : List (Int × Int)} : okC 2 (xs.map stPV) = True := okC_map fun x => by simp [okC, stPV, PV.cells, PV.scalar]
theorem okC_gr {xs : List Group} : okC 7 (xs.map grPV) = True := okC_map fun x => by simp [okC, grPV, PV.cells, PV.scalar]
theorem okC_bd {xs : List Band} : okC 6 (xs.map bdPV) = True := okC_map fun x => by simp [okC, bdPV, bdCells, PV.cells, PV.scalar]
theorem roL_st {xs : List (Int × Int)} : PV.roL (xs.map stPV) = xs.map stPV := roL_enc fun x => by simp only [stPV, ro_agg, roL_cons, roL_nil, ro_int]
theorem roL_gr {xs : List Group} : PV.roL (xs.map grPV) = xs.map grPV := roL_enc fun x => by simp only [grPV, ro_agg, roL_cons, roL_nil, ro_int, ro_isl, roL_ints]
theorem roL_bd {xs : List Band} : PV.roL (xs.map bdPV) = xs.map bdPV := roL_enc fun x => by simp only [bdPV, bdCells, ro_agg, roL_cons, roL_nil, ro_int, ro_isl, roL_ints]
theorem cA_st {a b c : Nat} {xs : List (Int × Int)} : CleanAll a b c (xs.map stPV) = True := CleanAll_map clean_st
theorem cA_gr {a b c : Nat} {xs : List Group} : CleanAll a b c (xs.map grPV) = True := CleanAll_map clean_gr
theorem cA_bd {a b c : Nat} {xs : List Band} : CleanAll a b c (xs.map bdPV) = True := CleanAll_map clean_bd
attribute [go_sem] okC_st okC_gr okC_bd roL_st roL_gr roL_bd cA_st cA_gr cA_bd stPV grPV twPV twCells ctPV ctCells bdPV bdCells
theorem mixed : Tryz.prog.follows .mixedOrders = true := by kernel_rfl
set_option maxRecDepth 100000
theorem in_pc (Y : YEnv) (σ : Sg) (n lo hi : Int) : PC Tryz.prog Y 84 [.int .i64 n, .int .i64 lo, .int .i64 hi] σ (.bool (inR n lo hi)) σ := by
 refine PC_of_W Tryz.func84 rfl (by kernel_rfl) Tryz.ntmps84 (by simp) fun hcl hca => ?_
 refine W_seq fun K1 h1 => ?_
 refine W_region [0, 1, 2, 6] fun K2 h2 => ?_
 simp only [go_sem]
 refine h2 _ _ (h1 _ _ ?_); clear h1 h2 K1 K2
 refine W_seq fun K1 h1 => ?_
 refine W_region [6] fun K2 h2 => ?_
 simp only [go_sem]
 refine GWant_split (fun c1 => ?_) (fun c1 => ?_)
 ·simp only [go_sem, c1]
  refine h2 _ _ (h1 _ _ ?_); clear h1 h2 K1 K2
  simp only [go_sem]
  refine W_ret ⟨.inr rfl, ?_⟩
  refine Fin_self hcl rfl (Wk_bool (by simp [inR, c1]))
 simp only [go_sem, c1]
 refine h2 _ _ (h1 _ _ ?_); clear h1 h2 K1 K2
 simp only [go_sem]
 refine W_ret ⟨.inr rfl, ?_⟩
 refine Fin_self hcl rfl (Wk_bool (by simp [inR, c1]))
theorem cin_pc (Y : YEnv) (σ : Sg) (lo hi : Int) (l : List Int) (o : Own) (hl : l.length < 2 ^ 62) : PC Tryz.prog Y 187 [I lo, I hi, intsO o l] σ (.bool (allIn lo hi l)) σ := by
 refine PC_of_W Tryz.func187 rfl (by kernel_rfl) Tryz.ntmps187 (by simp) fun hcl hca => ?_
 refine W_seq fun K1 h1 => ?_
 refine W_region [0, 1, 2] fun R hR => ?_
 simp only [go_sem]
 refine hR _ _ (h1 _ _ ?_); clear hR h1 R K1
 simp only [go_sem]
 refine W_seq fun K2 h2 => ?_
 refine W_seq fun K3 h3 => ?_
 refine W_region [0, 1, 9, 10, 11] fun R hR => ?_
 simp only [go_sem]
 refine hR _ _ (h3 _ _ ?_); clear hR h3 R K3
 simp only [go_sem]
 refine W_block ?_
 refine W_loopK (fun k E σ' => ∃ i : Nat, k + i = l.length ∧ allIn lo hi (l.take i) = true ∧ E = [(0, I lo), (1, I hi), (9, intsO o l), (10, I l.length), (11, I i)] ∧ σ = σ') l.length ⟨0, rfl, rfl, rfl, rfl⟩ ?_
 rintro k E σ' ⟨i, hk, hall, rfl, rfl⟩
 refine W_seq fun K4 h4 => ?_
 refine W_region [0, 1, 9, 10, 11, 12] fun R hR => ?_
 simp only [go_sem]
 refine hR _ _ (h4 _ _ ?_); clear hR h4 R K4
 simp only [go_sem]
 refine W_seq fun K5 h5 => ?_
 refine W_cond rfl (fun c => ?_) (fun c => ?_)
 · -- true
  have hi' : i < l.length := by simpa using c
  obtain ⟨x, hx⟩ : ∃ x, l[i]? = some x := ⟨l[i], by simp [hi']⟩
  have htake : l.take (i + 1) = l.take i ++ [x] := by rw [List.take_add_one, hx]; rfl
  refine W_skip (h5 _ _ ?_); clear h5 K5
  refine W_seq fun K6 h6 => ?_
  refine W_block ?_
  refine W_seq fun K7 h7 => ?_
  refine W_region [0, 1, 8, 9, 10, 11] fun R hR => ?_
  simp only [go_sem, iaX_map (f := I) (c := 1) hx rfl, elS_map (f := I) hx]
  refine hR _ _ (h7 _ _ ?_); clear hR h7 R K7
  simp only [go_sem]
  refine W_seq fun K8 h8 => ?_
  have fin : K8 [(0, I lo), (1, I hi), (9, intsO o l), (10, I l.length), (11, I i), (22, .bool (!(inR x lo hi)))] σ := by
   refine h8 _ _ ?_
   clear h8
   refine W_cond rfl (fun c => ?_) (fun c => ?_)
   · -- true
    refine W_seq fun K9 h9 => ?_
    refine W_region [6] fun R hR => ?_
    simp only [go_sem]
    refine hR _ _ (h9 _ _ ?_); clear hR h9 R K9
    simp only [go_sem]
    refine W_ret ?_
    simp only [go_sem]
    refine ⟨.inr (by trivial), Fin_self hcl rfl (Wk_bool ?_)⟩
    have hxm : x ∈ l := List.mem_of_getElem? hx
    symm
    rw [Bool.eq_false_iff]
    intro hh
    have := List.all_eq_true.1 hh x hxm
    rw [this] at c
    cases c
   -- false
   refine W_skip (h6 _ _ ?_); clear h6 K6
   refine W_region [0, 1, 9, 10, 11] fun R hR => ?_
   simp only [go_sem]
   refine hR _ _ ?_; clear hR R
   simp only [go_sem]
   rw [wrap_i64_id (by omega) (by omega)]
   refine ⟨k - 1, by omega, i + 1, by omega, ?_, rfl⟩
   rw [htake]
   unfold allIn at hall ⊢
   rw [List.all_append, hall]
   simpa using c
  clear h6 h8
  refine W_region [0, 1, 9, 10, 11, 22] fun R hR => ?_
  by_cases c1 : x < lo
  ·simp only [go_sem, c1]
   refine hR _ _ ?_
   simp only [go_sem]
   have : inR x lo hi = false := by simp [inR]; omega
   rw [this] at fin
   exact fin
  simp only [go_sem, c1]
  refine hR _ _ ?_
  simp only [go_sem]
  have : (!inR x lo hi) = decide (hi < x) := by
   rw [Bool.eq_iff_iff]; simp [inR]; omega
  rw [this] at fin
  exact fin
 -- false
 have hi' : i = l.length := by simp at c; omega
 subst hi'
 refine W_exit ?_
 simp only [go_sem]
 refine h2 _ _ ?_; clear h5 K5 h2 K2
 refine W_seq fun K10 h10 => ?_
 refine W_region [6] fun R hR => ?_
 simp only [go_sem]
 refine hR _ _ (h10 _ _ ?_); clear hR h10 R K10
 simp only [go_sem]
 refine W_ret ?_
 simp only [go_sem]
 refine ⟨.inr (by trivial), Fin_self hcl rfl (Wk_bool ?_)⟩
 rw [List.take_length] at hall
 exact hall.symm
theorem cother_pc (Y : YEnv) (σ : Sg) (s : Int × Int) (at' : Int) : PC Tryz.prog Y 250 [stPV s, I at'] σ (I (other s at')) σ := by
 refine PC_of_W Tryz.func250 rfl (by kernel_rfl) Tryz.ntmps250 (by simp) fun hcl hca => ?_
 obtain ⟨a, b⟩ := s
 refine W_seq fun K1 h1 => ?_
 refine W_region [1, 2] fun R hR => ?_
 simp only [go_sem, stPV]
 refine hR _ _ (h1 _ _ ?_); clear hR h1 R K1
 simp only [go_sem]
 refine W_seq fun K2 h2 => ?_
 refine W_seq fun K3 h3 => ?_
 refine W_region [2, 5] fun R hR => ?_
 simp only [go_sem]
 refine hR _ _ (h3 _ _ ?_); clear hR h3 R K3
 simp only [go_sem]
 refine W_block ?_
 refine W_seq fun K4 h4 => ?_
 refine W_region [2, 5, 6] fun R hR => ?_
 simp only [go_sem]
 refine hR _ _ (h4 _ _ ?_); clear hR h4 R K4
 simp only [go_sem]
 refine W_cond rfl (fun c => ?_) (fun c => ?_)
 · -- true
  refine W_seq fun K5 h5 => ?_
  refine W_region [4] fun R hR => ?_
  simp only [go_sem]
  refine hR _ _ (h5 _ _ ?_); clear hR h5 R K5
  simp only [go_sem]
  refine W_ret ?_
  simp only [go_sem]
  refine ⟨.inr (by trivial), Fin_same hcl rfl (Wk_int ?_)⟩
  simp_all [other]
 -- false
 refine W_seq fun K6 h6 => ?_
 refine W_region [2, 12] fun R hR => ?_
 simp only [go_sem]
 refine hR _ _ (h6 _ _ ?_); clear hR h6 R K6
 simp only [go_sem]
 refine W_cond rfl (fun c => ?_) (fun c => ?_)
 · -- true
  refine W_seq fun K7 h7 => ?_
  refine W_region [4] fun R hR => ?_
  simp only [go_sem]
  refine hR _ _ (h7 _ _ ?_); clear hR h7 R K7
  simp only [go_sem]
  refine W_ret ?_
  simp only [go_sem]
  refine ⟨.inr (by trivial), Fin_same hcl rfl (Wk_int ?_)⟩
  simp_all [other]
 -- false
 refine W_skip ?_
 simp only [go_sem]
 refine h2 _ _ ?_
 refine W_seq fun K8 h8 => ?_
 refine W_region [4] fun R hR => ?_
 simp only [go_sem]
 refine hR _ _ (h8 _ _ ?_); clear hR h8 R K8
 simp only [go_sem]
 refine W_ret ?_
 simp only [go_sem]
 refine ⟨.inr (by trivial), Fin_same hcl rfl (Wk_int ?_)⟩
 simp_all [other]
theorem cspan_pc (Y : YEnv) (σ : Sg) (lo hi m : Int) : PC Tryz.prog Y 249 [.agg [I lo, I hi], I m] σ (I (chkSpan lo hi m)) σ := by
 refine PC_of_W Tryz.func249 rfl (by kernel_rfl) Tryz.ntmps249 (by simp) fun hcl hca => ?_
 refine W_seq fun K1 h1 => ?_
 refine W_region [1, 2] fun R hR => ?_
 simp only [go_sem]
 refine hR _ _ (h1 _ _ ?_); clear hR h1 R K1
 simp only [go_sem]
 refine W_seq fun K2 h2 => ?_
 refine W_block ?_
 refine W_seq fun K3 h3 => ?_
 refine W_region [2, 5] fun R hR => ?_
 simp only [go_sem, bsX]
 refine GCall_of (cin_pc Y _ 0 m [lo, hi] .exact (by simp)) ?_   -- t12 := call F115(0,t6,t11) : 4   <0,5>
 simp only [go_sem]
 refine hR _ _ (h3 _ _ ?_); clear hR h3 R K3
 simp only [go_sem]
 refine W_cond rfl (fun c => ?_) (fun c => ?_)
 · -- true
  refine W_seq fun K4 h4 => ?_
  refine W_region [4] fun R hR => ?_
  simp only [go_sem]
  refine hR _ _ (h4 _ _ ?_); clear hR h4 R K4
  simp only [go_sem]
  refine W_ret ?_
  simp only [go_sem]
  refine ⟨.inr (by trivial), Fin_same hcl rfl (Wk_int (by simp_all [chkSpan, allIn]))⟩
 -- false
 refine W_seq fun K5 h5 => ?_
 refine W_region [14] fun R hR => ?_
 simp only [go_sem]
 refine hR _ _ (h5 _ _ ?_); clear hR h5 R K5
 simp only [go_sem]
 refine W_cond rfl (fun c => ?_) (fun c => ?_)
 · -- true
  refine W_seq fun K6 h6 => ?_
  refine W_region [4] fun R hR => ?_
  simp only [go_sem]
  refine hR _ _ (h6 _ _ ?_); clear hR h6 R K6
  simp only [go_sem]
  refine W_ret ?_
  simp only [go_sem]
  refine ⟨.inr (by trivial), Fin_same hcl rfl (Wk_int (by simp_all [chkSpan, allIn]))⟩
 -- false
 refine W_skip (h2 _ _ ?_)
 refine W_seq fun K7 h7 => ?_
 refine W_region [4] fun R hR => ?_
 simp only [go_sem]
 refine hR _ _ (h7 _ _ ?_); clear hR h7 R K7
 simp only [go_sem]
 refine W_ret ?_
 simp only [go_sem]
 refine ⟨.inr (by trivial), Fin_same hcl rfl (Wk_int (by simp_all [chkSpan, allIn]))⟩
def chkPath (streets : List (Int × Int)) : List Int → Int → Int
 | [], _ => 0
 | n :: r, at' => if !(inR n 0 (streets.length - 1)) then 7 else
  match streets[n.toNat]? with
  | none => 7
  | some s => if other s at' < 0 then 1 else chkPath streets r (other s at')
def chkGroup (t : Town) (g : Group) : Int :=
 if chkSpan g.slo g.shi 1000000 ≠ 0 then chkSpan g.slo g.shi 1000000 else
 if chkSpan g.alo g.ahi 96 ≠ 0 then chkSpan g.alo g.ahi 96 else
 if !(inR g.stay 1 96) then 2 else if !(inR g.first 0 (t.rooms.length - 1)) then 7 else if g.path.length > 12 then 5 else chkPath t.streets g.path g.first
theorem cgroup_pc (Y : YEnv) (σ : Sg) (t : Town) (g : Group) (hr : t.rooms.length < 2 ^ 62) (hs : t.streets.length < 2 ^ 62) (hp : g.path.length < 2 ^ 62) : PC Tryz.prog Y 188 [twPV t, grPV g] σ (I (chkGroup t g)) σ := by
 refine PC_of_W Tryz.func188 rfl (by kernel_rfl) Tryz.ntmps188 (by simp) fun hcl hca => ?_
 have wr : IntKind.i64.wrap ((t.rooms.length : Int) - 1) = (t.rooms.length : Int) - 1 := wrap_i64_id (by omega) (by omega)
 have ws : IntKind.i64.wrap ((t.streets.length : Int) - 1) = (t.streets.length : Int) - 1 := wrap_i64_id (by omega) (by omega)
 refine W_seq fun K1 h1 => ?_
 refine W_region [2, 3] fun R hR => ?_
 simp only [go_sem, twPV, twCells, grPV]
 refine hR _ _ (h1 _ _ ?_); clear hR h1 R K1
 simp only [go_sem, bsX, wr, ws]
 refine W_seq fun K2 h2 => ?_
 refine W_seq fun K3 h3 => ?_
 refine W_region [2, 3, 5] fun R hR => ?_
 simp only [go_sem, bsX, wr, ws]
 refine GCall_of (cspan_pc Y _ g.slo g.shi 1000000) ?_   -- t12 := call F146(t11,1000000) : 46   <1>
 simp only [go_sem, bsX, wr, ws]
 refine hR _ _ (h3 _ _ ?_); clear hR h3 R K3
 simp only [go_sem, bsX, wr, ws]
 refine W_seq fun K4 h4 => ?_
 refine W_region [2, 3, 5, 14] fun R hR => ?_
 simp only [go_sem, bsX, wr, ws]
 refine hR _ _ (h4 _ _ ?_); clear hR h4 R K4
 simp only [go_sem, bsX, wr, ws]
 refine W_cond rfl (fun c => ?_) (fun c => ?_)
 · -- true
  refine W_seq fun K5 h5 => ?_
  refine W_region [4] fun R hR => ?_
  simp only [go_sem, bsX, wr, ws]
  refine hR _ _ (h5 _ _ ?_); clear hR h5 R K5
  simp only [go_sem, bsX, wr, ws]
  refine W_ret ?_
  simp only [go_sem, bsX, wr, ws]
  refine ⟨.inr (by trivial), Fin_same hcl rfl (Wk_int (by simp_all [chkGroup, allIn] <;> (intros; omega)))⟩
 -- false
 refine W_skip (h2 _ _ ?_)
 refine W_seq fun K6 h6 => ?_
 refine W_seq fun K7 h7 => ?_
 refine W_region [2, 3, 6] fun R hR => ?_
 simp only [go_sem, bsX, wr, ws]
 refine GCall_of (cspan_pc Y _ g.alo g.ahi 96) ?_   -- t18 := call F146(t17,96) : 46   <1>
 simp only [go_sem, bsX, wr, ws]
 refine hR _ _ (h7 _ _ ?_); clear hR h7 R K7
 simp only [go_sem, bsX, wr, ws]
 refine W_seq fun K8 h8 => ?_
 refine W_region [2, 3, 6, 20] fun R hR => ?_
 simp only [go_sem, bsX, wr, ws]
 refine hR _ _ (h8 _ _ ?_); clear hR h8 R K8
 simp only [go_sem, bsX, wr, ws]
 refine W_cond rfl (fun c => ?_) (fun c => ?_)
 · -- true
  refine W_seq fun K9 h9 => ?_
  refine W_region [4] fun R hR => ?_
  simp only [go_sem, bsX, wr, ws]
  refine hR _ _ (h9 _ _ ?_); clear hR h9 R K9
  simp only [go_sem, bsX, wr, ws]
  refine W_ret ?_
  simp only [go_sem, bsX, wr, ws]
  refine ⟨.inr (by trivial), Fin_same hcl rfl (Wk_int (by simp_all [chkGroup, allIn] <;> (intros; omega)))⟩
 -- false
 refine W_skip (h6 _ _ ?_)
 refine W_seq fun K10 h10 => ?_
 refine W_block ?_
 refine W_seq fun K11 h11 => ?_
 refine W_region [2, 3, 22] fun R hR => ?_
 simp only [go_sem, bsX, wr, ws]
 refine GCall_of (cin_pc Y _ 1 96 [g.stay] .exact (by simp)) ?_   -- t26 := call F115(1,96,t25) : 4   <2>
 simp only [go_sem, bsX, wr, ws]
 refine hR _ _ (h11 _ _ ?_); clear hR h11 R K11
 simp only [go_sem, bsX, wr, ws]
 refine W_cond rfl (fun c => ?_) (fun c => ?_)
 · -- true
  refine W_seq fun K12 h12 => ?_
  refine W_region [4] fun R hR => ?_
  simp only [go_sem, bsX, wr, ws]
  refine hR _ _ (h12 _ _ ?_); clear hR h12 R K12
  simp only [go_sem, bsX, wr, ws]
  refine W_ret ?_
  simp only [go_sem, bsX, wr, ws]
  refine ⟨.inr (by trivial), Fin_same hcl rfl (Wk_int (by simp_all [chkGroup, allIn] <;> (intros; omega)))⟩
 -- false
 refine W_seq fun K13 h13 => ?_
 refine W_region [2, 3, 28] fun R hR => ?_
 simp only [go_sem, bsX, wr, ws]
 refine GCall_of (cin_pc Y _ 0 _ [g.first] .exact (by simp)) ?_   -- t36 := call F115(0,t32,t35) : 4   <3,6>
 simp only [go_sem, bsX, wr, ws]
 refine hR _ _ (h13 _ _ ?_); clear hR h13 R K13
 simp only [go_sem, bsX, wr, ws]
 refine W_cond rfl (fun c => ?_) (fun c => ?_)
 · -- true
  refine W_seq fun K14 h14 => ?_
  refine W_region [4] fun R hR => ?_
  simp only [go_sem, bsX, wr, ws]
  refine hR _ _ (h14 _ _ ?_); clear hR h14 R K14
  simp only [go_sem, bsX, wr, ws]
  refine W_ret ?_
  simp only [go_sem, bsX, wr, ws]
  refine ⟨.inr (by trivial), Fin_same hcl rfl (Wk_int (by simp_all [chkGroup, allIn] <;> (intros; omega)))⟩
 -- false
 refine W_seq fun K15 h15 => ?_
 refine W_region [2, 3, 38] fun R hR => ?_
 simp only [go_sem, bsX, wr, ws]
 refine hR _ _ (h15 _ _ ?_); clear hR h15 R K15
 simp only [go_sem, bsX, wr, ws]
 refine W_cond rfl (fun c => ?_) (fun c => ?_)
 · -- true
  refine W_seq fun K16 h16 => ?_
  refine W_region [4] fun R hR => ?_
  simp only [go_sem, bsX, wr, ws]
  refine hR _ _ (h16 _ _ ?_); clear hR h16 R K16
  simp only [go_sem, bsX, wr, ws]
  refine W_ret ?_
  simp only [go_sem, bsX, wr, ws]
  refine ⟨.inr (by trivial), Fin_same hcl rfl (Wk_int (by simp_all [chkGroup, allIn] <;> (intros; omega)))⟩
 -- false
 refine W_skip (h10 _ _ ?_)
 refine W_seq fun K17 h17 => ?_
 refine W_region [2, 3, 7] fun R hR => ?_
 simp only [go_sem, bsX, wr, ws]
 refine hR _ _ (h17 _ _ ?_); clear hR h17 R K17
 simp only [go_sem, bsX, wr, ws]
 refine W_seq fun K18 h18 => ?_
 refine W_seq fun K19 h19 => ?_
 refine W_region [2, 7, 46, 47, 48] fun R hR => ?_
 simp only [go_sem, bsX, wr, ws]
 refine hR _ _ (h19 _ _ ?_); clear hR h19 R K19
 simp only [go_sem, bsX, wr, ws]
 refine W_block ?_
 have hgr : chkGroup t g = chkPath t.streets g.path g.first := by
  simp_all [chkGroup, allIn]
  try (intros; omega)
 refine W_loopK (fun k E σ' => ∃ (i : Nat) (at' : Int), k + i = g.path.length ∧ chkPath t.streets (g.path.drop i) at' = chkPath t.streets g.path g.first ∧ E = [(2, .ptr σ.store.length 0), (7, I at'), (46, ints g.path), (47, I g.path.length), (48, I i)] ∧ σ.ext [some (twCells t), some (grPV g).cells] [] = σ') g.path.length ⟨0, g.first, rfl, rfl, rfl, rfl⟩ ?_
 rintro k E σ' ⟨i, at', hk, hinv, rfl, rfl⟩
 simp only [twCells, grPV, go_sem]
 refine W_seq fun K20 h20 => ?_
 refine W_region [2, 7, 46, 47, 48, 49] fun R hR => ?_
 simp only [go_sem, bsX, wr, ws]
 refine hR _ _ (h20 _ _ ?_); clear hR h20 R K20
 simp only [go_sem, bsX, wr, ws]
 refine W_seq fun K21 h21 => ?_
 refine W_cond rfl (fun c => ?_) (fun c => ?_)
 · -- true
  have hi' : i < g.path.length := by simpa using c
  obtain ⟨x, hx⟩ : ∃ x, g.path[i]? = some x := ⟨g.path[i], by simp [hi']⟩
  have hdrop : g.path.drop i = x :: g.path.drop (i + 1) := by
   rw [List.drop_eq_getElem_cons hi']; congr 1; exact (List.getElem?_eq_some_iff.1 hx).2
  rw [hdrop] at hinv
  refine W_skip (h21 _ _ ?_)
  refine W_seq fun K22 h22 => ?_
  refine W_block ?_
  refine W_seq fun K23 h23 => ?_
  refine W_region [2, 7, 9, 46, 47, 48] fun R hR => ?_
  simp only [go_sem, bsX, wr, ws, iaX_map (f := I) (c := 1) hx rfl, elS_map (f := I) hx]
  refine hR _ _ (h23 _ _ ?_); clear hR h23 R K23
  simp only [go_sem, bsX, wr, ws]
  refine W_seq fun K24 h24 => ?_
  refine W_seq fun K25 h25 => ?_
  refine W_region [2, 7, 9, 46, 47, 48, 59] fun R hR => ?_
  simp only [go_sem, bsX, wr, ws]
  refine GCall_of (cin_pc Y _ 0 _ [x] .exact (by simp)) ?_   -- t58 := call F115(0,t55,t57) : 4   <3,5>
  simp only [go_sem, bsX, wr, ws]
  refine hR _ _ (h25 _ _ ?_); clear hR h25 R K25
  simp only [go_sem, bsX, wr, ws]
  refine W_cond rfl (fun c => ?_) (fun c => ?_)
  · -- true
   have hin : inR x 0 ((t.streets.length : Int) - 1) = false := by simpa [allIn] using c
   refine W_seq fun K26 h26 => ?_
   refine W_region [4] fun R hR => ?_
   simp only [go_sem, bsX, wr, ws]
   refine hR _ _ (h26 _ _ ?_); clear hR h26 R K26
   simp only [go_sem, bsX, wr, ws]
   refine W_ret ?_
   simp only [go_sem, bsX, wr, ws]
   refine ⟨.inr (by trivial), Fin_same hcl rfl (Wk_int ?_)⟩
   rw [hgr, ← hinv]; simp only [chkPath, hin]; rfl
  -- false
  have hin : inR x 0 ((t.streets.length : Int) - 1) = true := by simpa [allIn] using c
  have hin' : 0 ≤ x ∧ x ≤ (t.streets.length : Int) - 1 := by simpa [inR] using hin
  obtain ⟨n, hn⟩ : ∃ n : Nat, x = (n : Int) := ⟨x.toNat, by omega⟩
  subst hn
  obtain ⟨s, hs'⟩ : ∃ s, t.streets[n]? = some s := ⟨t.streets[n]'(by omega), by simp⟩
  have hstep : chkPath t.streets ((n : Int) :: g.path.drop (i + 1)) at' = if other s at' < 0 then 1 else chkPath t.streets (g.path.drop (i + 1)) (other s at') := by
   simp only [chkPath, hin, Int.toNat_natCast, hs']; rfl
  rw [hstep] at hinv
  refine W_skip (h24 _ _ ?_)
  refine W_seq fun K27 h27 => ?_
  refine W_region [2, 7, 46, 47, 48] fun R hR => ?_
  simp only [go_sem, bsX, wr, ws, iaX_map (f := stPV) (c := 2) hs' rfl, elA_map (f := stPV) hs', stPV]
  refine GCall_of (cother_pc Y _ s at') ?_   -- t66 := call F117(t64,t65) : 3   <4,5>
  simp only [go_sem, bsX, wr, ws]
  refine hR _ _ (h27 _ _ ?_); clear hR h27 R K27
  simp only [go_sem, bsX, wr, ws]
  refine W_seq fun K28 h28 => ?_
  refine W_region [2, 7, 46, 47, 48, 68] fun R hR => ?_
  simp only [go_sem, bsX, wr, ws]
  refine hR _ _ (h28 _ _ ?_); clear hR h28 R K28
  simp only [go_sem, bsX, wr, ws]
  refine W_cond rfl (fun c => ?_) (fun c => ?_)
  · -- true
   refine W_seq fun K29 h29 => ?_
   refine W_region [4] fun R hR => ?_
   simp only [go_sem, bsX, wr, ws]
   refine hR _ _ (h29 _ _ ?_); clear hR h29 R K29
   simp only [go_sem, bsX, wr, ws]
   refine W_ret ?_
   simp only [go_sem, bsX, wr, ws]
   refine ⟨.inr (by trivial), Fin_same hcl rfl (Wk_int ?_)⟩
   rw [hgr, ← hinv, if_pos (by simpa using c)]
  -- false
  refine W_skip (h22 _ _ ?_)
  refine W_region [2, 7, 46, 47, 48] fun R hR => ?_
  simp only [go_sem, bsX, wr, ws]
  refine hR _ _ ?_; clear hR R
  simp only [go_sem, bsX, wr, ws]
  rw [if_neg (by simpa using c)] at hinv
  rw [wrap_i64_id (by omega) (by omega)]
  exact ⟨k - 1, by omega, i + 1, _, by omega, hinv, rfl⟩
 -- false
 refine W_exit ?_
 simp only [go_sem, bsX, wr, ws]
 refine h18 _ _ ?_
 refine W_seq fun K30 h30 => ?_
 refine W_region [4] fun R hR => ?_
 simp only [go_sem, bsX, wr, ws]
 refine hR _ _ (h30 _ _ ?_); clear hR h30 R K30
 simp only [go_sem, bsX, wr, ws]
 refine W_ret ?_
 simp only [go_sem, bsX, wr, ws]
 refine ⟨.inr (by trivial), Fin_same hcl rfl (Wk_int ?_)⟩
 rw [hgr, ← hinv, List.drop_eq_nil_of_le (by simp at c; omega)]; rfl
def chkStreets (n : Int) : List (Int × Int) → Int
 | [] => 0
 | s :: r => if !(inR s.1 0 (n - 1) && inR s.2 0 (n - 1)) then 7 else if s.1 = s.2 then 1 else chkStreets n r
def chkGroups (t : Town) : List Group → Int
 | [] => 0
 | g :: r => if chkGroup t g ≠ 0 then chkGroup t g else chkGroups t r
def chkTown (t : Town) : Int :=
 if t.rooms.length = 0 then 4 else if t.rooms.length > 12 then 5 else if !(allIn 0 1000000 t.rooms) then 2 else if t.streets.length > 12 then 5 else
 if chkStreets t.rooms.length t.streets ≠ 0 then chkStreets t.rooms.length t.streets else if !(inR t.steps 0 96) then 2 else if t.groups.length > 12 then 5 else chkGroups t t.groups
theorem ctown_pc (Y : YEnv) (σ : Sg) (t : Town) (hr : t.rooms.length < 2 ^ 62) (hs : t.streets.length < 2 ^ 62) (hg : t.groups.length < 2 ^ 62) (hp : ∀ g, g ∈ t.groups → g.path.length < 2 ^ 62) : PC Tryz.prog Y 123 [twPV t] σ (I (chkTown t)) σ := by
 refine PC_of_W Tryz.func123 rfl (by kernel_rfl) Tryz.ntmps123 (by simp) fun hcl hca => ?_
 have wr : IntKind.i64.wrap ((t.rooms.length : Int) - 1) = (t.rooms.length : Int) - 1 := wrap_i64_id (by omega) (by omega)
 refine W_seq fun K1 h1 => ?_
 refine W_region [1] fun R hR => ?_
 simp only [go_sem, bsX, wr, twPV, twCells]
 refine hR _ _ (h1 _ _ ?_); clear hR h1 R K1
 simp only [go_sem, bsX, wr]
 refine W_seq fun K2 h2 => ?_
 refine W_region [1, 3] fun R hR => ?_
 simp only [go_sem, bsX, wr]
 refine hR _ _ (h2 _ _ ?_); clear hR h2 R K2
 simp only [go_sem, bsX, wr]
 refine W_seq fun K3 h3 => ?_
 refine W_block ?_
 refine W_seq fun K4 h4 => ?_
 refine W_region [1, 3, 12] fun R hR => ?_
 simp only [go_sem, bsX, wr]
 refine hR _ _ (h4 _ _ ?_); clear hR h4 R K4
 simp only [go_sem, bsX, wr]
 refine W_cond rfl (fun c => ?_) (fun c => ?_)
 · -- true
  refine W_seq fun K5 h5 => ?_
  refine W_region [2] fun R hR => ?_
  simp only [go_sem, bsX, wr]
  refine hR _ _ (h5 _ _ ?_); clear hR h5 R K5
  simp only [go_sem, bsX, wr]
  refine W_ret ?_
  simp only [go_sem, bsX, wr]
  refine ⟨.inr (by trivial), Fin_same hcl rfl (Wk_int ?_)⟩
  simp_all [chkTown]
 -- false
 refine W_seq fun K6 h6 => ?_
 refine W_region [1, 3, 15] fun R hR => ?_
 simp only [go_sem, bsX, wr]
 refine hR _ _ (h6 _ _ ?_); clear hR h6 R K6
 simp only [go_sem, bsX, wr]
 refine W_cond rfl (fun c => ?_) (fun c => ?_)
 · -- true
  refine W_seq fun K7 h7 => ?_
  refine W_region [2] fun R hR => ?_
  simp only [go_sem, bsX, wr]
  refine hR _ _ (h7 _ _ ?_); clear hR h7 R K7
  simp only [go_sem, bsX, wr]
  refine W_ret ?_
  simp only [go_sem, bsX, wr]
  refine ⟨.inr (by trivial), Fin_same hcl rfl (Wk_int ?_)⟩
  simp_all [chkTown] <;> (intros; omega)
 -- false
 refine W_seq fun K8 h8 => ?_
 refine W_region [1, 3, 18] fun R hR => ?_
 simp only [go_sem, bsX, wr]
 refine GCall_of (cin_pc Y _ 0 1000000 t.rooms .ro hr) ?_
 simp only [go_sem, bsX, wr]
 refine hR _ _ (h8 _ _ ?_); clear hR h8 R K8
 simp only [go_sem, bsX, wr]
 refine W_cond rfl (fun c => ?_) (fun c => ?_)
 · -- true
  refine W_seq fun K9 h9 => ?_
  refine W_region [2] fun R hR => ?_
  simp only [go_sem, bsX, wr]
  refine hR _ _ (h9 _ _ ?_); clear hR h9 R K9
  simp only [go_sem, bsX, wr]
  refine W_ret ?_
  simp only [go_sem, bsX, wr]
  refine ⟨.inr (by trivial), Fin_same hcl rfl (Wk_int ?_)⟩
  simp_all [chkTown] <;> (intros; omega)
 -- false
 refine W_seq fun K10 h10 => ?_
 refine W_region [1, 3, 23] fun R hR => ?_
 simp only [go_sem, bsX, wr]
 refine hR _ _ (h10 _ _ ?_); clear hR h10 R K10
 simp only [go_sem, bsX, wr]
 refine W_cond rfl (fun c => ?_) (fun c => ?_)
 · -- true
  refine W_seq fun K11 h11 => ?_
  refine W_region [2] fun R hR => ?_
  simp only [go_sem, bsX, wr]
  refine hR _ _ (h11 _ _ ?_); clear hR h11 R K11
  simp only [go_sem, bsX, wr]
  refine W_ret ?_
  simp only [go_sem, bsX, wr]
  refine ⟨.inr (by trivial), Fin_same hcl rfl (Wk_int ?_)⟩
  simp_all [chkTown] <;> (intros; omega)
 -- false
 refine W_skip (h3 _ _ ?_)
 refine W_seq fun K12 h12 => ?_
 refine W_seq fun K13 h13 => ?_
 refine W_region [1, 3, 29, 30, 31] fun R hR => ?_
 simp only [go_sem, bsX, wr]
 refine hR _ _ (h13 _ _ ?_); clear hR h13 R K13
 simp only [go_sem, bsX, wr]
 refine W_block ?_
 have hq : chkTown t = if chkStreets t.rooms.length t.streets ≠ 0 then chkStreets t.rooms.length t.streets else if !(inR t.steps 0 96) then 2 else if t.groups.length > 12 then 5 else chkGroups t t.groups := by
  simp_all [chkTown]
  try (intros; omega)
 refine W_loopK (fun k E σ' => ∃ i : Nat, k + i = t.streets.length ∧ chkStreets t.rooms.length (t.streets.drop i) = chkStreets t.rooms.length t.streets ∧ E = [(1, .ptr σ.store.length 0), (3, I t.rooms.length), (29, .isl (t.streets.map stPV) .ro), (30, I t.streets.length), (31, I i)] ∧ σ.ext [some (twCells t)] [] = σ') t.streets.length ⟨0, rfl, rfl, rfl, rfl⟩ ?_
 rintro k E σ' ⟨i, hk, hinv, rfl, rfl⟩
 simp only [twCells, go_sem]
 refine W_seq fun K14 h14 => ?_
 refine W_region [1, 3, 29, 30, 31, 32] fun R hR => ?_
 simp only [go_sem, bsX, wr]
 refine hR _ _ (h14 _ _ ?_); clear hR h14 R K14
 simp only [go_sem, bsX, wr]
 refine W_seq fun K15 h15 => ?_
 refine W_cond rfl (fun c => ?_) (fun c => ?_)
 · -- true
  have hi' : i < t.streets.length := by simpa using c
  obtain ⟨x, hx⟩ : ∃ x, t.streets[i]? = some x := ⟨t.streets[i], by simp [hi']⟩
  have hdrop : t.streets.drop i = x :: t.streets.drop (i + 1) := by
   rw [List.drop_eq_getElem_cons hi']; congr 1; exact (List.getElem?_eq_some_iff.1 hx).2
  rw [hdrop] at hinv
  simp only [chkStreets] at hinv
  refine W_skip (h15 _ _ ?_)
  refine W_seq fun K16 h16 => ?_
  refine W_block ?_
  refine W_seq fun K17 h17 => ?_
  refine W_region [1, 3, 5, 29, 30, 31] fun R hR => ?_
  simp only [go_sem, bsX, wr, iaX_map (f := stPV) (c := 2) hx rfl, elA_map (f := stPV) hx, stPV]
  refine hR _ _ (h17 _ _ ?_); clear hR h17 R K17
  simp only [go_sem, bsX, wr]
  refine W_block ?_
  refine W_seq fun K18 h18 => ?_
  refine W_region [1, 3, 5, 29, 30, 31, 35] fun R hR => ?_
  simp only [go_sem, bsX, wr]
  refine GCall_of (cin_pc Y _ 0 _ [x.1, x.2] .exact (by simp)) ?_
  simp only [go_sem, bsX, wr]
  refine hR _ _ (h18 _ _ ?_); clear hR h18 R K18
  simp only [go_sem, bsX, wr]
  refine W_cond rfl (fun c => ?_) (fun c => ?_)
  · -- true
   refine W_seq fun K19 h19 => ?_
   refine W_region [2] fun R hR => ?_
   simp only [go_sem, bsX, wr]
   refine hR _ _ (h19 _ _ ?_); clear hR h19 R K19
   simp only [go_sem, bsX, wr]
   refine W_ret ?_
   simp only [go_sem, bsX, wr]
   refine ⟨.inr (by trivial), Fin_same hcl rfl (Wk_int ?_)⟩
   rw [hq, ← hinv]; simp_all [allIn]
  -- false
  refine W_seq fun K20 h20 => ?_
  refine W_region [1, 3, 29, 30, 31, 45] fun R hR => ?_
  simp only [go_sem, bsX, wr]
  refine hR _ _ (h20 _ _ ?_); clear hR h20 R K20
  simp only [go_sem, bsX, wr]
  refine W_cond rfl (fun c => ?_) (fun c => ?_)
  · -- true
   refine W_seq fun K21 h21 => ?_
   refine W_region [2] fun R hR => ?_
   simp only [go_sem, bsX, wr]
   refine hR _ _ (h21 _ _ ?_); clear hR h21 R K21
   simp only [go_sem, bsX, wr]
   refine W_ret ?_
   simp only [go_sem, bsX, wr]
   refine ⟨.inr (by trivial), Fin_same hcl rfl (Wk_int ?_)⟩
   rw [hq, ← hinv]; simp_all [allIn]
  -- false
  refine W_skip (h16 _ _ ?_)
  refine W_weak (Weak.cutExt 1 0 (Nat.le_add_right _ _) (Nat.le_refl _) hcl (CleanL_cons (cleans_tw t) CleanL_nil) (Wk.env (cleanE_cons (.ptr _ _ (by omega)) (cleanE_cons (.int _ _) (cleanE_cons (Clean.map noTok clean_st) (cleanE_cons (.int _ _) (cleanE_cons (.int _ _) (cleanE_cons (.bool _) cleanE_nil)))))))) ?_
  refine W_region [1, 3, 29, 30, 31] fun R hR => ?_
  simp only [go_sem, bsX, wr]
  refine hR _ _ ?_; clear hR R
  simp only [go_sem, bsX, wr]
  rw [wrap_i64_id (by omega) (by omega)]
  exact ⟨k - 1, by omega, i + 1, by omega, by simp_all [allIn], rfl⟩
 -- false
 have hz : chkStreets t.rooms.length t.streets = 0 := by rw [← hinv, List.drop_eq_nil_of_le (by simp at c; omega)]; rfl
 refine W_exit ?_
 simp only [go_sem, bsX, wr]
 refine h12 _ _ ?_
 refine W_seq fun K22 h22 => ?_
 refine W_block ?_
 refine W_seq fun K23 h23 => ?_
 refine W_region [1, 52] fun R hR => ?_
 simp only [go_sem, bsX, wr]
 refine GCall_of (cin_pc Y _ 0 96 [t.steps] .exact (by simp)) ?_
 simp only [go_sem, bsX, wr]
 refine hR _ _ (h23 _ _ ?_); clear hR h23 R K23
 simp only [go_sem, bsX, wr]
 refine W_cond rfl (fun c => ?_) (fun c => ?_)
 · -- true
  refine W_seq fun K24 h24 => ?_
  refine W_region [2] fun R hR => ?_
  simp only [go_sem, bsX, wr]
  refine hR _ _ (h24 _ _ ?_); clear hR h24 R K24
  simp only [go_sem, bsX, wr]
  refine W_ret ?_
  simp only [go_sem, bsX, wr]
  refine ⟨.inr (by trivial), Fin_same hcl rfl (Wk_int ?_)⟩
  rw [hq, hz]; simp_all [allIn]
 -- false
 refine W_seq fun K25 h25 => ?_
 refine W_region [1, 58] fun R hR => ?_
 simp only [go_sem, bsX, wr]
 refine hR _ _ (h25 _ _ ?_); clear hR h25 R K25
 simp only [go_sem, bsX, wr]
 refine W_cond rfl (fun c => ?_) (fun c => ?_)
 · -- true
  refine W_seq fun K26 h26 => ?_
  refine W_region [2] fun R hR => ?_
  simp only [go_sem, bsX, wr]
  refine hR _ _ (h26 _ _ ?_); clear hR h26 R K26
  simp only [go_sem, bsX, wr]
  refine W_ret ?_
  simp only [go_sem, bsX, wr]
  refine ⟨.inr (by trivial), Fin_same hcl rfl (Wk_int ?_)⟩
  rw [hq, hz]; simp_all [allIn] <;> (intros; omega)
 -- false
 refine W_skip (h22 _ _ ?_)
 refine W_seq fun K27 h27 => ?_
 refine W_seq fun K28 h28 => ?_
 refine W_region [1, 64, 65, 66] fun R hR => ?_
 simp only [go_sem, bsX, wr]
 refine hR _ _ (h28 _ _ ?_); clear hR h28 R K28
 simp only [go_sem, bsX, wr]
 refine W_block ?_
 have hq2 : chkTown t = chkGroups t t.groups := by
  simp_all [allIn]
  try (intros; omega)
 refine W_loopK (fun k E σ' => ∃ i : Nat, k + i = t.groups.length ∧ chkGroups t (t.groups.drop i) = chkGroups t t.groups ∧ E = [(1, .ptr σ.store.length 0), (64, .isl (t.groups.map grPV) .ro), (65, I t.groups.length), (66, I i)] ∧ σ.ext [some (twCells t)] [] = σ') t.groups.length ⟨0, rfl, rfl, rfl, rfl⟩ ?_
 rintro k E σ' ⟨i, hk, hinv, rfl, rfl⟩
 simp only [twCells, go_sem]
 refine W_seq fun K29 h29 => ?_
 refine W_region [1, 64, 65, 66, 67] fun R hR => ?_
 simp only [go_sem, bsX, wr]
 refine hR _ _ (h29 _ _ ?_); clear hR h29 R K29
 simp only [go_sem, bsX, wr]
 refine W_seq fun K30 h30 => ?_
 refine W_cond rfl (fun c => ?_) (fun c => ?_)
 · -- true
  have hi' : i < t.groups.length := by simpa using c
  obtain ⟨x, hx⟩ : ∃ x, t.groups[i]? = some x := ⟨t.groups[i], by simp [hi']⟩
  have hdrop : t.groups.drop i = x :: t.groups.drop (i + 1) := by
   rw [List.drop_eq_getElem_cons hi']; congr 1; exact (List.getElem?_eq_some_iff.1 hx).2
  rw [hdrop] at hinv
  simp only [chkGroups] at hinv
  refine W_skip (h30 _ _ ?_)
  refine W_seq fun K31 h31 => ?_
  refine W_block ?_
  refine W_seq fun K32 h32 => ?_
  refine W_region [1, 7, 64, 65, 66] fun R hR => ?_
  simp only [go_sem, bsX, wr, iaX_map (f := grPV) (c := 7) hx rfl, elA_map (f := grPV) hx, grPV]
  refine hR _ _ (h32 _ _ ?_); clear hR h32 R K32
  simp only [go_sem, bsX, wr]
  refine W_seq fun K33 h33 => ?_
  refine W_region [1, 8, 64, 65, 66] fun R hR => ?_
  simp only [go_sem, bsX, wr]
  refine GCall_of (cgroup_pc Y _ t x hr hs (hp x (List.mem_of_getElem? hx))) ?_
  simp only [go_sem, bsX, wr]
  refine hR _ _ (h33 _ _ ?_); clear hR h33 R K33
  simp only [go_sem, bsX, wr]
  refine W_seq fun K34 h34 => ?_
  refine W_region [1, 8, 64, 65, 66, 74] fun R hR => ?_
  simp only [go_sem, bsX, wr]
  refine hR _ _ (h34 _ _ ?_); clear hR h34 R K34
  simp only [go_sem, bsX, wr]
  refine W_cond rfl (fun c => ?_) (fun c => ?_)
  · -- true
   refine W_seq fun K35 h35 => ?_
   refine W_region [2] fun R hR => ?_
   simp only [go_sem, bsX, wr]
   refine hR _ _ (h35 _ _ ?_); clear hR h35 R K35
   simp only [go_sem, bsX, wr]
   refine W_ret ?_
   simp only [go_sem, bsX, wr]
   refine ⟨.inr (by trivial), Fin_same hcl rfl (Wk_int ?_)⟩
   rw [hq2, ← hinv, if_pos (by simpa using c)]
  -- false
  refine W_skip (h31 _ _ ?_)
  refine W_weak (Weak.cutExt 1 0 (Nat.le_add_right _ _) (Nat.le_refl _) hcl (CleanL_cons (cleans_tw t) CleanL_nil) (Wk.env (cleanE_cons (.ptr _ _ (by omega)) (cleanE_cons (.int _ _) (cleanE_cons (Clean.map noTok clean_gr) (cleanE_cons (.int _ _) (cleanE_cons (.int _ _) (cleanE_cons (.bool _) cleanE_nil)))))))) ?_
  refine W_region [1, 64, 65, 66] fun R hR => ?_
  simp only [go_sem, bsX, wr]
  refine hR _ _ ?_; clear hR R
  simp only [go_sem, bsX, wr]
  rw [if_neg (by simpa using c)] at hinv
  rw [wrap_i64_id (by omega) (by omega)]
  exact ⟨k - 1, by omega, i + 1, by omega, hinv, rfl⟩
 -- false
 refine W_exit ?_
 simp only [go_sem, bsX, wr]
 refine h27 _ _ ?_
 refine W_seq fun K36 h36 => ?_
 refine W_region [2] fun R hR => ?_
 simp only [go_sem, bsX, wr]
 refine hR _ _ (h36 _ _ ?_); clear hR h36 R K36
 simp only [go_sem, bsX, wr]
 refine W_ret ?_
 simp only [go_sem, bsX, wr]
 refine ⟨.inr (by trivial), Fin_same hcl rfl (Wk_int ?_)⟩
 rw [hq2, ← hinv, List.drop_eq_nil_of_le (by simp at c; omega)]; rfl
def fIdx (q : Int → Bool) : Nat → List Int → Int
 | _, [] => -1
 | i, x :: r => if q x then i else fIdx q (i + 1) r
theorem fIdx_any (q : Int → Bool) : ∀ (l : List Int) (i : Nat), decide (0 ≤ fIdx q i l) = l.any q := by
 intro l
 induction l with
 | nil => intro i; rfl
 | cons x l ih =>
  intro i
  simp only [fIdx, List.any_cons]
  by_cases h : q x = true
  ·simp [h]
  simp only [Bool.not_eq_true] at h
  simp [h, ih]
def chkCity (c : City) : Int :=
 if chkTown c.town ≠ 0 then chkTown c.town else if !(inR c.brk 0 120) then 2 else if c.sleep.length ≠ c.town.rooms.length then 1 else if c.sleep.any (fun n => !(inR n 0 720)) then 2 else 0
structure City.Ok (c : City) : Prop where
 hr : c.town.rooms.length < 2 ^ 50
 hs : c.town.streets.length < 2 ^ 50
 hg : c.town.groups.length < 2 ^ 50
 hp : ∀ g, g ∈ c.town.groups → g.path.length < 2 ^ 50
 hsl : c.sleep.length < 2 ^ 50
set_option maxHeartbeats 2000000 in
theorem check1_pc (Y : YEnv) (σ : Sg) (n : Int) :
 PC Tryz.prog Y 125 [I n] σ (.bool (!(inR n 0 720))) (σ) := by
 refine PC_of_W Tryz.func125 rfl (by kernel_rfl) Tryz.ntmps125 (by simp) fun hcl hca => ?_
 refine W_sr [0] fun R hR => ?_
 simp only [go_sem]
 refine hR _ _ ?_; clear hR R
 try simp only [go_sem]
 refine W_sr [2] fun R hR => ?_
 simp only [go_sem]
 refine GCall_of (in_pc Y _ n 0 720) ?_
 simp only [go_sem]
 refine hR _ _ ?_; clear hR R
 try simp only [go_sem]
 refine W_ret ?_
 simp only [go_sem]
 refine ⟨.inr (by trivial), ?_⟩
 first | refine Fsa hcl rfl ?_ | refine Fse hcl rfl ?_
 try simp only [go_sem]
 all_goals
  first | rfl | (simp_all; done) | (simp_all; omega)
set_option maxHeartbeats 2000000 in
theorem index_pc (Y : YEnv) (σ : Sg) (l : List Int) (o : Own) (hl : l.length < 2 ^ 62) (g : FuncId) (q : Int → Bool) (hq : ∀ (σ : Sg) (x : Int), PC Tryz.prog Y g [I x] σ (.bool (q x)) σ) :
 PC Tryz.prog Y 189 [intsO o l, .func (.func g) [] []] σ (I (fIdx q 0 l)) (σ) := by
 refine PC_of_W Tryz.func189 rfl (by kernel_rfl) Tryz.ntmps189 (by simp) fun hcl hca => ?_
 refine W_sr [0, 1] fun R hR => ?_
 simp only [go_sem]
 refine hR _ _ ?_; clear hR R
 try simp only [go_sem]
 refine W_seq fun Z2 K2 => ?_
 refine W_sr [0, 1, 7, 8] fun R hR => ?_
 simp only [go_sem]
 refine hR _ _ ?_; clear hR R
 try simp only [go_sem]
 refine W_block ?_
 refine W_loopS (α := Nat) (fun (i : Nat) => [(8, I i)]) (fun (i : Nat) => i ≤ l.length ∧ fIdx q i (l.drop i) = fIdx q 0 l) (fun (i : Nat) => l.length - i) (0) rfl (by simp) ?_
 rintro i ⟨hi, hinv⟩
 refine W_sr [0, 1, 7, 8, 9] fun R hR => ?_
 simp only [go_sem]
 refine hR _ _ ?_; clear hR R
 try simp only [go_sem]
 refine W_seq fun Z5 K5 => ?_
 refine W_cond rfl (fun c1 => ?_) (fun c1 => ?_)
 ·
  try simp only [nrm] at c1
  have hi' : i < l.length := by first | assumption | omega
  obtain ⟨x, hx⟩ : ∃ x, l[i]? = some x := ⟨l[i], by simp [hi']⟩
  have hdrop : l.drop i = x :: l.drop (i + 1) := by
   rw [List.drop_eq_getElem_cons hi']; congr 1; exact (List.getElem?_eq_some_iff.1 hx).2
  rw [hdrop] at hinv
  simp only [fIdx] at hinv
  refine W_skip (K5 _ _ ?_)
  refine W_seq fun Z6 K6 => ?_
  refine W_block ?_
  refine W_sr [0, 1, 5, 7, 8] fun R hR => ?_
  simp only [go_sem, hx]
  refine hR _ _ ?_; clear hR R
  try simp only [go_sem, hx]
  refine W_sr [0, 1, 5, 7, 8, 16] fun R hR => ?_
  simp only [go_sem, hx]
  refine GCall_of (hq _ x) ?_
  simp only [go_sem, hx]
  refine hR _ _ ?_; clear hR R
  try simp only [go_sem, hx]
  refine W_cond rfl (fun c2 => ?_) (fun c2 => ?_)
  ·
   try simp only [nrm] at c2
   refine W_sr [4] fun R hR => ?_
   simp only [go_sem, hx]
   refine hR _ _ ?_; clear hR R
   try simp only [go_sem, hx]
   refine W_ret ?_
   simp only [go_sem, hx]
   refine ⟨.inr (by trivial), ?_⟩
   first | refine Fsa hcl rfl ?_ | refine Fse hcl rfl ?_
   try simp only [go_sem]
   all_goals
    first | rfl | (simp_all; done) | (simp_all; omega)
  try simp only [nrm] at c2
  refine W_skip (K6 _ _ ?_)
  refine W_region [0, 1, 7, 8] fun R hR => ?_
  simp only [go_sem, hx]
  try simp (disch := omega) only [wrapI]
  refine hR _ _ ?_; clear hR R
  try simp only [go_sem, hx]
  refine ⟨i + 1, ?_, by (try simp only []); omega, ?_⟩
  ·first | exact Weak.refl | exact Wqq
  try dsimp only
  exact ⟨hi', by simp_all⟩
 try simp only [nrm] at c1
 have hdrop : l.drop i = [] := List.drop_eq_nil_of_le (by omega)
 rw [hdrop] at hinv
 simp only [fIdx] at hinv
 refine W_exit ?_
 simp only [go_sem]
 refine K2 _ _ ?_
 refine W_sr [4] fun R hR => ?_
 simp only [go_sem]
 refine hR _ _ ?_; clear hR R
 try simp only [go_sem]
 refine W_ret ?_
 simp only [go_sem]
 refine ⟨.inr (by trivial), ?_⟩
 first | refine Fsa hcl rfl ?_ | refine Fse hcl rfl ?_
 try simp only [go_sem]
 all_goals
  first | rfl | (simp_all; done) | (simp_all; omega)
set_option maxHeartbeats 2000000 in
theorem contains_pc (Y : YEnv) (σ : Sg) (l : List Int) (o : Own) (hl : l.length < 2 ^ 62) (g : FuncId) (q : Int → Bool) (hq : ∀ (σ : Sg) (x : Int), PC Tryz.prog Y g [I x] σ (.bool (q x)) σ) :
 PC Tryz.prog Y 124 [intsO o l, .func (.func g) [] []] σ (.bool (l.any q)) (σ) := by
 refine PC_of_W Tryz.func124 rfl (by kernel_rfl) Tryz.ntmps124 (by simp) fun hcl hca => ?_
 refine W_sr [0, 1] fun R hR => ?_
 simp only [go_sem]
 refine hR _ _ ?_; clear hR R
 try simp only [go_sem]
 refine W_sr [4] fun R hR => ?_
 simp only [go_sem]
 refine GCall_of (index_pc Y _ l o hl g q hq) ?_
 simp only [go_sem]
 refine hR _ _ ?_; clear hR R
 try simp only [go_sem]
 refine W_ret ?_
 simp only [go_sem]
 refine ⟨.inr (by trivial), ?_⟩
 first | refine Fsa hcl rfl ?_ | refine Fse hcl rfl ?_
 try simp only [go_sem]
 all_goals
  simp only [fIdx_any, go_sem]
set_option maxHeartbeats 2000000 in
theorem bcheck_pc (Y : YEnv) (σ : Sg) (ct : City) (hc : ct.Ok) :
 PC Tryz.prog Y 72 [ctPV ct] σ (I (chkCity ct)) (σ) := by
 refine PC_of_W Tryz.func72 rfl (by kernel_rfl) Tryz.ntmps72 (by simp) fun hcl hca => ?_
 refine W_sr [1] fun R hR => ?_
 simp only [go_sem]
 refine hR _ _ ?_; clear hR R
 try simp only [go_sem]
 refine W_seq fun Z2 K2 => ?_
 refine W_sr [1, 3] fun R hR => ?_
 simp only [go_sem]
 refine GCall_of (ctown_pc Y _ ct.town (by have := hc.hr; omega) (by have := hc.hs; omega) (by have := hc.hg; omega) (fun g hg => by have := hc.hp g hg; omega)) ?_
 simp only [go_sem]
 refine hR _ _ ?_; clear hR R
 try simp only [go_sem]
 refine W_sr [1, 3, 8] fun R hR => ?_
 simp only [go_sem]
 refine hR _ _ ?_; clear hR R
 try simp only [go_sem]
 refine W_cond rfl (fun c1 => ?_) (fun c1 => ?_)
 ·
  try simp only [nrm] at c1
  refine W_sr [2] fun R hR => ?_
  simp only [go_sem]
  refine hR _ _ ?_; clear hR R
  try simp only [go_sem]
  refine W_ret ?_
  simp only [go_sem]
  refine ⟨.inr (by trivial), ?_⟩
  first | refine Fsa hcl rfl ?_ | refine Fse hcl rfl ?_
  try simp only [go_sem]
  all_goals
   congr 1; simp only [chkCity]; simp_all
 try simp only [nrm] at c1
 refine W_skip (K2 _ _ ?_)
 refine W_seq fun Z6 K6 => ?_
 refine W_block ?_
 refine W_sr [1, 10] fun R hR => ?_
 simp only [go_sem]
 refine GCall_of (in_pc Y _ ct.brk 0 120) ?_
 simp only [go_sem]
 refine hR _ _ ?_; clear hR R
 try simp only [go_sem]
 refine W_cond rfl (fun c2 => ?_) (fun c2 => ?_)
 ·
  try simp only [nrm] at c2
  refine W_sr [2] fun R hR => ?_
  simp only [go_sem]
  refine hR _ _ ?_; clear hR R
  try simp only [go_sem]
  refine W_ret ?_
  simp only [go_sem]
  refine ⟨.inr (by trivial), ?_⟩
  first | refine Fsa hcl rfl ?_ | refine Fse hcl rfl ?_
  try simp only [go_sem]
  all_goals
   congr 1; simp only [chkCity]; simp_all
 try simp only [nrm] at c2
 refine W_sr [1, 15] fun R hR => ?_
 simp only [go_sem]
 refine hR _ _ ?_; clear hR R
 try simp only [go_sem]
 refine W_cond rfl (fun c3 => ?_) (fun c3 => ?_)
 ·
  try simp only [nrm] at c3
  refine W_sr [2] fun R hR => ?_
  simp only [go_sem]
  refine hR _ _ ?_; clear hR R
  try simp only [go_sem]
  refine W_ret ?_
  simp only [go_sem]
  refine ⟨.inr (by trivial), ?_⟩
  first | refine Fsa hcl rfl ?_ | refine Fse hcl rfl ?_
  try simp only [go_sem]
  all_goals
   congr 1; simp only [chkCity]; simp_all
 try simp only [nrm] at c3
 refine W_sr [24] fun R hR => ?_
 simp only [go_sem]
 refine GCall_of (contains_pc Y _ ct.sleep .ro (by have := hc.hsl; omega) 125 _ (fun σ x => check1_pc Y σ x)) ?_
 simp only [go_sem]
 refine hR _ _ ?_; clear hR R
 try simp only [go_sem]
 refine W_cond rfl (fun c4 => ?_) (fun c4 => ?_)
 ·
  try simp only [nrm] at c4
  refine W_sr [2] fun R hR => ?_
  simp only [go_sem]
  refine hR _ _ ?_; clear hR R
  try simp only [go_sem]
  refine W_ret ?_
  simp only [go_sem]
  refine ⟨.inr (by trivial), ?_⟩
  first | refine Fsa hcl rfl ?_ | refine Fse hcl rfl ?_
  try simp only [go_sem]
  all_goals
   congr 1; simp only [chkCity]; simp_all
 try simp only [nrm] at c4
 refine W_skip (K6 _ _ ?_)
 refine W_sr [2] fun R hR => ?_
 simp only [go_sem]
 refine hR _ _ ?_; clear hR R
 try simp only [go_sem]
 refine W_ret ?_
 simp only [go_sem]
 refine ⟨.inr (by trivial), ?_⟩
 first | refine Fsa hcl rfl ?_ | refine Fse hcl rfl ?_
 try simp only [go_sem]
 all_goals
  congr 1; simp only [chkCity]; simp_all
def sqPV (p : List Int × Int) : PV := .tuple [ints p.1, I p.2]
attribute [go_sem] sqPV
end Go.Proofs.YtpkkegbiddcodaaGreatDoor.Bd
namespace Go.Proofs.YtpkkegbiddcodaaGreatDoor.Ni
open Go Go.RowKit
open Pa (School Rules ShV shCells shPV ruCells ruPV chkS chkRu inR inR_true)
set_option maxRecDepth 100000
structure Director where
 school : School
 rules : Rules
 scale : Mk.Scale
 city : Bd.City
 funds : List Co.Fund
 date : Int
def diCells (x : Director) : List PV := shCells x.school ++ (ruCells x.rules ++ (Mk.scCells x.scale ++ (Bd.ctCells x.city ++ [.isl (x.funds.map Co.fdPV) .ro, I x.date])))
def diPV (x : Director) : PV := .agg (diCells x)
attribute [go_sem] diPV diCells
/-- How long the parts of a director may be. -/
structure DiL (x : Director) : Prop where
 nm : ∀ v, v ∈ x.school.wings → v.name.length ≤ 2 ^ 62
 wl : x.school.wings.length < 2 ^ 40
 sc : x.scale.Ok
 ct : x.city.Ok
 fl : x.funds.length < 2 ^ 40
 us : ∀ f, f ∈ x.funds → f.uses.length < 2 ^ 40
def diEs (x : Director) : List Int := [chkS x.school, chkRu x.rules, Mk.chkSc x.scale, Bd.chkCity x.city, Co.chkLg ⟨x.funds, []⟩, unl (inR x.date 0 3650) 2]
def chkDi (x : Director) : Int := firstE (diEs x)
set_option maxHeartbeats 2000000 in
theorem chk1_pc (Y : YEnv) (σ : Sg) (i1 : Nat) (x : Director) (h : DiL x) (hd : σ.store[i1]? = some (some (diCells x))) :
 PC Tryz.prog Y 164 [.ptr i1 0] σ (I (chkS x.school)) (σ) := by
 refine PC_of_W Tryz.func164 rfl (by kernel_rfl) Tryz.ntmps164 (by simp) fun hcl hca => ?_
 refine W_sr [0] fun R hR => ?_
 simp only [go_sem, ldA_at hd, ldS_at hd, Mk.scCells, Bd.ctCells, shCells, ruCells]
 refine hR _ _ ?_; clear hR R
 try simp only [go_sem, ldA_at hd, ldS_at hd, Mk.scCells, Bd.ctCells, shCells, ruCells]
 refine W_sr [1] fun R hR => ?_
 simp only [go_sem, ldA_at hd, ldS_at hd, Mk.scCells, Bd.ctCells, shCells, ruCells]
 refine GCall_of (Pa.Check_pc Y _ x.school h.nm h.wl) ?_
 simp only [go_sem, ldA_at hd, ldS_at hd, Mk.scCells, Bd.ctCells, shCells, ruCells]
 refine hR _ _ ?_; clear hR R
 try simp only [go_sem, ldA_at hd, ldS_at hd, Mk.scCells, Bd.ctCells, shCells, ruCells]
 refine W_ret ?_
 simp only [go_sem, ldA_at hd, ldS_at hd, Mk.scCells, Bd.ctCells, shCells, ruCells]
 refine ⟨.inr (by trivial), ?_⟩
 first | refine Fsa hcl rfl ?_ | refine Fse hcl rfl ?_
 try simp only [go_sem]
 all_goals
  first | rfl | (simp_all; done) | (simp_all; omega)
set_option maxHeartbeats 2000000 in
theorem chk2_pc (Y : YEnv) (σ : Sg) (i1 : Nat) (x : Director) (h : DiL x) (hd : σ.store[i1]? = some (some (diCells x))) :
 PC Tryz.prog Y 165 [.ptr i1 0] σ (I (chkRu x.rules)) (σ) := by
 refine PC_of_W Tryz.func165 rfl (by kernel_rfl) Tryz.ntmps165 (by simp) fun hcl hca => ?_
 refine W_sr [0] fun R hR => ?_
 simp only [go_sem, ldA_at hd, ldS_at hd, Mk.scCells, Bd.ctCells, shCells, ruCells]
 refine hR _ _ ?_; clear hR R
 try simp only [go_sem, ldA_at hd, ldS_at hd, Mk.scCells, Bd.ctCells, shCells, ruCells]
 refine W_sr [1] fun R hR => ?_
 simp only [go_sem, ldA_at hd, ldS_at hd, Mk.scCells, Bd.ctCells, shCells, ruCells]
 refine GCall_of (checkRules_pc Y _ x.rules) ?_
 simp only [go_sem, ldA_at hd, ldS_at hd, Mk.scCells, Bd.ctCells, shCells, ruCells]
 refine hR _ _ ?_; clear hR R
 try simp only [go_sem, ldA_at hd, ldS_at hd, Mk.scCells, Bd.ctCells, shCells, ruCells]
 refine W_ret ?_
 simp only [go_sem, ldA_at hd, ldS_at hd, Mk.scCells, Bd.ctCells, shCells, ruCells]
 refine ⟨.inr (by trivial), ?_⟩
 first | refine Fsa hcl rfl ?_ | refine Fse hcl rfl ?_
 try simp only [go_sem]
 all_goals
  first | rfl | (simp_all; done) | (simp_all; omega)
set_option maxHeartbeats 2000000 in
theorem chk3_pc (Y : YEnv) (σ : Sg) (i1 : Nat) (x : Director) (h : DiL x) (hd : σ.store[i1]? = some (some (diCells x))) :
 PC Tryz.prog Y 167 [.ptr i1 0] σ (I (Mk.chkSc x.scale)) (σ) := by
 refine PC_of_W Tryz.func167 rfl (by kernel_rfl) Tryz.ntmps167 (by simp) fun hcl hca => ?_
 refine W_sr [0] fun R hR => ?_
 simp only [go_sem, ldA_at hd, ldS_at hd, Mk.scCells, Bd.ctCells, shCells, ruCells]
 refine hR _ _ ?_; clear hR R
 try simp only [go_sem, ldA_at hd, ldS_at hd, Mk.scCells, Bd.ctCells, shCells, ruCells]
 refine W_sr [1] fun R hR => ?_
 simp only [go_sem, ldA_at hd, ldS_at hd, Mk.scCells, Bd.ctCells, shCells, ruCells]
 refine GCall_of (Mk.Check_pc Y _ x.scale h.sc) ?_
 simp only [go_sem, ldA_at hd, ldS_at hd, Mk.scCells, Bd.ctCells, shCells, ruCells]
 refine hR _ _ ?_; clear hR R
 try simp only [go_sem, ldA_at hd, ldS_at hd, Mk.scCells, Bd.ctCells, shCells, ruCells]
 refine W_ret ?_
 simp only [go_sem, ldA_at hd, ldS_at hd, Mk.scCells, Bd.ctCells, shCells, ruCells]
 refine ⟨.inr (by trivial), ?_⟩
 first | refine Fsa hcl rfl ?_ | refine Fse hcl rfl ?_
 try simp only [go_sem]
 all_goals
  first | rfl | (simp_all; done) | (simp_all; omega)
set_option maxHeartbeats 2000000 in
theorem chk4_pc (Y : YEnv) (σ : Sg) (i1 : Nat) (x : Director) (h : DiL x) (hd : σ.store[i1]? = some (some (diCells x))) :
 PC Tryz.prog Y 168 [.ptr i1 0] σ (I (Bd.chkCity x.city)) (σ) := by
 refine PC_of_W Tryz.func168 rfl (by kernel_rfl) Tryz.ntmps168 (by simp) fun hcl hca => ?_
 refine W_sr [0] fun R hR => ?_
 simp only [go_sem, ldA_at hd, ldS_at hd, Mk.scCells, Bd.ctCells, shCells, ruCells]
 refine hR _ _ ?_; clear hR R
 try simp only [go_sem, ldA_at hd, ldS_at hd, Mk.scCells, Bd.ctCells, shCells, ruCells]
 refine W_sr [1] fun R hR => ?_
 simp only [go_sem, ldA_at hd, ldS_at hd, Mk.scCells, Bd.ctCells, shCells, ruCells]
 refine GCall_of (Bd.bcheck_pc Y _ x.city h.ct) ?_
 simp only [go_sem, ldA_at hd, ldS_at hd, Mk.scCells, Bd.ctCells, shCells, ruCells]
 refine hR _ _ ?_; clear hR R
 try simp only [go_sem, ldA_at hd, ldS_at hd, Mk.scCells, Bd.ctCells, shCells, ruCells]
 refine W_ret ?_
 simp only [go_sem, ldA_at hd, ldS_at hd, Mk.scCells, Bd.ctCells, shCells, ruCells]
 refine ⟨.inr (by trivial), ?_⟩
 first | refine Fsa hcl rfl ?_ | refine Fse hcl rfl ?_
 try simp only [go_sem]
 all_goals
  first | rfl | (simp_all; done) | (simp_all; omega)
set_option maxHeartbeats 2000000 in
theorem chk5_pc (Y : YEnv) (σ : Sg) (i1 : Nat) (x : Director) (h : DiL x) (hd : σ.store[i1]? = some (some (diCells x))) :
 PC Tryz.prog Y 169 [.ptr i1 0] σ (I (Co.chkLg ⟨x.funds, []⟩)) (σ) := by
 refine PC_of_W Tryz.func169 rfl (by kernel_rfl) Tryz.ntmps169 (by simp) fun hcl hca => ?_
 refine W_sr [0] fun R hR => ?_
 simp only [go_sem, ldA_at hd, ldS_at hd, Mk.scCells, Bd.ctCells, shCells, ruCells]
 refine hR _ _ ?_; clear hR R
 try simp only [go_sem, ldA_at hd, ldS_at hd, Mk.scCells, Bd.ctCells, shCells, ruCells]
 refine W_sr [1] fun R hR => ?_
 simp only [go_sem, ldA_at hd, ldS_at hd, Mk.scCells, Bd.ctCells, shCells, ruCells]
 refine GCall_of (PC.ofRo (Co.Check_pc Y _ ⟨x.funds, []⟩ h.fl (by simp) h.us) (by simp only [go_sem] <;> rfl)) ?_
 simp only [go_sem, ldA_at hd, ldS_at hd, Mk.scCells, Bd.ctCells, shCells, ruCells]
 refine hR _ _ ?_; clear hR R
 try simp only [go_sem, ldA_at hd, ldS_at hd, Mk.scCells, Bd.ctCells, shCells, ruCells]
 refine W_ret ?_
 simp only [go_sem, ldA_at hd, ldS_at hd, Mk.scCells, Bd.ctCells, shCells, ruCells]
 refine ⟨.inr (by trivial), ?_⟩
 first | refine Fsa hcl rfl ?_ | refine Fse hcl rfl ?_
 try simp only [go_sem]
 all_goals
  first | rfl | (simp_all; done) | (simp_all; omega)
set_option maxHeartbeats 2000000 in
theorem chk6_pc (Y : YEnv) (σ : Sg) (i1 : Nat) (x : Director) (h : DiL x) (hd : σ.store[i1]? = some (some (diCells x))) :
 PC Tryz.prog Y 170 [.ptr i1 0] σ (I (unl (inR x.date 0 3650) 2)) (σ) := by
 refine PC_of_W Tryz.func170 rfl (by kernel_rfl) Tryz.ntmps170 (by simp) fun hcl hca => ?_
 refine W_sr [0] fun R hR => ?_
 simp only [go_sem, ldA_at hd, ldS_at hd, Mk.scCells, Bd.ctCells, shCells, ruCells]
 refine hR _ _ ?_; clear hR R
 try simp only [go_sem, ldA_at hd, ldS_at hd, Mk.scCells, Bd.ctCells, shCells, ruCells]
 refine W_sr [1] fun R hR => ?_
 simp only [go_sem, ldA_at hd, ldS_at hd, Mk.scCells, Bd.ctCells, shCells, ruCells]
 refine GCall_of (in_pc Y _ x.date 0 3650) ?_
 simp only [go_sem, ldA_at hd, ldS_at hd, Mk.scCells, Bd.ctCells, shCells, ruCells]
 refine GCall_of (unless_pc Y _ _ 2) ?_
 simp only [go_sem, ldA_at hd, ldS_at hd, Mk.scCells, Bd.ctCells, shCells, ruCells]
 refine hR _ _ ?_; clear hR R
 try simp only [go_sem, ldA_at hd, ldS_at hd, Mk.scCells, Bd.ctCells, shCells, ruCells]
 refine W_ret ?_
 simp only [go_sem, ldA_at hd, ldS_at hd, Mk.scCells, Bd.ctCells, shCells, ruCells]
 refine ⟨.inr (by trivial), ?_⟩
 first | refine Fsa hcl rfl ?_ | refine Fse hcl rfl ?_
 try simp only [go_sem]
 all_goals
  first | rfl | (simp_all; done) | (simp_all; omega)
end Go.Proofs.YtpkkegbiddcodaaGreatDoor.Ni
namespace Go.Proofs.YtpkkegbiddcodaaGreatDoor
open Go
def splitL (b : UInt8) : List UInt8 → List (List UInt8)
 | [] => [[]]
 | c :: r => if c = b then [] :: splitL b r else match splitL b r with
  | p :: q => (c :: p) :: q
  | [] => [[c]]
theorem splitL_one {b : UInt8} : ∀ {p : List UInt8}, b ∉ p → splitL b p = [p]
 | [], _ => rfl
 | c :: p, h => by
  simp only [List.mem_cons, not_or] at h
  simp only [splitL, splitL_one h.2]
  rw [if_neg fun e => h.1 e.symm]
theorem splitL_app {b : UInt8} : ∀ {p : List UInt8} (s : List UInt8), b ∉ p → splitL b (p ++ b :: s) = p :: splitL b s
 | [], s, _ => by simp [splitL]
 | c :: p, s, h => by
  simp only [List.mem_cons, not_or] at h
  simp only [List.cons_append, splitL, splitL_app s h.2]
  rw [if_neg fun e => h.1 e.symm]
/-- A text is free of the separator, or it is cut where it stands first. -/
theorem cut_at (b : UInt8) (s : List UInt8) : b ∉ s ∨ ∃ p r, s = p ++ b :: r ∧ b ∉ p := by
 induction s with
 | nil => exact .inl (by simp)
 | cons c s ih =>
  by_cases h : c = b
  ·exact .inr ⟨[], s, by rw [h]; rfl, by simp⟩
  rcases ih with h1 | ⟨p, r, h1, h2⟩
  ·exact .inl (by simp only [List.mem_cons, not_or]; exact ⟨fun e => h e.symm, h1⟩)
  exact .inr ⟨c :: p, r, by rw [h1]; rfl, by simp only [List.mem_cons, not_or]; exact ⟨fun e => h e.symm, h2⟩⟩
theorem indexByte_free {b : UInt8} : ∀ {s : List UInt8}, b ∉ s → Lib.indexByte s b = -1
 | [], _ => rfl
 | c :: s, h => by
  simp only [List.mem_cons, not_or] at h
  unfold Lib.indexByte
  rw [indexByte_free h.2, if_neg (by simpa using fun e => h.1 e.symm), if_pos (by decide)]
theorem indexByte_at {b : UInt8} (r : List UInt8) : ∀ {p : List UInt8}, b ∉ p → Lib.indexByte (p ++ b :: r) b = (p.length : Int)
 | [], _ => by simp [Lib.indexByte]
 | c :: p, h => by
  simp only [List.mem_cons, not_or] at h
  simp only [List.cons_append]
  unfold Lib.indexByte
  rw [indexByte_at r h.2, if_neg (by simpa using fun e => h.1 e.symm), if_neg (by simp)]
  simp
/-- The library's parts. -/
theorem splitK_one (b : UInt8) : ∀ (n : Nat) (s : List UInt8), s.length ≤ n → Lib.splitK [b] 0 (Lib.count s [b]) s = splitL b s := by
 intro n
 induction n with
 | zero =>
  intro s h
  have : s = [] := List.eq_nil_of_length_eq_zero (by omega)
  subst this
  have hm : Lib.index [] [b] = -1 := by rw [Lib.index_one]; rfl
  rw [Lib.count_miss hm]
  rfl
 | succ n ih =>
  intro s h
  rcases cut_at b s with hf | ⟨p, r, rfl, hp⟩
  ·have hm : Lib.index s [b] = -1 := by rw [Lib.index_one]; exact indexByte_free hf
   rw [Lib.count_miss hm, splitL_one hf]
   rfl
  have hm : Lib.index (p ++ b :: r) [b] = (p.length : Int) := by rw [Lib.index_one]; exact indexByte_at r hp
  have hd : (p ++ b :: r).drop (p.length + [b].length) = r := by
   rw [List.drop_append]
   simp
  rw [Lib.count_hit (by simp) hm, hd, Nat.add_comm 1, splitL_app r hp, Lib.splitK]
  rw [if_neg (by rw [hm]; simp), hm, Int.toNat_natCast, hd, ih r (by simp at h; omega)]
  simp
theorem splitB_one (b : UInt8) (s : ByteArray) : (Lib.splitB ⟨#[b]⟩ 0 (Lib.countB s ⟨#[b]⟩) s).map (·.data.toList) = splitL b s.data.toList := by
 rw [Lib.splitB_data]
 exact splitK_one b s.data.toList.length s.data.toList (Nat.le_refl _)
def numFrom (n : Nat) : List UInt8 → Option Nat
 | [] => some n
 | c :: r => if 48 ≤ c.toNat ∧ c.toNat ≤ 57 then numFrom (10 * n + (c.toNat - 48)) r else none
theorem numFrom_snoc (c : UInt8) : ∀ (l : List UInt8) (n : Nat), numFrom n (l ++ [c]) = (numFrom n l).bind fun m => if 48 ≤ c.toNat ∧ c.toNat ≤ 57 then some (10 * m + (c.toNat - 48)) else none
 | [], n => by simp only [List.nil_append, numFrom, Option.bind_some]
 | d :: l, n => by
  simp only [List.cons_append, numFrom]
  split
  ·exact numFrom_snoc c l _
  rfl
theorem numFrom_ge : ∀ (l : List UInt8) (n v : Nat), numFrom n l = some v → n ≤ v
 | [], n, v, h => by simp only [numFrom] at h; injection h with h; omega
 | c :: l, n, v, h => by
  simp only [numFrom] at h
  split at h
  ·have := numFrom_ge l _ v h; omega
  cases h
theorem dig_toNat {d : Nat} (h : d < 10) : (UInt8.ofNat (48 + d)).toNat = 48 + d := by simp; omega
theorem dec_ne (u : Nat) : Lib.decDigits u ≠ [] := by
 rw [Lib.decDigits]
 split <;> simp
theorem dec_num (u : Nat) : numFrom 0 (Lib.decDigits u) = some u := by
 induction u using Nat.strongRecOn with
 | _ u ih =>
  rw [Lib.decDigits]
  split
  ·rename_i h
   simp only [numFrom, dig_toNat h]
   rw [if_pos (by omega)]
   congr 1; omega
  rename_i h
  rw [numFrom_snoc, ih (u / 10) (by omega), Option.bind_some, dig_toNat (by omega), if_pos (by omega)]
  congr 1; omega
theorem dec_one : Lib.decDigits 0 = [48] := by rw [Lib.decDigits]; rfl
theorem parse_num : ∀ (l : List UInt8) (n v : Nat), numFrom n l = some v → v < 18446744073709551616 → Lib.parseUint10 n l = .ok v
 | [], n, v, h, _ => by simp only [numFrom] at h; injection h with h; rw [Lib.parseUint10, h]
 | c :: l, n, v, h, hv => by
  simp only [numFrom] at h
  split at h
  ·rename_i hc
   have hge := numFrom_ge l _ v h
   rw [Lib.parseUint10, if_pos hc, if_neg (by omega), if_neg (by omega), show n * 10 + (c.toNat - 48) = 10 * n + (c.toNat - 48) by omega]
   exact parse_num l _ v h hv
  cases h
theorem dec_digits (u : Nat) : ∀ c, c ∈ Lib.decDigits u → 48 ≤ c.toNat ∧ c.toNat ≤ 57 := by
 induction u using Nat.strongRecOn with
 | _ u ih =>
  rw [Lib.decDigits]
  split
  ·rename_i h
   intro c hc
   simp only [List.mem_singleton] at hc
   subst hc
   rw [dig_toNat h]
   omega
  rename_i h
  intro c hc
  rcases List.mem_append.1 hc with hc | hc
  ·exact ih (u / 10) (by omega) c hc
  simp only [List.mem_singleton] at hc
  subst hc
  rw [dig_toNat (by omega)]
  omega
theorem atoi_dec {u : Nat} (h : u < 9223372036854775808) : Lib.atoiAll (Lib.decDigits u) = .ok (u : Int) := by
 have hd := dec_digits u
 have hn := dec_num u
 cases hw : Lib.decDigits u with
 | nil => exact absurd hw (dec_ne u)
 | cons c r =>
  rw [hw] at hd hn
  have hc := hd c (List.mem_cons_self ..)
  unfold Lib.atoiAll
  simp only
  rw [if_neg (by omega)]
  unfold Lib.parseMag
  rw [if_neg (by simp), parse_num _ _ _ hn (by omega)]
  simp only
  rw [if_neg (by omega), if_neg (by omega), if_neg (by omega)]
theorem pow_dec (u : Nat) : 10 ^ ((Lib.decDigits u).length - 1) ≤ u ∨ u = 0 := by
 induction u using Nat.strongRecOn with
 | _ u ih =>
  rw [Lib.decDigits]
  split
  ·rcases Nat.eq_zero_or_pos u with h | h
   ·exact .inr h
   left; simp; omega
  rename_i h
  left
  have hne := List.length_pos_iff.2 (dec_ne (u / 10))
  rcases ih (u / 10) (by omega) with h1 | h1
  ·simp only [List.length_append, List.length_cons, List.length_nil, Nat.zero_add, Nat.add_sub_cancel]
   obtain ⟨m, hm⟩ : ∃ m, (Lib.decDigits (u / 10)).length = m + 1 := ⟨(Lib.decDigits (u / 10)).length - 1, by omega⟩
   rw [hm] at h1 ⊢
   rw [Nat.add_sub_cancel] at h1
   rw [Nat.pow_succ]
   omega
  omega
end Go.Proofs.YtpkkegbiddcodaaGreatDoor
namespace Go.Proofs.YtpkkegbiddcodaaGreatDoor.Sd
open Go Go.RowKit Pa
open Ni (Director)
set_option maxRecDepth 100000
/-- Lines of a script. -/
inductive Cmd where
 | at (n : Int)
 | wing
 | lasts
 | fuel
/-- A word, and numbers behind it. -/
def lineT (w : List UInt8) : List Int → List UInt8
 | [] => w
 | n :: r => lineT (w ++ 32 :: Lib.itoa n) r
def wordsT (w : List UInt8) : List Int → List UInt8
 | [] => w
 | n :: r => wordsT (if w = [] then Lib.itoa n else w ++ 32 :: Lib.itoa n) r
theorem wordsT_line : ∀ (l : List Int) (w : List UInt8), w ≠ [] → wordsT w l = lineT w l := by
 intro l
 induction l with
 | nil => intro w _; rfl
 | cons n l ih => intro w h; simp only [wordsT, lineT, if_neg h]; exact ih _ (by simp)
def okT : List UInt8 := [111, 107]
def errorT : List UInt8 := [101, 114, 114, 111, 114]
def atT : List UInt8 := [97, 116]
def wingT : List UInt8 := [119, 105, 110, 103]
def lastsT : List UInt8 := [108, 97, 115, 116, 115]
def fuelT : List UInt8 := [102, 117, 101, 108]
def sureT : List UInt8 := [115, 117, 114, 101]
def neverT : List UInt8 := [110, 101, 118, 101, 114]
def openT : List UInt8 := [111, 112, 101, 110]
def errT (e : Int) : List UInt8 := wordsT errorT [e]
def cmdT : Cmd → List UInt8
 | .at n => lineT atT [n]
 | .wing => wingT
 | .lasts => lastsT
 | .fuel => fuelT
/-- Rows, each ended. -/
def textT : List (List UInt8) → List UInt8
 | [] => []
 | r :: l => r ++ 10 :: textT l
theorem textT_app (a b : List (List UInt8)) : textT (a ++ b) = textT a ++ textT b := by
 induction a with
 | nil => rfl
 | cons r a ih => simp [textT, ih]
structure Dk where
 sec : Int
 st : List Int
def rowS (st : List Int) : List Int := st.map fun n => n - stW st 0
def sinceS (d : Dk) : Int := if d.st.length = 0 then 0 else d.sec - stW d.st 0
def takeSch (s : School) (k : Nat) : School := ⟨s.route, s.wings.take k⟩
def toldT (v : Int) : List UInt8 := if v = 1 then sureT else if v = 2 then neverT else if v = 3 then openT else []
def wingE (x : Director) (d : Dk) : Int :=
 if ¬ d.st.length < x.school.wings.length then 11 else chkSt (takeSch x.school (d.st.length + 1)) (rowS d.st ++ [sinceS d])
def stepD (x : Director) (d : Dk) : Cmd → List UInt8 × Dk
 | .at n => if d.sec ≤ n ∧ n ≤ 43199 then (okT, ⟨n, d.st⟩) else (errT 2, d)
 | .wing => if wingE x d ≠ 0 then (errT (wingE x d), d) else (okT, ⟨d.sec, d.st ++ [d.sec]⟩)
 | .lasts => if d.st.length < x.school.wings.length then (errT 11, d) else
  if (lastsA (takeSch x.school d.st.length) (rowS d.st) x.rules).2.2 ≠ 0 then (errT (lastsA (takeSch x.school d.st.length) (rowS d.st) x.rules).2.2, d) else
  (wordsT (toldT (lastsA (takeSch x.school d.st.length) (rowS d.st) x.rules).1) [(lastsA (takeSch x.school d.st.length) (rowS d.st) x.rules).2.1.1, (lastsA (takeSch x.school d.st.length) (rowS d.st) x.rules).2.1.2], d)
 | .fuel => (errT 1, d)
def runD (x : Director) : Dk → List Cmd → List (List UInt8) × Dk
 | d, [] => ([], d)
 | d, c :: l => ((stepD x d c).1 :: (runD x (stepD x d c).2 l).1, (runD x (stepD x d c).2 l).2)
theorem runD_app (x : Director) : ∀ (a b : List Cmd) (d : Dk), runD x d (a ++ b) = ((runD x d a).1 ++ (runD x (runD x d a).2 b).1, (runD x (runD x d a).2 b).2) := by
 intro a
 induction a with
 | nil => intro b d; rfl
 | cons c a ih => intro b d; simp only [List.cons_append, runD, ih]
theorem lenW_take (ws : List Wing) {m i : Nat} (h : i < m) : lenW (ws.take m) i = lenW ws i := by
 unfold lenW; rw [List.getElem?_take_of_lt h]
theorem paceW_take (ws : List Wing) (e : Int) {m i : Nat} (h : i < m) : paceW (ws.take m) e i = paceW ws e i := by
 unfold paceW; rw [List.getElem?_take_of_lt h]
theorem aheadL_take (ws : List Wing) {m : Nat} : ∀ (i : Nat) (far : Int), i ≤ m → aheadL (ws.take m) i far = aheadL ws i far := by
 intro i
 induction i with
 | zero => intro far _; rfl
 | succ i ih => intro far h; simp only [aheadL]; rw [lenW_take ws (by omega), ih _ (by omega)]
theorem aheadL_le (ws : List Wing) : ∀ (i : Nat) (far : Int) (p : Nat × Int), p ∈ aheadL ws i far → p.1 ≤ i := by
 intro i
 induction i with
 | zero => intro far p hp; simp [aheadL] at hp; subst hp; simp
 | succ i ih =>
  intro far p hp
  simp only [aheadL, List.mem_cons] at hp
  rcases hp with rfl | hp
  ·simp
  have := ih _ p hp; omega
theorem clearW_take (ws : List Wing) (st : List Int) (e : Int) (place : Int) {m i : Nat} (h : i < m) : clearW (ws.take m) st e i place = clearW ws st e i place := by
 simp only [clearW, passW]
 rw [lenW_take ws h, aheadL_take ws _ _ (by omega)]
 refine foldl_cong _ _ fun q p hp => ?_
 have := aheadL_le ws _ _ p hp
 unfold passOne
 rw [paceW_take ws e (by omega)]
theorem leastW_take (ws : List Wing) (st : List Int) {m : Nat} : ∀ {i : Nat}, i ≤ m → leastW (ws.take m) st i = leastW ws st i
 | 0, _ => rfl
 | k + 1, h => clearW_take ws st 0 0 (by omega)
theorem stW_take (st : List Int) {m i : Nat} (h : i < m) : stW (st.take m) i = stW st i := by
 unfold stW; rw [List.getElem?_take_of_lt h]
/-- Starts that say the same of the wings ahead. -/
theorem clearW_st {ws : List Wing} {a b : List Int} {e place : Int} {i : Nat} (h : ∀ j, j ≤ i → stW a j = stW b j) : clearW ws a e i place = clearW ws b e i place := by
 simp only [clearW, passW]
 rw [h i (Nat.le_refl _)]
 refine foldl_cong _ _ fun q p hp => ?_
 have := aheadL_le ws _ _ p hp
 unfold passOne
 rw [h p.1 (by omega)]
theorem leastW_st {ws : List Wing} {a b : List Int} : ∀ {i : Nat}, (∀ j, j < i → stW a j = stW b j) → leastW ws a i = leastW ws b i
 | 0, _ => rfl
 | k + 1, h => clearW_st fun j hj => h j (by omega)
theorem foldl_le {f g : Int → Nat × Int → Int} : ∀ (l : List (Nat × Int)) (m n : Int), m ≤ n → (∀ m n p, p ∈ l → m ≤ n → f m p ≤ g n p) → l.foldl f m ≤ l.foldl g n := by
 intro l
 induction l with
 | nil => intro m n h _; exact h
 | cons p l ih =>
  intro m n h k
  rw [List.foldl_cons, List.foldl_cons]
  exact ih _ _ (k m n p (List.mem_cons_self ..) h) fun m n q hq => k m n q (List.mem_cons_of_mem _ hq)
theorem leastW_le {ws : List Wing} {a b : List Int} : ∀ {i : Nat}, (∀ j, j < i → stW a j ≤ stW b j) → leastW ws a i ≤ leastW ws b i
 | 0, _ => Int.le_refl _
 | k + 1, h => by
  simp only [leastW, clearW, passW]
  refine foldl_le _ _ _ (h k (by omega)) fun m n p hp hmn => ?_
  have := aheadL_le ws _ _ p hp
  have := h p.1 (by omega)
  unfold passOne
  omega
theorem wgsErr_take : ∀ (l p : List Wing) (m : Nat), wgsErr p l = 0 → wgsErr p (l.take m) = 0 := by
 intro l
 induction l with
 | nil => intro p m h; simpa using h
 | cons x l ih =>
  intro p m h
  cases m with
  | zero => rfl
  | succ m =>
   simp only [wgsErr, List.take_succ_cons] at h ⊢
   split at h
   ·rename_i q; exact absurd h q
   rename_i q
   rw [if_neg q]
   exact ih _ m h
theorem chkS_take {s : School} {m : Nat} (h : chkS s = 0) (hm : 0 < m) : chkS (takeSch s m) = 0 := by
 have hV := shV_of h
 have h8 := hV.wl
 have hr := hV.rt
 unfold chkS at h
 rw [if_neg (by simp [inR]; omega), if_neg (by omega), if_neg (by omega)] at h
 have e : (takeSch s m).wings = s.wings.take m := rfl
 have e2 : (takeSch s m).route = s.route := rfl
 unfold chkS
 rw [if_neg (by rw [e2]; simp [inR]; omega), if_neg (by rw [e, List.length_take]; omega), if_neg (by rw [e, List.length_take]; omega), e]
 exact wgsErr_take _ _ m h
theorem okN_cut {s : School} {p : List Int} (h : OkN s p) {m : Nat} (hm : m ≤ p.length) : OkN (takeSch s m) (p.take m) := by
 have hl := h.le
 have e : (p.take m).length = m := by rw [List.length_take]; omega
 refine ⟨by simp only [takeSch, List.length_take]; omega, fun i hi => ?_, fun i hi => ?_⟩
 ·rw [stW_take p (by omega)]; exact h.bd i (by omega)
 rw [stW_take p (by omega)]
 simp only [takeSch]
 rw [leastW_take s.wings _ (by omega), leastW_st (b := p) fun j hj => stW_take p (by omega)]
 exact h.ge i (by omega)
def lsts (ws : List Wing) : Nat → List Int
 | 0 => []
 | k + 1 => lsts ws k ++ [leastW ws (lsts ws k) k]
theorem lsts_len (ws : List Wing) (k : Nat) : (lsts ws k).length = k := by
 induction k with
 | zero => rfl
 | succ k ih => simp [lsts, ih]
theorem leastsF_of {ws : List Wing} : ∀ (k j : Nat), (∀ i, i < j + k → leastW ws (lsts ws i) i ≤ 20000) → leastsF ws k (lsts ws j) = (lsts ws (j + k), 0) := by
 intro k
 induction k with
 | zero => intro j _; rfl
 | succ k ih =>
  intro j h
  simp only [leastsF, lsts_len]
  rw [if_neg (by have := h j (by omega); omega)]
  have := ih (j + 1) fun i hi => h i (by omega)
  rw [show j + 1 + k = j + (k + 1) by omega] at this
  exact this
theorem lsts_le {s : School} {p : List Int} (h : OkN s p) : ∀ k, k ≤ p.length → ∀ j, j < k → stW (lsts s.wings k) j ≤ stW p j := by
 intro k
 induction k with
 | zero => intro _ j hj; omega
 | succ k ih =>
  intro hk j hj
  simp only [lsts]
  rw [stW_snoc, lsts_len]
  split
  ·exact ih (by omega) j (by assumption)
  have : j = k := by omega
  subst this
  rw [if_pos rfl]
  exact Int.le_trans (leastW_le (ih (by omega))) (h.ge j (by omega))
theorem lsts_bd {s : School} {p : List Int} (h : OkN s p) {i : Nat} (hi : i < p.length) : leastW s.wings (lsts s.wings i) i ≤ 20000 := by
 have h1 := leastW_le (ws := s.wings) (lsts_le h i (by omega))
 have h2 := h.ge i hi
 have h3 := h.bd i hi
 omega
theorem leasts_cut {s : School} {p : List Int} (hc : chkS s = 0) (h : OkN s p) {m : Nat} (h0 : 0 < m) (hm : m ≤ p.length) : leastsS (takeSch s m) = (lsts (s.wings.take m) m, 0) := by
 have hl := h.le
 have e : (s.wings.take m).length = m := by rw [List.length_take]; omega
 unfold leastsS
 rw [if_neg (by rw [chkS_take hc h0]; simp)]
 have ho := okN_cut h hm
 have := leastsF_of (ws := s.wings.take m) m 0 fun i hi => lsts_bd ho (by rw [List.length_take]; omega)
 rw [Nat.zero_add] at this
 simp only [takeSch, e]
 exact this
theorem lsts_two {ws : List Wing} : ∀ {m : Nat}, 2 ≤ m → stW (lsts (ws.take m) 2) 1 = leastW ws [0] 1 := by
 intro m hm
 simp only [lsts, List.nil_append]
 rw [stW_snoc]
 simp only [List.length_cons, List.length_nil, Nat.lt_irrefl, if_false, if_true, leastW]
 exact clearW_take ws _ 0 0 (by omega)
theorem tryW_0 {s : School} {r : Rules} : ∀ (m : Nat) (now : List Int) (b : Best), stW now 0 = 0 → (b.starts = [] ∨ stW b.starts 0 = 0) → ((tryW s r m now b).starts = [] ∨ stW (tryW s r m now b).starts 0 = 0) := by
 intro m
 induction m with
 | zero =>
  intro now b h hb
  simp only [tryW, tryC]
  split
  ·exact hb
  split
  ·exact .inr h
  exact hb
 | succ m ih =>
  intro now b h hb
  simp only [tryW]
  refine foldl_v (Q := fun c => c.starts = [] ∨ stW c.starts 0 = 0) _ _ hb fun c k hk hc => ih _ _ ?_ hc
  rw [stW_snoc]
  split
  ·exact h
  rename_i h0
  have hn : now = [] := List.eq_nil_of_length_eq_zero (by omega)
  subst hn
  have := List.mem_range.1 hk
  simp [cntT, leastW] at this
  have hk0 : k = 0 := by omega
  subst hk0
  simp [leastW]
theorem plan_0 {s : School} {r : Rules} {st : List Int} {g : Int} (h : planA s r = ((st, g), 0)) : stW st 0 = 0 := by
 unfold planA at h
 split at h
 ·rename_i h1; simp only [Prod.mk.injEq] at h; exact absurd h.2 h1
 split at h
 ·simp only [Prod.mk.injEq] at h; exact absurd h.2 (by decide)
 split at h
 ·rename_i h3; simp only [Prod.mk.injEq] at h; exact absurd h.2 h3
 split at h
 ·simp only [Prod.mk.injEq] at h; exact absurd h.2 (by decide)
 rename_i h4
 simp only [Prod.mk.injEq] at h
 rcases tryW_0 (s := s) (r := r) s.wings.length [] ⟨[], 0⟩ rfl (.inl rfl) with h5 | h5
 ·exact absurd h5 h4
 rw [← h.1.1]; exact h5
theorem plan_err {s : School} {r : Rules} (h1 : chkS s = 0) (h2 : s.wings.length ≤ 5) (h3 : chkRu r = 0) : (planA s r).2 = 0 ∨ (planA s r).2 = 7 := by
 unfold planA
 rw [if_neg (by omega), if_neg (by omega), if_neg (by omega)]
 split
 ·exact .inr rfl
 exact .inl rfl
/-- May the second wing start a second before the plan's? -/
def early (ws : List Wing) (p : List Int) (i : Nat) : Bool := decide (i = 1) && (decide (leastW ws [0] 1 > 1) && decide (leastW ws [0] 1 - 1 > stW p 0))
def cmdI (ws : List Wing) (p : List Int) (z : Int) (i : Nat) : List Cmd := (if early ws p i then [.at (z + leastW ws [0] 1 - 1), .wing] else []) ++ [.at (z + stW p i), .wing]
def dueI (ws : List Wing) (p : List Int) (i : Nat) : List (List UInt8) := (if early ws p i then [okT, lineT errorT [12]] else []) ++ [okT, okT]
def cmdsN (ws : List Wing) (p : List Int) (z : Int) : Nat → List Cmd
 | 0 => []
 | k + 1 => cmdsN ws p z k ++ cmdI ws p z k
def dueN (ws : List Wing) (p : List Int) : Nat → List (List UInt8)
 | 0 => []
 | k + 1 => dueN ws p k ++ dueI ws p k
def stZ (z : Int) (p : List Int) (k : Nat) : List Int := (p.take k).map fun n => z + n
def secZ (z : Int) (p : List Int) : Nat → Int
 | 0 => 0
 | k + 1 => z + stW p k
structure GoodP (x : Director) (p : List Int) (z : Int) : Prop where
 hc : chkS x.school = 0
 hp : OkN x.school p
 hl : p.length = x.school.wings.length
 h0 : stW p 0 = 0
 hz : 0 ≤ z ∧ z ≤ 2000
section
variable {x : Director} {p : List Int} {z : Int}
theorem stZ_0 (g : GoodP x p z) {k : Nat} (h1 : 0 < k) (hk : k ≤ p.length) : stW (stZ z p k) 0 = z := by
 obtain ⟨hc, hp, hl, h0, hz⟩ := g
 unfold stZ stW
 rw [List.getElem?_map, List.getElem?_take_of_lt h1]
 unfold stW at h0
 rw [List.getElem?_eq_getElem (by omega)] at h0 ⊢
 simp only [Option.getD_some] at h0
 simp [h0]
theorem row_stZ (g : GoodP x p z) {k : Nat} (h1 : 0 < k) (hk : k ≤ p.length) : rowS (stZ z p k) = p.take k := by
 obtain ⟨hc, hp, hl, h0, hz⟩ := g
 unfold rowS
 rw [stZ_0 ⟨hc, hp, hl, h0, hz⟩ h1 hk]
 simp only [stZ, List.map_map]
 conv => rhs; rw [← List.map_id (p.take k)]
 refine List.map_congr_left fun n _ => ?_
 simp only [Function.comp, id]
 omega
theorem mono_p (g : GoodP x p z) {k : Nat} (hk : k + 1 < p.length) : stW p k ≤ stW p (k + 1) := by
 obtain ⟨hc, hp, hl, h0, hz⟩ := g
 have h1 := hp.ge (k + 1) hk
 have h2 := passW_ge (ws := x.school.wings) (st := p) (e := 0) k (0 + lenW x.school.wings k)
 simp only [leastW, clearW] at h1
 omega
theorem sec_le (g : GoodP x p z) {k : Nat} (hk : k < p.length) : secZ z p k ≤ z + stW p k := by
 obtain ⟨hc, hp, hl, h0, hz⟩ := g
 cases k with
 | zero => simp only [secZ]; omega
 | succ k => have := mono_p ⟨hc, hp, hl, h0, hz⟩ hk; simp only [secZ]; omega
theorem take_snoc (g : GoodP x p z) {k : Nat} (hk : k < p.length) : p.take k ++ [stW p k] = p.take (k + 1) := by
 obtain ⟨hc, hp, hl, h0, hz⟩ := g
 unfold stW
 rw [List.take_add_one, List.getElem?_eq_getElem hk]; rfl
theorem wing_at (g : GoodP x p z) {k : Nat} (hk : k < p.length) {t : Int} (ht : k = 0 → t = z) : rowS (stZ z p k) ++ [sinceS ⟨t, stZ z p k⟩] = p.take k ++ [t - z] := by
 obtain ⟨hc, hp, hl, h0, hz⟩ := g
 cases k with
 | zero => simp [stZ, rowS, sinceS, ht rfl]; done
 | succ k =>
  rw [row_stZ ⟨hc, hp, hl, h0, hz⟩ (by omega) (by omega)]
  unfold sinceS
  dsimp only
  rw [if_neg (by simp only [stZ, List.length_map, List.length_take]; omega), stZ_0 ⟨hc, hp, hl, h0, hz⟩ (by omega) (by omega)]
theorem len_stZ (g : GoodP x p z) {k : Nat} (hk : k ≤ p.length) : (stZ z p k).length = k := by
 obtain ⟨hc, hp, hl, h0, hz⟩ := g
 simp [stZ]; omega
theorem step_wing (g : GoodP x p z) {k : Nat} (hk : k < p.length) : stepD x ⟨z + stW p k, stZ z p k⟩ .wing = (okT, ⟨z + stW p k, stZ z p (k + 1)⟩) := by
 obtain ⟨hc, hp, hl, h0, hz⟩ := g
 have hw : wingE x ⟨z + stW p k, stZ z p k⟩ = 0 := by
  unfold wingE
  dsimp only
  rw [len_stZ ⟨hc, hp, hl, h0, hz⟩ (by omega), if_neg (by omega), wing_at ⟨hc, hp, hl, h0, hz⟩ hk (fun e => by subst e; omega)]
  rw [show z + stW p k - z = stW p k by omega, take_snoc ⟨hc, hp, hl, h0, hz⟩ hk]
  refine OkN.chk (chkS_take hc (by omega)) (okN_cut hp (by omega)) ?_
  simp only [takeSch, List.length_take]; omega
 simp only [stepD, hw]
 rw [if_neg (by simp)]
 have : stZ z p k ++ [z + stW p k] = stZ z p (k + 1) := by
  unfold stZ
  rw [← take_snoc ⟨hc, hp, hl, h0, hz⟩ hk, List.map_append]; rfl
 rw [this]
theorem step_at (g : GoodP x p z) {d : Dk} {n : Int} (h1 : d.sec ≤ n) (h2 : n ≤ 43199) : stepD x d (.at n) = (okT, ⟨n, d.st⟩) := by
 obtain ⟨hc, hp, hl, h0, hz⟩ := g
 simp only [stepD]; rw [if_pos ⟨h1, h2⟩]
theorem step_early (g : GoodP x p z) (h2 : 1 < p.length) (hl1 : leastW x.school.wings [0] 1 > 1) : stepD x ⟨z + leastW x.school.wings [0] 1 - 1, stZ z p 1⟩ .wing = (lineT errorT [12], ⟨z + leastW x.school.wings [0] 1 - 1, stZ z p 1⟩) := by
 obtain ⟨hc, hp, hl, h0, hz⟩ := g
 have hV := shV_of hc
 have hb : leastW x.school.wings [0] 1 ≤ 20000 := by
  have h3 := leastW_st (ws := x.school.wings) (a := [0]) (b := p) (i := 1) (fun j hj => by
   have : j = 0 := by omega
   subst this; rw [h0]; rfl)
  have := hp.ge 1 h2
  have := hp.bd 1 h2
  omega
 have hw : wingE x ⟨z + leastW x.school.wings [0] 1 - 1, stZ z p 1⟩ = 12 := by
  unfold wingE
  dsimp only
  rw [len_stZ ⟨hc, hp, hl, h0, hz⟩ (by omega), if_neg (by omega), wing_at ⟨hc, hp, hl, h0, hz⟩ h2 (fun e => by omega)]
  have e1 : p.take 1 = [0] := by
   cases p with
   | nil => simp at h2
   | cons a p => simp [stW] at h0; simp [h0]
  rw [e1, show z + leastW x.school.wings [0] 1 - 1 - z = leastW x.school.wings [0] 1 - 1 by omega]
  have hc2 := chkS_take (m := 2) hc (by omega)
  have e2 : leastW (x.school.wings.take 2) ([0] ++ [leastW x.school.wings [0] 1 - 1]) 1 = leastW x.school.wings [0] 1 := by
   rw [leastW_take _ _ (by omega)]
   exact leastW_snoc hV.wv (by simp)
  unfold chkSt
  rw [if_neg (by rw [hc2]; simp), if_neg (by simp [takeSch]; omega)]
  simp only [chkStF, List.cons_append, List.nil_append, takeSch]
  rw [if_neg (by simp [inR]), if_neg (by simp [leastW]), if_neg (by simp [inR]; omega), if_pos]
  simp only [List.cons_append, List.nil_append] at e2
  rw [Nat.zero_add, e2]; omega
 simp only [stepD, hw]
 rw [if_pos (by decide)]
 rfl
theorem run_cmds (g : GoodP x p z) : ∀ k, k ≤ p.length → runD x ⟨0, []⟩ (cmdsN x.school.wings p z k) = (dueN x.school.wings p k, ⟨secZ z p k, stZ z p k⟩) := by
 obtain ⟨hc, hp, hl, h0, hz⟩ := g
 intro k
 induction k with
 | zero => intro _; simp [cmdsN, runD, dueN, secZ, stZ]
 | succ k ih =>
  intro hk
  have hb := hp.bd k (by omega)
  have hs := sec_le ⟨hc, hp, hl, h0, hz⟩ (k := k) (by omega)
  simp only [cmdsN, dueN, runD_app, ih (by omega)]
  have tail : ∀ d : Dk, d.st = stZ z p k → d.sec ≤ z + stW p k → runD x d [.at (z + stW p k), .wing] = ([okT, okT], ⟨secZ z p (k + 1), stZ z p (k + 1)⟩) := fun d h1 h2 => by
   simp only [runD, step_at ⟨hc, hp, hl, h0, hz⟩ h2 (by omega), h1, step_wing ⟨hc, hp, hl, h0, hz⟩ (show k < p.length by omega), secZ]
  unfold cmdI dueI
  by_cases he : early x.school.wings p k = true
  ·rw [if_pos he, if_pos he, runD_app]
   simp only [early, Bool.and_eq_true, decide_eq_true_eq] at he
   obtain ⟨rfl, h1, h2⟩ := he
   have h3 := leastW_st (ws := x.school.wings) (a := [0]) (b := p) (i := 1) (fun j hj => by
    have : j = 0 := by omega
    subst this; rw [h0]; rfl)
   have h4 := hp.ge 1 (by omega)
   have e : runD x ⟨secZ z p 1, stZ z p 1⟩ [.at (z + leastW x.school.wings [0] 1 - 1), .wing] = ([okT, lineT errorT [12]], ⟨z + leastW x.school.wings [0] 1 - 1, stZ z p 1⟩) := by
    simp only [runD, step_at ⟨hc, hp, hl, h0, hz⟩ (d := ⟨secZ z p 1, stZ z p 1⟩) (n := z + leastW x.school.wings [0] 1 - 1) (by simp only [secZ]; omega) (by omega), step_early ⟨hc, hp, hl, h0, hz⟩ (by omega) h1]
   rw [e]
   dsimp only
   rw [tail _ rfl (by dsimp only; omega)]
  rw [if_neg he, if_neg he]
  simp only [List.nil_append]
  rw [tail _ rfl hs]
end
theorem takeSch_all {s : School} {k : Nat} (h : k = s.wings.length) : takeSch s k = s := by
 subst h; simp [takeSch]
/-- The whole script. -/
theorem run_plan {x : Director} {p : List Int} {g z : Int} (h : planA x.school x.rules = ((p, g), 0)) (hz : 0 ≤ z ∧ z ≤ 2000) :
 (runD x ⟨0, []⟩ (cmdsN x.school.wings p z p.length ++ [.lasts])).1 = dueN x.school.wings p p.length ++ [lineT sureT [(lastsW x.school p).1, (lastsW x.school p).2]] := by
 obtain ⟨h1, h2, h3, h4, h5⟩ := plan_ok h
 have h0 := plan_0 h
 have hp0 : 0 < p.length := List.length_pos_iff.2 h4
 rw [runD_app, run_cmds ⟨h1, h3.ok, h3.ln, h0, hz⟩ _ (Nat.le_refl _)]
 simp only [runD, stepD]
 rw [len_stZ ⟨h1, h3.ok, h3.ln, h0, hz⟩ (Nat.le_refl _), if_neg (by have := h3.ln; omega), takeSch_all h3.ln, row_stZ ⟨h1, h3.ok, h3.ln, h0, hz⟩ hp0 (Nat.le_refl _), List.take_length, plan_lasts h]
 rw [if_neg (by simp)]
 simp only [toldT, if_true]
 rw [wordsT_line _ _ (by decide)]
end Go.Proofs.YtpkkegbiddcodaaGreatDoor.Sd
namespace Go.Proofs.YtpkkegbiddcodaaGreatDoor
open Go Go.RowKit
set_option maxRecDepth 100000
theorem strPV_app (a b : ByteArray) : strPV (a ++ b) = strPV a ++ strPV b := by simp [strPV]
theorem strPV_ok (s : ByteArray) : okC 1 (strPV s) := by
 unfold okC
 rw [List.all_eq_true]
 intro q hq
 obtain ⟨x, _, rfl⟩ := List.mem_map.1 hq
 rfl
theorem appB (σ : Sg) {r : Nat} (B s : ByteArray) (hr : σ.rooms[r]? = some B.size) (hl : B.size + s.size ≤ 2 ^ 46) :
 appendAny Tryz.prog σ 143 9 (.bbuf (strPV B) r 5) (.str s) = some (.bbuf (strPV (B ++ s)) r 5, σ.setRoom r (B.size + s.size)) := by
 rw [appendAny_bbuf]
 unfold appendB bytesArg
 simp only [Tryz.underlying143, Tryz.underlying9]
 rw [if_pos ⟨trivial, cells5⟩, app143, strPV_len, appX_tok (strPV_ok s) hr (by rw [strPV_len, strPV_len]; omega)]
 simp only [Option.map_some, strPV_app, strPV_len]
theorem String_pc (Y : YEnv) (σ : Sg) {id r : Nat} (B : ByteArray) (hst : σ.store[id]? = some (some [.bself id 145, .bbuf (strPV B) r 5])) (hr : σ.rooms[r]? = some B.size) (h0 : 0 < B.size) (hl : B.size ≤ 2 ^ 46) :
 PC Tryz.prog Y 64 [.ptr id 0] σ (.str B) (σ.setRoom r (B.size + 1)) := by
 refine PC_of_calls (by kernel_rfl) fun Ψ vals w hs ha => ?_
 obtain ⟨x, rfl, hx⟩ := one_arg ha
 obtain ⟨b, hβ, hz, rfl⟩ := hx.ptr_inv
 obtain ⟨y, v, a1, hb, hy, hv⟩ := bld_at hs hst hβ
 have hBl : B.data.toList.length = B.size := by simp
 have hget : ∀ (j : Nat) (x : UInt8), B.data.toList[j]? = some x → (strPV B)[j]? = some (.int .u8 x.toNat) := fun j x h => by
  unfold strPV; rw [List.getElem?_map, h]; rfl
 have hpl := strPV_len B
 generalize hL : strPV B = L at *
 cases hv with
 | bbuf _ _ _ _ h ht =>
 cases h with
 | islnil _ _ _ => simp at hpl; omega
 | isl es _ _ g o cap vals hes k1 k2 hc ho =>
 obtain ⟨hes1, hh⟩ := ho
 subst hes1
 obtain ⟨rfl, hty⟩ := ht g o _ cap rfl (by omega)
 obtain ⟨_, cur, f, hcur, hcs⟩ := hs.szok _ _ hty
 rw [Nat.zero_add, Nat.zero_add, Nat.mul_one, Nat.mul_one, hpl] at hh
 have hat : ∀ (j : Nat) (x : UInt8), B.data.toList[j]? = some x → Ψ.imm g j = some (.int .u8 x.toNat) := fun j x hj => by
  have e1 := k1 j _ 0 (.int .u8 x.toNat) (hget j x hj) rfl
  have e2 := k2 j _ 0 (.int .u8 x.toNat) (hget j x hj) rfl
  rw [e2.int_inv] at e1
  rw [← e1]
  congr 1
  omega
 have hbb : w.heap[b]? = some (.cells #[y, .slice (some ⟨g, 0, none⟩) B.data.toList.length cap] 145 (0, 0)) := by rw [hb, hBl, hpl]
 refine (bldString b g y cap B.data.toList w (fun e => by rw [e] at hBl; simp at hBl; omega) hbb hcur (by rw [hBl]; omega) (by rw [hBl]; omega) (by rw [hBl]; omega) fun j x hj => hs.imm _ _ _ (hat j x hj)).mono ?_
 rintro e2 w2 ⟨rfl, rfl⟩
 rw [hBl]
 obtain ⟨Ψ', le, hs', hbel⟩ := hs.stringed hr hh hty (fun o ho => by
  have hlt : o < B.data.toList.length := by rw [hBl]; exact ho
  rw [hat o _ (List.getElem?_eq_getElem hlt)]
  simp) h0
 have e : (⟨B.data.toList.toArray⟩ : ByteArray) = B := by simp
 exact ⟨_, Ψ', rfl, le, hs', by rw [e]; exact .str B, hbel⟩
set_option maxHeartbeats 2000000 in
theorem WriteString_pc (Y : YEnv) (σ : Sg) {id r : Nat} (B s : ByteArray) (hst : σ.store[id]? = some (some [.bself id 145, .bbuf (strPV B) r 5])) (hr : σ.rooms[r]? = some B.size) (hl : B.size + s.size ≤ 2 ^ 46) :
 PC Tryz.prog Y 62 [.ptr id 0, .str s] σ (.tuple [I s.size, .niliface]) ((σ.setRoom r (B.size + s.size)).setVar id [.bself id 145, .bbuf (strPV (B ++ s)) r 5]) := by
 refine PC_of_W Tryz.func62 rfl (by kernel_rfl) Tryz.ntmps62 (by simp) fun hcl hca => ?_
 have hld : ldS σ id 1 = some (.bbuf (strPV B) r 5) := by simp [ldS, hst]
 have happ := appB σ B s hr hl
 have hsto : stX 1 (σ.setRoom r (B.size + s.size)) id 1 (.bbuf (strPV (B ++ s)) r 5) = some ((σ.setRoom r (B.size + s.size)).setVar id [.bself id 145, .bbuf (strPV (B ++ s)) r 5]) := by
  have : (σ.setRoom r (B.size + s.size)).store[id]? = some (some [.bself id 145, .bbuf (strPV B) r 5]) := hst
  unfold stX
  rw [this]
  rfl
 refine W_sr [0, 1] fun R hR => ?_
 simp only [go_sem, hld, happ, hsto, Nat.zero_add]
 refine hR _ _ ?_; clear hR R
 try simp only [go_sem, hld, happ, hsto, Nat.zero_add]
 refine W_sr [0, 1] fun R hR => ?_
 simp only [go_sem, hld, happ, hsto, Nat.zero_add]
 refine GCall_of (copyCheck_pc Y _ hst) ?_
 simp only [go_sem, hld, happ, hsto, Nat.zero_add]
 refine hR _ _ ?_; clear hR R
 try simp only [go_sem, hld, happ, hsto, Nat.zero_add]
 refine W_sr [1] fun R hR => ?_
 simp only [go_sem, hld, happ, hsto, Nat.zero_add]
 try simp (disch := (first | omega | (simp only [go_sem, List.length_append] <;> omega))) only [wrapI, wrapU, appX_exact, appX_tok, strAdd, slT, slTa, slTb]
 try simp only [go_sem, hld, happ, hsto, Nat.zero_add]
 refine hR _ _ ?_; clear hR R
 try simp only [go_sem, hld, happ, hsto, Nat.zero_add]
 refine W_sr [4, 5] fun R hR => ?_
 simp only [go_sem, hld, happ, hsto, Nat.zero_add]
 refine hR _ _ ?_; clear hR R
 try simp only [go_sem, hld, happ, hsto, Nat.zero_add]
 refine W_ret ?_
 simp only [go_sem, hld, happ, hsto, Nat.zero_add]
 refine ⟨.inr (by trivial), ?_⟩
 have hrl := (List.getElem?_eq_some_iff.1 hr).1
 have hcl2 := CleanSg_bld (n := B.size + s.size) (m := strPV s) hcl hst hrl strPV_clean
 rw [← strPV_app] at hcl2
 have e1 : ((σ.setRoom r (B.size + s.size)).setVar id [.bself id 145, .bbuf (strPV (B ++ s)) r 5]).store.length = σ.store.length := by simp [Sg.setVar, Sg.setRoom]
 have e2 : ((σ.setRoom r (B.size + s.size)).setVar id [.bself id 145, .bbuf (strPV (B ++ s)) r 5]).rooms.length = σ.rooms.length := by simp [Sg.setVar, Sg.setRoom]
 refine ⟨_, σ.store.length, σ.rooms.length, rfl, Nat.le_refl _, Nat.le_refl _, Wk_eq ?_ (by simp only [go_sem]), ?_, ?_, rfl⟩
 rotate_left
 ·simp only [Sg.cut, Sg.setVar, Sg.setRoom]
  rw [List.take_of_length_le (l := σ.store.set _ _) (by simp), List.take_of_length_le (l := σ.rooms.set _ _) (by simp), List.take_of_length_le (l := σ.ys) (Nat.le_refl _)]
 ·have := hcl2; unfold CleanSg at this; rw [e1, e2] at this; exact this
 try simp only [go_sem]
 all_goals
  first | rfl | simp
open Go Go.RowKit Go.Shelf
def lays146_ren : Go.Shelf.Ren := ⟨fun | 146 => 65 | 221 => 121 | 268 => 184 | 138 => 114 | 143 => 175 | 195 => 173 | 197 => 211 | 218 => 174 | 219 => 225 | 260 => 259 | 217 => 268 | 225 => 269 | 224 => 270 | 267 => 271 | 266 => 314 | 314 => 315 | n => n, fun | 9 => 9 | 31 => 52 | 3 => 3 | 4 => 4 | 0 => 0 | 105 => 323 | 21 => 21 | 5 => 5 | 46 => 119 | 119 => 385 | 139 => 388 | 138 => 387 | 146 => 391 | 51 => 353 | n => n, fun | 1 => 0 | 3 => 5 | 4 => 6 | n => n⟩
theorem lays146 : Lays.n146 Tryz.prog lays146_ren where
 mixed := by kernel_rfl
 f138 := Tryz.func114.trans (congrArg some (by kernel_rfl))
 f143 := Tryz.func175.trans (congrArg some (by kernel_rfl))
 f146 := Tryz.func65.trans (congrArg some (by kernel_rfl))
 f195 := Tryz.func173.trans (congrArg some (by kernel_rfl))
 f197 := Tryz.func211.trans (congrArg some (by kernel_rfl))
 f217 := Tryz.func268.trans (congrArg some (by kernel_rfl))
 f218 := Tryz.func174.trans (congrArg some (by kernel_rfl))
 f219 := Tryz.func225.trans (congrArg some (by kernel_rfl))
 f221 := Tryz.func121.trans (congrArg some (by kernel_rfl))
 f224 := Tryz.func270.trans (congrArg some (by kernel_rfl))
 f225 := Tryz.func269.trans (congrArg some (by kernel_rfl))
 f260 := Tryz.func259.trans (congrArg some (by kernel_rfl))
 f266 := Tryz.func314.trans (congrArg some (by kernel_rfl))
 f267 := Tryz.func271.trans (congrArg some (by kernel_rfl))
 f268 := Tryz.func184.trans (congrArg some (by kernel_rfl))
 f314 := Tryz.func315.trans (congrArg some (by kernel_rfl))
 t0 := Tryz.underlying0
 a0 := Tryz.isAgg0
 z0 := Tryz.sizeOf0
 v0 := Tryz.zeroValue0
 t3 := Tryz.underlying3
 a3 := Tryz.isAgg3
 z3 := Tryz.sizeOf3
 v3 := Tryz.zeroValue3
 t4 := Tryz.underlying4
 a4 := Tryz.isAgg4
 z4 := Tryz.sizeOf4
 v4 := Tryz.zeroValue4
 t5 := Tryz.underlying5
 a5 := Tryz.isAgg5
 z5 := Tryz.sizeOf5
 v5 := Tryz.zeroValue5
 t9 := Tryz.underlying9
 a9 := Tryz.isAgg9
 z9 := Tryz.sizeOf9
 v9 := Tryz.zeroValue9
 t21 := Tryz.underlying21
 a21 := Tryz.isAgg21
 z21 := Tryz.sizeOf21
 v21 := Tryz.zeroValue21
 t31 := Tryz.underlying52
 a31 := Tryz.isAgg52
 z31 := Tryz.sizeOf52
 v31 := Tryz.zeroValue52
 t46 := Tryz.underlying119
 a46 := Tryz.isAgg119
 z46 := Tryz.sizeOf119
 v46 := Tryz.zeroValue119
 t51 := Tryz.underlying353
 a51 := Tryz.isAgg353
 z51 := Tryz.sizeOf353
 v51 := Tryz.zeroValue353
 t105 := Tryz.underlying323
 a105 := Tryz.isAgg323
 z105 := Tryz.sizeOf323
 v105 := Tryz.zeroValue323
 t119 := Tryz.underlying385
 a119 := Tryz.isAgg385
 z119 := Tryz.sizeOf385
 t138 := Tryz.underlying387
 a138 := Tryz.isAgg387
 z138 := Tryz.sizeOf387
 v138 := Tryz.zeroValue387
 t139 := Tryz.underlying388
 a139 := Tryz.isAgg388
 z139 := Tryz.sizeOf388
 v139 := Tryz.zeroValue388
 t146 := Tryz.underlying391
 a146 := Tryz.isAgg391
 z146 := Tryz.sizeOf391
 v146 := Tryz.zeroValue391
 g1 := by kernel_rfl
 g3 := by kernel_rfl
 g4 := by kernel_rfl
def lays172_ren : Go.Shelf.Ren := ⟨fun | 172 => 73 | 244 => 126 | 245 => 127 | 247 => 190 | 279 => 191 | 280 => 192 | 281 => 193 | 282 => 194 | 287 => 251 | 316 => 252 | 171 => 51 | 205 => 253 | 321 => 305 | 322 => 306 | 243 => 105 | 246 => 163 | 283 => 219 | 284 => 220 | 285 => 221 | 286 => 222 | 129 => 264 | 317 => 263 | 318 => 265 | 319 => 266 | 320 => 267 | 337 => 312 | 338 => 313 | n => n, fun | 9 => 9 | 3 => 3 | 75 => 148 | 76 => 149 | 4 => 4 | 5 => 5 | 167 => 296 | 37 => 143 | 0 => 0 | 85 => 297 | 2 => 2 | 168 => 299 | 53 => 98 | 175 => 343 | 46 => 119 | 210 => 346 | 127 => 224 | 145 => 382 | 143 => 380 | 21 => 21 | 171 => 333 | 173 => 336 | 212 => 352 | 51 => 353 | 20 => 20 | 213 => 354 | 232 => 408 | 233 => 409 | 80 => 153 | n => n, fun | 15 => 1 | 16 => 2 | 17 => 3 | 18 => 7 | 19 => 8 | n => n⟩
theorem lays172 : LaysC.n172 Tryz.prog lays172_ren where
 mixed := by kernel_rfl
 f129 := Tryz.func264.trans (congrArg some (by kernel_rfl))
 f171 := Tryz.func51.trans (congrArg some (by kernel_rfl))
 f172 := Tryz.func73.trans (congrArg some (by kernel_rfl))
 f205 := Tryz.func253.trans (congrArg some (by kernel_rfl))
 f243 := Tryz.func105.trans (congrArg some (by kernel_rfl))
 f244 := Tryz.func126.trans (congrArg some (by kernel_rfl))
 f245 := Tryz.func127.trans (congrArg some (by kernel_rfl))
 f246 := Tryz.func163.trans (congrArg some (by kernel_rfl))
 f247 := Tryz.func190.trans (congrArg some (by kernel_rfl))
 f279 := Tryz.func191.trans (congrArg some (by kernel_rfl))
 f280 := Tryz.func192.trans (congrArg some (by kernel_rfl))
 f281 := Tryz.func193.trans (congrArg some (by kernel_rfl))
 f282 := Tryz.func194.trans (congrArg some (by kernel_rfl))
 f283 := Tryz.func219.trans (congrArg some (by kernel_rfl))
 f284 := Tryz.func220.trans (congrArg some (by kernel_rfl))
 f285 := Tryz.func221.trans (congrArg some (by kernel_rfl))
 f286 := Tryz.func222.trans (congrArg some (by kernel_rfl))
 f287 := Tryz.func251.trans (congrArg some (by kernel_rfl))
 f316 := Tryz.func252.trans (congrArg some (by kernel_rfl))
 f317 := Tryz.func263.trans (congrArg some (by kernel_rfl))
 f318 := Tryz.func265.trans (congrArg some (by kernel_rfl))
 f319 := Tryz.func266.trans (congrArg some (by kernel_rfl))
 f320 := Tryz.func267.trans (congrArg some (by kernel_rfl))
 f321 := Tryz.func305.trans (congrArg some (by kernel_rfl))
 f322 := Tryz.func306.trans (congrArg some (by kernel_rfl))
 f337 := Tryz.func312.trans (congrArg some (by kernel_rfl))
 f338 := Tryz.func313.trans (congrArg some (by kernel_rfl))
 t0 := Tryz.underlying0
 a0 := Tryz.isAgg0
 z0 := Tryz.sizeOf0
 v0 := Tryz.zeroValue0
 t2 := Tryz.underlying2
 a2 := Tryz.isAgg2
 z2 := Tryz.sizeOf2
 v2 := Tryz.zeroValue2
 t3 := Tryz.underlying3
 a3 := Tryz.isAgg3
 z3 := Tryz.sizeOf3
 v3 := Tryz.zeroValue3
 t4 := Tryz.underlying4
 a4 := Tryz.isAgg4
 z4 := Tryz.sizeOf4
 v4 := Tryz.zeroValue4
 t5 := Tryz.underlying5
 a5 := Tryz.isAgg5
 z5 := Tryz.sizeOf5
 v5 := Tryz.zeroValue5
 t9 := Tryz.underlying9
 a9 := Tryz.isAgg9
 z9 := Tryz.sizeOf9
 v9 := Tryz.zeroValue9
 t20 := Tryz.underlying20
 a20 := Tryz.isAgg20
 z20 := Tryz.sizeOf20
 v20 := Tryz.zeroValue20
 t21 := Tryz.underlying21
 a21 := Tryz.isAgg21
 z21 := Tryz.sizeOf21
 v21 := Tryz.zeroValue21
 t37 := Tryz.underlying143
 a37 := Tryz.isAgg143
 z37 := Tryz.sizeOf143
 v37 := Tryz.zeroValue143
 t46 := Tryz.underlying119
 a46 := Tryz.isAgg119
 z46 := Tryz.sizeOf119
 v46 := Tryz.zeroValue119
 t51 := Tryz.underlying353
 a51 := Tryz.isAgg353
 z51 := Tryz.sizeOf353
 v51 := Tryz.zeroValue353
 t53 := Tryz.underlying98
 a53 := Tryz.isAgg98
 z53 := Tryz.sizeOf98
 v53 := Tryz.zeroValue98
 t75 := Tryz.underlying148
 a75 := Tryz.isAgg148
 z75 := Tryz.sizeOf148
 v75 := Tryz.zeroValue148
 t76 := Tryz.underlying149
 a76 := Tryz.isAgg149
 z76 := Tryz.sizeOf149
 v76 := Tryz.zeroValue149
 t85 := Tryz.underlying297
 a85 := Tryz.isAgg297
 z85 := Tryz.sizeOf297
 v85 := Tryz.zeroValue297
 t127 := Tryz.underlying224
 a127 := Tryz.isAgg224
 z127 := Tryz.sizeOf224
 v127 := Tryz.zeroValue224
 t143 := Tryz.underlying380
 a143 := Tryz.isAgg380
 z143 := Tryz.sizeOf380
 v143 := Tryz.zeroValue380
 t145 := Tryz.underlying382
 a145 := Tryz.isAgg382
 z145 := Tryz.sizeOf382
 v145 := Tryz.zeroValue382
 t167 := Tryz.underlying296
 a167 := Tryz.isAgg296
 z167 := Tryz.sizeOf296
 v167 := Tryz.zeroValue296
 t168 := Tryz.underlying299
 a168 := Tryz.isAgg299
 z168 := Tryz.sizeOf299
 v168 := Tryz.zeroValue299
 t171 := Tryz.underlying333
 a171 := Tryz.isAgg333
 z171 := Tryz.sizeOf333
 v171 := Tryz.zeroValue333
 t173 := Tryz.underlying336
 a173 := Tryz.isAgg336
 z173 := Tryz.sizeOf336
 v173 := Tryz.zeroValue336
 t175 := Tryz.underlying343
 a175 := Tryz.isAgg343
 z175 := Tryz.sizeOf343
 v175 := Tryz.zeroValue343
 t210 := Tryz.underlying346
 a210 := Tryz.isAgg346
 z210 := Tryz.sizeOf346
 v210 := Tryz.zeroValue346
 t212 := Tryz.underlying352
 a212 := Tryz.isAgg352
 z212 := Tryz.sizeOf352
 v212 := Tryz.zeroValue352
 t213 := Tryz.underlying354
 a213 := Tryz.isAgg354
 z213 := Tryz.sizeOf354
 t232 := Tryz.underlying408
 a232 := Tryz.isAgg408
 z232 := Tryz.sizeOf408
 v232 := Tryz.zeroValue408
 t233 := Tryz.underlying409
 a233 := Tryz.isAgg409
 z233 := Tryz.sizeOf409
 v233 := Tryz.zeroValue409
 g15 := by kernel_rfl
 g16 := by kernel_rfl
 g17 := by kernel_rfl
 g18 := by kernel_rfl
 g19 := by kernel_rfl
 t80 := Tryz.underlying153
 a80 := Tryz.isAgg153
 z80 := Tryz.sizeOf153
 v80 := Tryz.zeroValue153
 i0 := by kernel_rfl
 i2 := by kernel_rfl
 i3 := by kernel_rfl
 i4 := by kernel_rfl
 i5 := by kernel_rfl
 i9 := by kernel_rfl
 i20 := by kernel_rfl
 i21 := by kernel_rfl
 i37 := by kernel_rfl
 i46 := by kernel_rfl
 i51 := by kernel_rfl
 i53 := by kernel_rfl
 i75 := by kernel_rfl
 i76 := by kernel_rfl
 i80 := by kernel_rfl
 i85 := by kernel_rfl
 i127 := by kernel_rfl
 i143 := by kernel_rfl
 i145 := by kernel_rfl
 i167 := by kernel_rfl
 i168 := by kernel_rfl
 i171 := by kernel_rfl
 i173 := by kernel_rfl
 i175 := by kernel_rfl
 i210 := by kernel_rfl
 i212 := by kernel_rfl
 i232 := by kernel_rfl
 i233 := by kernel_rfl
 m15 := by kernel_rfl
 m16 := by kernel_rfl
 m17 := by kernel_rfl
 m18 := by kernel_rfl
 m19 := by kernel_rfl
 c0 := by kernel_rfl
 c2 := by kernel_rfl
 c3 := by kernel_rfl
 c4 := by kernel_rfl
 c5 := by kernel_rfl
 c9 := by kernel_rfl
 c20 := by kernel_rfl
 c21 := by kernel_rfl
 c37 := by kernel_rfl
 c46 := by kernel_rfl
 c51 := by kernel_rfl
 c53 := by kernel_rfl
 c75 := by kernel_rfl
 c76 := by kernel_rfl
 c80 := by kernel_rfl
 c85 := by kernel_rfl
 c127 := by kernel_rfl
 c143 := by kernel_rfl
 c145 := by kernel_rfl
 c167 := by kernel_rfl
 c168 := by kernel_rfl
 c171 := by kernel_rfl
 c173 := by kernel_rfl
 c175 := by kernel_rfl
 c210 := by kernel_rfl
 c212 := by kernel_rfl
 c213 := by kernel_rfl
 c232 := by kernel_rfl
 c233 := by kernel_rfl
theorem two_arg {Ψ : Ty} {p q : PV} {vals : Array Value} (ha : VRs Ψ [p, q] vals) : ∃ x y, vals = #[x, y] ∧ VR Ψ p x ∧ VR Ψ q y := by
 have := ha.1
 match vals, this with
 | ⟨[x, y]⟩, _ => exact ⟨x, y, rfl, ha.2 0 _ _ rfl rfl, ha.2 1 _ _ rfl rfl⟩
theorem Split_pc (Y : YEnv) (σ : Sg) (l : List UInt8) (b : UInt8) (hl : l.length < 4294967281) :
 PC Tryz.prog Y 65 [.str ⟨l.toArray⟩, .str ⟨#[b]⟩] σ (.isl ((splitL b l).map txt) .exact) σ := by
 refine PC_of_callsG (by kernel_rfl) fun Ψ vals w hs ha hG => ?_
 obtain ⟨x, y, rfl, hx, hy⟩ := two_arg ha
 obtain rfl := hx.str_inv
 obtain rfl := hy.str_inv
 have hgn : Tryz.prog.globalNamed "internal/bytealg.MaxLen" = some 0 := by kernel_rfl
 obtain ⟨m, hm⟩ := hG.max 0 hgn
 have hm' := hs.imm _ _ _ hm
 have hsz : (⟨l.toArray⟩ : ByteArray).size = l.length := by simp [ByteArray.size]
 refine (Any.strings_Split lays146 (by kernel_rfl) ⟨l.toArray⟩ ⟨#[b]⟩ m w (by rw [hsz]; exact hl) hm' (Nat.le_refl 1)).mono ?_
 rintro e2 w2 ⟨rfl, rfl⟩
 have hsp := splitB_one b ⟨l.toArray⟩
 have hdl : (⟨l.toArray⟩ : ByteArray).data.toList = l := by simp
 rw [hdl] at hsp
 have hlen := Lib.splitB_all ⟨#[b]⟩ (Nat.le_refl 1) 0 _ (⟨l.toArray⟩ : ByteArray) rfl
 have hln : ((splitL b l).map txt).length = Lib.countB ⟨l.toArray⟩ ⟨#[b]⟩ + 1 := by
  rw [List.length_map, ← hsp, List.length_map, hlen]
 obtain ⟨Ψ', le, hs', hv⟩ := hs.newSlice (es := 1) (l := (splitL b l).map txt) (C := ((Lib.splitB ⟨#[b]⟩ 0 (Lib.countB ⟨l.toArray⟩ ⟨#[b]⟩) ⟨l.toArray⟩).map Value.string).toArray) 9 (fun k e hk => by
  obtain ⟨p, _, rfl⟩ := List.mem_map.1 (List.mem_of_getElem? hk)
  rfl) (fun k e j p hk hj => by
  rw [← hsp, List.map_map, List.getElem?_map, Option.map_eq_some_iff] at hk
  obtain ⟨q, hq, rfl⟩ := hk
  obtain ⟨rfl, rfl⟩ := one_get hj
  refine ⟨.string q, by simp [hq], ?_⟩
  have : (⟨q.data.toList.toArray⟩ : ByteArray) = q := by simp
  show VR Ψ (.str ⟨q.data.toList.toArray⟩) _
  rw [this]
  exact .str q)
 rw [hln] at hv
 exact ⟨_, Ψ', rfl, le, hs', hv, (Below.refl _ _).alloc hs.base _⟩
/-- A builder's cells. -/
def bldC (id r : Nat) (b : List UInt8) : List PV := [.bself id 145, .bbuf (strPV ⟨b.toArray⟩) r 5]
theorem app_txt (a b : List UInt8) : (⟨a.toArray⟩ : ByteArray) ++ ⟨b.toArray⟩ = ⟨(a ++ b).toArray⟩ := by
 try (apply ByteArray.ext)
 simp [ByteArray.data_append]
theorem zeroB : zeroPV Tryz.prog 145 = some [.nilptr, .isl [] .exact] := by kernel_rfl
section
variable {σ : Sg} {L : List (Option (List PV))} {rm : List Nat} {ys : List LState} {j k : Nat} {b s : List UInt8}
theorem rooms_at (k : Nat) : (σ.ext L rm ys).rooms[σ.rooms.length + k]? = rm[k]? := by
 show (σ.rooms ++ rm)[σ.rooms.length + k]? = _
 rw [List.getElem?_append_right (by omega)]
 congr 1; omega
theorem WriteT_pc (Y : YEnv) (h : L[j]? = some (some (bldC (σ.store.length + j) (σ.rooms.length + k) b))) (hr : rm[k]? = some b.length) (hl : b.length + s.length ≤ 2 ^ 46) :
 PC Tryz.prog Y 62 [.ptr (σ.store.length + j) 0, txt s] (σ.ext L rm ys) (.tuple [I s.length, .niliface]) (σ.ext (L.set j (some (bldC (σ.store.length + j) (σ.rooms.length + k) (b ++ s)))) (rm.set k (b.length + s.length)) ys) := by
 have h1 := WriteString_pc Y (σ.ext L rm ys) (id := σ.store.length + j) (r := σ.rooms.length + k) ⟨b.toArray⟩ ⟨s.toArray⟩ (by rw [Sg.get_ext]; exact h) (by rw [rooms_at, hr, size_txt]) (by rw [size_txt, size_txt]; exact hl)
 rw [size_txt, size_txt, Sg.setRoom_ext, setVar_ext, app_txt] at h1
 exact h1
theorem StringT_pc (Y : YEnv) (h : L[j]? = some (some (bldC (σ.store.length + j) (σ.rooms.length + k) b))) (hr : rm[k]? = some b.length) (h0 : 0 < b.length) (hl : b.length ≤ 2 ^ 46) :
 PC Tryz.prog Y 64 [.ptr (σ.store.length + j) 0] (σ.ext L rm ys) (txt b) (σ.ext L (rm.set k (b.length + 1)) ys) := by
 have h1 := String_pc Y (σ.ext L rm ys) (id := σ.store.length + j) (r := σ.rooms.length + k) ⟨b.toArray⟩ (by rw [Sg.get_ext]; exact h) (by rw [rooms_at, hr, size_txt]) (by rw [size_txt]; exact h0) (by rw [size_txt]; exact hl)
 rw [size_txt, Sg.setRoom_ext] at h1
 exact h1
end
theorem Cl_bself {a b c id t : Nat} : Clean a b c (.bself id t) = (id < a) := propext ⟨fun h => by cases h; assumption, fun h => .bself _ _ h⟩
theorem Cl_bbufS {a b c r t : Nat} {s : ByteArray} : Clean a b c (.bbuf (strPV s) r t) = (r < b) := propext ⟨fun h => by
 cases h with
 | bbuf _ _ _ hh =>
 cases hh with
 | isl _ _ _ hlt => exact hlt r _ 1 rfl, fun h => .bbuf _ _ _ (.isl _ _ (fun e he => strPV_clean e he) fun r' n es e => by injection e with e _ _; omega)⟩
attribute [go_sem] Cl_bself Cl_bbufS
end Go.Proofs.YtpkkegbiddcodaaGreatDoor
namespace Go.Proofs.YtpkkegbiddcodaaGreatDoor.Sd
open Go Go.RowKit Pa Ni
set_option maxRecDepth 100000
def FitsI (l : List Int) : Prop := ∀ n, n ∈ l → -9223372036854775808 ≤ n ∧ n ≤ 9223372036854775807
set_option maxHeartbeats 2000000 in
theorem words_pc (Y : YEnv) (σ : Sg) (w : List UInt8) (ns : List Int) (o : Own) (hw : w.length ≤ 2 ^ 40) (hl : ns.length ≤ 2 ^ 30) (hv : FitsI ns) :
 PC Tryz.prog Y 244 [txt w, .isl (ns.map I) o] σ (txt (wordsT w ns)) (σ) := by
 refine PC_of_W Tryz.func244 rfl (by kernel_rfl) Tryz.ntmps244 (by simp) fun hcl hca => ?_
 obtain ⟨res, hres⟩ : ∃ r, wordsT w ns = r := ⟨_, rfl⟩
 rw [hres]
 refine W_sr [0, 1] fun R hR => ?_
 simp only [go_sem]
 refine hR _ _ ?_; clear hR R
 try simp only [go_sem]
 refine W_seq fun Z2 K2 => ?_
 refine W_sr [0, 7, 8, 9] fun R hR => ?_
 simp only [go_sem]
 refine hR _ _ ?_; clear hR R
 try simp only [go_sem]
 refine W_block ?_
 refine W_loopS (α := Nat × (List UInt8)) (fun ⟨i, acc⟩ => [(0, txt acc), (9, I i)]) (fun ⟨i, acc⟩ => i ≤ ns.length ∧ wordsT acc (ns.drop i) = res ∧ acc.length ≤ w.length + 22 * i) (fun ⟨i, acc⟩ => ns.length - i) ((0, w)) rfl (⟨Nat.zero_le _, hres, by omega⟩) ?_
 rintro ⟨i, acc⟩ ⟨hi, hinv, hal⟩
 refine W_sr [0, 7, 8, 9, 10] fun R hR => ?_
 simp only [go_sem]
 refine hR _ _ ?_; clear hR R
 try simp only [go_sem]
 refine W_seq fun Z5 K5 => ?_
 refine W_cond rfl (fun c1 => ?_) (fun c1 => ?_)
 ·
  try simp only [nrm] at c1
  have hi' : i < ns.length := by first | assumption | omega
  obtain ⟨n, hx⟩ : ∃ n, ns[i]? = some n := ⟨ns[i], by simp [hi']⟩
  have hdrop : ns.drop i = n :: ns.drop (i + 1) := by
   rw [List.drop_eq_getElem_cons hi']; congr 1; exact (List.getElem?_eq_some_iff.1 hx).2
  have hnv := hv n (List.mem_of_getElem? hx)
  have hnl := Lib.itoa_length_le n hnv.1 hnv.2
  rw [hdrop] at hinv
  simp only [wordsT] at hinv
  refine W_skip (K5 _ _ ?_)
  refine W_seq fun Z6 K6 => ?_
  refine W_block ?_
  refine W_sr [0, 6, 7, 8, 9] fun R hR => ?_
  simp only [go_sem, hx]
  refine hR _ _ ?_; clear hR R
  try simp only [go_sem, hx]
  refine W_seq fun Z8 K8 => ?_
  refine W_sr [0, 6, 7, 8, 9, 14] fun R hR => ?_
  simp only [go_sem, hx]
  refine hR _ _ ?_; clear hR R
  try simp only [go_sem, hx]
  refine W_cond rfl (fun c2 => ?_) (fun c2 => ?_)
  ·
   try simp only [nrm] at c2
   refine W_region [0, 6, 7, 8, 9] fun R hR => ?_
   simp only [go_sem, hx]
   try simp (disch := (first | omega | (simp only [go_sem, List.length_append] <;> omega))) only [wrapI, wrapU, appX_exact, appX_tok, strAdd, slT, slTa, slTb]
   try simp only [go_sem, hx]
   refine hR _ _ (K8 _ _ ?_); clear hR R; try clear K8 Z8
   try simp only [go_sem, hx]
   refine W_region [0, 7, 8, 9] fun R hR => ?_
   simp only [go_sem, hx]
   refine GCall_of (Itoa_pc Y _ n hnv.1 hnv.2) ?_
   simp only [go_sem, hx]
   try simp (disch := (first | omega | (simp only [go_sem, List.length_append] <;> omega))) only [wrapI, wrapU, appX_exact, appX_tok, strAdd, slT, slTa, slTb]
   try simp only [go_sem, hx]
   refine hR _ _ (K6 _ _ ?_); clear hR R; try clear K6 Z6
   try simp only [go_sem, hx]
   refine W_region [0, 7, 8, 9] fun R hR => ?_
   simp only [go_sem, hx]
   try simp (disch := (first | omega | (simp only [go_sem, List.length_append] <;> omega))) only [wrapI, wrapU, strAdd, slT, slTa, slTb]
   refine hR _ _ ?_; clear hR R
   try simp only [go_sem, hx]
   refine ⟨(i + 1, acc ++ 32 :: Lib.itoa n), ?_, by (try simp only []); omega, ?_⟩
   ·refine Weak.eq (by simp only [List.append_assoc, List.cons_append, List.nil_append]; first | done | rfl) rfl
   try dsimp only
   rw [if_neg (by simpa using c2)] at hinv
   exact ⟨hi', hinv, by simp only [List.length_append, List.length_cons]; omega⟩
  try simp only [nrm] at c2
  refine W_skip (K8 _ _ ?_)
  refine W_region [0, 7, 8, 9] fun R hR => ?_
  simp only [go_sem, hx]
  refine GCall_of (Itoa_pc Y _ n hnv.1 hnv.2) ?_
  simp only [go_sem, hx]
  try simp (disch := (first | omega | (simp only [go_sem, List.length_append] <;> omega))) only [wrapI, wrapU, appX_exact, appX_tok, strAdd, slT, slTa, slTb]
  try simp only [go_sem, hx]
  refine hR _ _ (K6 _ _ ?_); clear hR R; try clear K6 Z6
  try simp only [go_sem, hx]
  refine W_region [0, 7, 8, 9] fun R hR => ?_
  simp only [go_sem, hx]
  try simp (disch := (first | omega | (simp only [go_sem, List.length_append] <;> omega))) only [wrapI, wrapU, strAdd, slT, slTa, slTb]
  refine hR _ _ ?_; clear hR R
  try simp only [go_sem, hx]
  refine ⟨(i + 1, Lib.itoa n), ?_, by (try simp only []); omega, ?_⟩
  ·have hae : acc = [] := by simpa using c2
   subst hae
   refine Weak.eq (by simp only [List.nil_append]; first | done | rfl) rfl
  try dsimp only
  have hae : acc = [] := by simpa using c2
  rw [if_pos hae] at hinv
  exact ⟨hi', hinv, by omega⟩
 try simp only [nrm] at c1
 have hdrop : ns.drop i = [] := List.drop_eq_nil_of_le (by omega)
 rw [hdrop] at hinv
 simp only [wordsT] at hinv
 refine W_exit ?_
 simp only [go_sem]
 refine K2 _ _ ?_
 refine W_sr [4] fun R hR => ?_
 simp only [go_sem]
 refine hR _ _ ?_; clear hR R
 try simp only [go_sem]
 refine W_ret ?_
 simp only [go_sem]
 refine ⟨.inr (by trivial), ?_⟩
 first | refine Fsa hcl rfl ?_ | refine Fse hcl rfl ?_
 try simp only [go_sem]
 all_goals
  first | rw [hinv] | rfl
set_option maxHeartbeats 2000000 in
theorem refusal_pc (Y : YEnv) (σ : Sg) (e : Int) (h0 : -9223372036854775808 ≤ e) (h1 : e ≤ 9223372036854775807) :
 PC Tryz.prog Y 181 [I e] σ (txt (errT e)) (σ) := by
 refine PC_of_W Tryz.func181 rfl (by kernel_rfl) Tryz.ntmps181 (by simp) fun hcl hca => ?_
 refine W_sr [0] fun R hR => ?_
 simp only [go_sem]
 refine hR _ _ ?_; clear hR R
 try simp only [go_sem]
 refine W_sr [2] fun R hR => ?_
 simp only [go_sem]
 refine GCall_of (PC.val (v' := txt (errT e)) (words_pc Y _ errorT [e] _ (by simp [errorT]) (by simp) (fun n hn => by simp at hn; subst hn; exact ⟨h0, h1⟩)) rfl) ?_
 simp only [go_sem]
 refine hR _ _ ?_; clear hR R
 try simp only [go_sem]
 refine W_ret ?_
 simp only [go_sem]
 refine ⟨.inr (by trivial), ?_⟩
 first | refine Fsa hcl rfl ?_ | refine Fse hcl rfl ?_
 try simp only [go_sem]
 all_goals
  first | rfl | (simp_all; done) | (simp_all; omega)
set_option maxHeartbeats 2000000 in
theorem Line_pc (Y : YEnv) (σ : Sg) (w : List UInt8) (ns : List Int) (o : Own) (hw : w.length ≤ 2 ^ 40) (hl : ns.length ≤ 2 ^ 30) (hv : FitsI ns) :
 PC Tryz.prog Y 13 [txt w, .isl (ns.map I) o] σ (txt (lineT w ns)) (σ) := by
 refine PC_of_W Tryz.func13 rfl (by kernel_rfl) Tryz.ntmps13 (by simp) fun hcl hca => ?_
 obtain ⟨res, hres⟩ : ∃ r, lineT w ns = r := ⟨_, rfl⟩
 rw [hres]
 refine W_sr [0, 1] fun R hR => ?_
 simp only [go_sem]
 refine hR _ _ ?_; clear hR R
 try simp only [go_sem]
 refine W_seq fun Z2 K2 => ?_
 refine W_sr [0, 1, 5] fun R hR => ?_
 simp only [go_sem]
 refine hR _ _ ?_; clear hR R
 try simp only [go_sem]
 refine W_block ?_
 refine W_loopS (α := Nat × (List UInt8)) (fun ⟨i, acc⟩ => [(0, txt acc), (5, I i)]) (fun ⟨i, acc⟩ => i ≤ ns.length ∧ lineT acc (ns.drop i) = res ∧ acc.length ≤ w.length + 22 * i) (fun ⟨i, acc⟩ => ns.length - i) ((0, w)) rfl (⟨Nat.zero_le _, hres, by omega⟩) ?_
 rintro ⟨i, acc⟩ ⟨hi, hinv, hal⟩
 refine W_seq fun Z4 K4 => ?_
 refine W_sr [0, 1, 5, 9] fun R hR => ?_
 simp only [go_sem]
 refine hR _ _ ?_; clear hR R
 try simp only [go_sem]
 refine W_cond rfl (fun c1 => ?_) (fun c1 => ?_)
 ·
  try simp only [nrm] at c1
  have hi' : i < ns.length := by first | assumption | omega
  obtain ⟨n, hx⟩ : ∃ n, ns[i]? = some n := ⟨ns[i], by simp [hi']⟩
  have hdrop : ns.drop i = n :: ns.drop (i + 1) := by
   rw [List.drop_eq_getElem_cons hi']; congr 1; exact (List.getElem?_eq_some_iff.1 hx).2
  have hnv := hv n (List.mem_of_getElem? hx)
  have hnl := Lib.itoa_length_le n hnv.1 hnv.2
  rw [hdrop] at hinv
  simp only [lineT] at hinv
  refine W_skip (K4 _ _ ?_)
  refine W_seq fun Z6 K6 => ?_
  refine W_block ?_
  refine W_region [0, 1, 5] fun R hR => ?_
  simp only [go_sem, hx]
  try simp (disch := (first | omega | (simp only [go_sem, List.length_append] <;> omega))) only [wrapI, wrapU, appX_exact, appX_tok, strAdd, slT, slTa, slTb]
  try simp only [go_sem, hx]
  try simp (disch := (first | omega | (simp only [go_sem, List.length_append] <;> omega))) only [wrapI, wrapU, strAdd, slT, slTa, slTb]
  refine GCall_of (Itoa_pc Y _ n hnv.1 hnv.2) ?_
  simp only [go_sem, hx]
  try simp (disch := (first | omega | (simp only [go_sem, List.length_append] <;> omega))) only [wrapI, wrapU, appX_exact, appX_tok, strAdd, slT, slTa, slTb]
  try simp only [go_sem, hx]
  refine hR _ _ (K6 _ _ ?_); clear hR R; try clear K6 Z6
  try simp only [go_sem, hx]
  refine W_region [0, 1, 5] fun R hR => ?_
  simp only [go_sem, hx]
  try simp (disch := (first | omega | (simp only [go_sem, List.length_append] <;> omega))) only [wrapI, wrapU, strAdd, slT, slTa, slTb]
  refine hR _ _ ?_; clear hR R
  try simp only [go_sem, hx]
  refine ⟨(i + 1, acc ++ 32 :: Lib.itoa n), ?_, by (try simp only []); omega, ?_⟩
  ·refine Weak.eq (by simp only [List.append_assoc, List.cons_append, List.nil_append]; first | done | rfl) rfl
  try dsimp only
  exact ⟨hi', hinv, by simp only [List.length_append, List.length_cons]; omega⟩
 try simp only [nrm] at c1
 have hdrop : ns.drop i = [] := List.drop_eq_nil_of_le (by omega)
 rw [hdrop] at hinv
 simp only [lineT] at hinv
 refine W_exit ?_
 simp only [go_sem]
 refine K2 _ _ ?_
 refine W_sr [4] fun R hR => ?_
 simp only [go_sem]
 refine hR _ _ ?_; clear hR R
 try simp only [go_sem]
 refine W_ret ?_
 simp only [go_sem]
 refine ⟨.inr (by trivial), ?_⟩
 first | refine Fsa hcl rfl ?_ | refine Fse hcl rfl ?_
 try simp only [go_sem]
 all_goals
  first | rw [hinv] | rfl
set_option maxHeartbeats 2000000 in
theorem Text_pc (Y : YEnv) (σ : Sg) (l : List (List UInt8)) (o : Own) (hl : l.length ≤ 2 ^ 20) (hv : ∀ r, r ∈ l → r.length ≤ 2 ^ 20) :
 PC Tryz.prog Y 15 [.isl (l.map txt) o] σ (txt (textT l)) (σ) := by
 refine PC_of_W Tryz.func15 rfl (by kernel_rfl) Tryz.ntmps15 (by simp) fun hcl hca => ?_
 refine W_sr [0] fun R hR => ?_
 simp only [go_sem]
 refine hR _ _ ?_; clear hR R
 try simp only [go_sem]
 refine W_sr [0, 3] fun R hR => ?_
 simp only [go_sem]
 refine hR _ _ ?_; clear hR R
 try simp only [go_sem]
 refine W_seq fun Z3 K3 => ?_
 refine W_sr [0, 3, 4] fun R hR => ?_
 simp only [go_sem]
 refine hR _ _ ?_; clear hR R
 try simp only [go_sem]
 refine W_block ?_
 refine W_loopS (α := Nat × (List UInt8)) (fun ⟨i, acc⟩ => [(3, txt acc), (4, I i)]) (fun ⟨i, acc⟩ => i ≤ l.length ∧ acc ++ textT (l.drop i) = textT l ∧ acc.length ≤ (2 ^ 20 + 1) * i) (fun ⟨i, acc⟩ => l.length - i) ((0, [])) rfl (⟨Nat.zero_le _, rfl, by simp⟩) ?_
 rintro ⟨i, acc⟩ ⟨hi, hinv, hal⟩
 refine W_seq fun Z5 K5 => ?_
 refine W_sr [0, 3, 4, 8] fun R hR => ?_
 simp only [go_sem]
 refine hR _ _ ?_; clear hR R
 try simp only [go_sem]
 refine W_cond rfl (fun c1 => ?_) (fun c1 => ?_)
 ·
  try simp only [nrm] at c1
  have hi' : i < l.length := by first | assumption | omega
  obtain ⟨r, hx⟩ : ∃ r, l[i]? = some r := ⟨l[i], by simp [hi']⟩
  have hdrop : l.drop i = r :: l.drop (i + 1) := by
   rw [List.drop_eq_getElem_cons hi']; congr 1; exact (List.getElem?_eq_some_iff.1 hx).2
  have hrl := hv r (List.mem_of_getElem? hx)
  rw [hdrop] at hinv
  simp only [textT] at hinv
  refine W_skip (K5 _ _ ?_)
  refine W_seq fun Z7 K7 => ?_
  refine W_block ?_
  refine W_region [0, 3, 4] fun R hR => ?_
  simp only [go_sem, hx]
  try simp (disch := (first | omega | (simp only [go_sem, List.length_append] <;> omega))) only [wrapI, wrapU, appX_exact, appX_tok, strAdd, slT, slTa, slTb]
  try simp only [go_sem, hx]
  try simp (disch := (first | omega | (simp only [go_sem, List.length_append] <;> omega))) only [wrapI, wrapU, appX_exact, appX_tok, strAdd, slT, slTa, slTb]
  try simp only [go_sem, hx]
  refine hR _ _ (K7 _ _ ?_); clear hR R; try clear K7 Z7
  try simp only [go_sem, hx]
  refine W_region [0, 3, 4] fun R hR => ?_
  simp only [go_sem, hx]
  try simp (disch := (first | omega | (simp only [go_sem, List.length_append] <;> omega))) only [wrapI, wrapU, strAdd, slT, slTa, slTb]
  refine hR _ _ ?_; clear hR R
  try simp only [go_sem, hx]
  refine ⟨(i + 1, acc ++ (r ++ [10])), ?_, by (try simp only []); omega, ?_⟩
  ·refine Weak.eq (by simp only [List.append_assoc, List.cons_append, List.nil_append]; first | done | rfl) rfl
  try dsimp only
  exact ⟨hi', by rw [← hinv]; simp only [List.append_assoc, List.cons_append, List.nil_append], by simp only [List.length_append, List.length_cons, List.length_nil]; omega⟩
 try simp only [nrm] at c1
 have hdrop : l.drop i = [] := List.drop_eq_nil_of_le (by omega)
 rw [hdrop] at hinv
 simp only [textT, List.append_nil] at hinv
 refine W_exit ?_
 simp only [go_sem]
 refine K3 _ _ ?_
 refine W_sr [2] fun R hR => ?_
 simp only [go_sem]
 refine hR _ _ ?_; clear hR R
 try simp only [go_sem]
 refine W_ret ?_
 simp only [go_sem]
 refine ⟨.inr (by trivial), ?_⟩
 first | refine Fsa hcl rfl ?_ | refine Fse hcl rfl ?_
 try simp only [go_sem]
 all_goals
  first | rw [hinv] | rfl
open Go Go.RowKit Go.Shelf Pa Ni
theorem AtoiOK_pc (Y : YEnv) (σ : Sg) (l : List UInt8) (v : Int) (hl : l.length ≤ 1000) (hA : Lib.atoiAll l = .ok v) :
 PC Tryz.prog Y 73 [.str ⟨l.toArray⟩] σ (.tuple [I v, .niliface]) σ := by
 refine PC_of_callsG (by kernel_rfl) fun Ψ vals w hs ha hG => ?_
 obtain ⟨x, rfl, hx⟩ := one_arg ha
 obtain rfl := hx.str_inv
 have hsz : (⟨l.toArray⟩ : ByteArray).size = l.length := by simp [ByteArray.size]
 have hdl : (⟨l.toArray⟩ : ByteArray).data.toList = l := by simp
 refine (Any.strconv_Atoi_ok lays172 ⟨l.toArray⟩ (by rw [hsz]; omega) v (by rw [hdl]; exact hA) w).mono ?_
 rintro e2 w2 ⟨rfl, hw⟩
 have hb : Below w.heap.size w w2 := by
  rcases hw with rfl | ⟨t, rfl⟩
  ·exact Below.refl _ _
  exact Lib.bytesWorld_below _ _ _
 refine ⟨_, Ψ, rfl, Ty.le.refl _, hs.more (fun k hk => hb.block k hk) hb.size, .tuple _ _ rfl fun j q y h1 h2 => ?_, ⟨hb.os, hb.tape, hb.output, hb.size, fun k hk => hb.block k (Nat.lt_of_lt_of_le hk hs.base)⟩⟩
 match j, h1, h2 with
 | 0, h1, h2 => simp at h1 h2; subst h1 h2; exact .int _ _
 | 1, h1, h2 => simp at h1 h2; subst h1 h2; exact .niliface
 | j + 2, h1, h2 => simp at h1
theorem atoi_itoa (u : Nat) (hu : u ≤ 9999999) : Lib.atoiAll (Lib.itoa (u : Int)) = .ok (u : Int) := by
 have h : Lib.itoa (u : Int) = Lib.decDigits u := by unfold Lib.itoa; rw [if_neg (by omega), Int.toNat_natCast]
 rw [h]; exact atoi_dec (by omega)
theorem itoa_len7 (u : Nat) (hu : u ≤ 9999999) : (Lib.itoa (u : Int)).length ≤ 7 := by
 have h : Lib.itoa (u : Int) = Lib.decDigits u := by unfold Lib.itoa; rw [if_neg (by omega), Int.toNat_natCast]
 rw [h]
 rcases pow_dec u with h1 | h1
 ·rcases Nat.lt_or_ge 7 (Lib.decDigits u).length with h2 | h2
  ·have := Nat.pow_le_pow_right (n := 10) (by omega) (show 7 ≤ (Lib.decDigits u).length - 1 by omega)
   omega
  exact h2
 subst h1; rw [dec_one]; decide
/-- The words with which lines begin: a form, and who does it. -/
abbrev vbPV (v : List UInt8 × Nat) : PV := .agg [txt v.1, .func (.func v.2) [] []]
theorem keyTxt : KeyOK Tryz.prog 9 txt := fun a b => by
 simp only [keyEq, txt_eq]
theorem lkV {σ : Sg} {id : Nat} {k : List UInt8} {ok : Bool} : lookupPV Tryz.prog σ 281 (.map id) (.str ⟨k.toArray⟩) ok = lkX Tryz.prog 9 (.agg [.str ⟨#[]⟩, .nilfunc]) σ id (.str ⟨k.toArray⟩) ok := lk_of Tryz.underlying281 Tryz.underlying9 (by kernel_rfl) (by kernel_rfl) σ id ok
theorem upV {σ : Sg} {id : Nat} {k : List UInt8} {v : PV} : updatePV Tryz.prog σ 281 (.map id) (.str ⟨k.toArray⟩) v = upX Tryz.prog 9 σ id (.str ⟨k.toArray⟩) v := up_of Tryz.underlying281 Tryz.underlying9 (by kernel_rfl) v σ id
theorem lkMV {l : List (List UInt8 × (List UInt8 × Nat))} {k : List UInt8} {z : PV} {ok : Bool} : lkM Tryz.prog 9 z (some (some (.mark :: mapE txt vbPV l))) (.str ⟨k.toArray⟩) ok = some (packPV ok (((aget k l).map vbPV).getD z) (aget k l).isSome) := by
 have := lkM_map (z := z) keyTxt vbPV l k ok
 rw [show PV.str ⟨k.toArray⟩ = txt k from rfl, this]
 cases aget k l <;> rfl
theorem upMV {l : List (List UInt8 × (List UInt8 × Nat))} {k f : List UInt8} {g : Nat} : upM Tryz.prog 9 (some (some (.mark :: mapE txt vbPV l))) (.str ⟨k.toArray⟩) (.agg [.str ⟨f.toArray⟩, .func (.func g) [] []]) = some (.mark :: mapE txt vbPV (aput k (f, g) l)) := upM_map keyTxt vbPV l k (f, g)
theorem upMV0 {k f : List UInt8} {g : Nat} : upM Tryz.prog 9 (some (some [.mark])) (.str ⟨k.toArray⟩) (.agg [.str ⟨f.toArray⟩, .func (.func g) [] []]) = some (.mark :: mapE txt vbPV (aput k (f, g) [])) := upM_map keyTxt vbPV [] k (f, g)
theorem packT {v : PV} {b : Bool} : packPV true v b = .tuple [v, .bool b] := rfl
def verbsL : List (List UInt8 × (List UInt8 × Nat)) := aput [116, 114, 97, 99, 101] ([75], 243) (aput [108, 101, 102, 116] ([70], 242) (aput [98, 105, 108, 108] ([85, 78], 241) (aput [115, 108, 101, 101, 112] ([81], 240) (aput [104, 101, 97, 114, 100] ([81], 239) (aput [98, 97, 110, 100] ([70, 65, 66, 83, 80, 43], 238) (aput [116, 97, 98, 108, 101] ([], 237) (aput [119, 105, 110, 110, 101, 114] ([], 236) (aput [112, 108, 97, 99, 101, 115] ([], 235) (aput [102, 105, 110, 101] ([83, 80], 234) (aput [97, 98, 115, 101, 110, 116] ([77, 74], 233) (aput [111, 112, 101, 110] ([77, 74, 83, 43], 232) (aput [108, 97, 115, 116, 115] ([], 231) (aput [103, 97, 112] ([87], 230) (aput [112, 108, 97, 99, 101] ([87], 229) (aput [119, 105, 110, 103] ([], 228) (aput [97, 116] ([78], 227) ([])))))))))))))))))
theorem vb_at : aget atT verbsL = some ([78], 227) := by decide
theorem vb_wing : aget wingT verbsL = some ([], 228) := by decide
theorem vb_lasts : aget lastsT verbsL = some ([], 231) := by decide
theorem vb_fuel : aget fuelT verbsL = none := by decide
theorem cA_vb {a b c : Nat} {l : List (List UInt8 × (List UInt8 × Nat))} : CleanAll a b c (mapE txt vbPV l) = True := CleanAll_mapE (fun _ => .str _) (fun _ => .agg _ (Clean.all_cons (.str _) (Clean.all_cons (.func _ _ _ (fun e h => by cases h) (fun e h => by cases h)) Clean.all_nil)))
attribute [go_sem] cA_vb packT
theorem nilE0 : nilICmp Tryz.prog .eql 148 .niliface = some (.bool true) := by
 unfold nilICmp; rw [show Tryz.prog.underlying 148 = some (.interface _) from Tryz.underlying148]
set_option maxHeartbeats 8000000 in
theorem verbs_pc (Y : YEnv) (σ : Sg)  :
 PC Tryz.prog Y 178 [] σ (.map σ.store.length) (σ.ext [some (.mark :: mapE txt vbPV verbsL)] []) := by
 refine PC_of_W Tryz.func178 rfl (by kernel_rfl) Tryz.ntmps178 (by simp) fun hcl hca => ?_
 refine W_sr [] fun R hR => ?_
 simp only [go_sem, upV, upMV, upMV0, upX_ext, upX_ext0]
 refine hR _ _ ?_; clear hR R
 try simp only [go_sem, upV, upMV, upMV0, upX_ext, upX_ext0]
 refine W_sr [0] fun R hR => ?_
 simp only [go_sem, upV, upMV, upMV0, upX_ext, upX_ext0]
 refine hR _ _ ?_; clear hR R
 try simp only [go_sem, upV, upMV, upMV0, upX_ext, upX_ext0]
 refine W_ret ?_
 simp only [go_sem, upV, upMV, upMV0, upX_ext, upX_ext0]
 refine ⟨.inr (by trivial), ?_⟩
 exact Fin_ext (l := [_]) (rm := []) 1 0 hcl rfl (Wk_eq rfl (by simp only [go_sem] <;> omega)) (by show CleanLs _ _ _ _; simp only [go_sem])
 try simp only [go_sem]
 all_goals
  skip
set_option maxHeartbeats 2000000 in
theorem number_pc (Y : YEnv) (σ : Sg) (u : Nat) (hu : u ≤ 9999999) :
 PC Tryz.prog Y 179 [txt (Lib.itoa u)] σ (.tuple [I u, .bool true]) (σ) := by
 refine PC_of_W Tryz.func179 rfl (by kernel_rfl) Tryz.ntmps179 (by simp) fun hcl hca => ?_
 have hA := atoi_itoa u hu
 have hln := itoa_len7 u hu
 have hq7 : (((Lib.itoa (u : Int)).length : Int) ≤ 7) = True := eq_true (by omega)
 refine W_sr [0] fun R hR => ?_
 simp only [go_sem, nilE0, hq7, decide_true]
 refine hR _ _ ?_; clear hR R
 try simp only [go_sem, nilE0, hq7, decide_true]
 refine W_sr [0, 4, 5] fun R hR => ?_
 simp only [go_sem, nilE0, hq7, decide_true]
 refine GCall_of (AtoiOK_pc Y _ (Lib.itoa u) u (by omega) hA) ?_
 simp only [go_sem, nilE0, hq7, decide_true]
 refine hR _ _ ?_; clear hR R
 try simp only [go_sem, nilE0, hq7, decide_true]
 refine W_sr [2, 3] fun R hR => ?_
 simp only [go_sem, nilE0, hq7, decide_true]
 refine GCall_of (Itoa_pc Y _ u (by omega) (by omega)) ?_
 simp only [go_sem, nilE0, hq7, decide_true]
 refine hR _ _ ?_; clear hR R
 try simp only [go_sem, nilE0, hq7, decide_true]
 refine W_ret ?_
 simp only [go_sem, nilE0, hq7, decide_true]
 refine ⟨.inr (by trivial), ?_⟩
 first | refine Fsa hcl rfl ?_ | refine Fse hcl rfl ?_
 try simp only [go_sem]
 all_goals
  first | rfl | (simp; done) | (simp; omega)
open Go Go.RowKit Pa Ni
set_option maxRecDepth 1000000
theorem suits_calls (s : ByteArray) (m : Int) (hm : -1000 ≤ m ∧ m ≤ 1000) (hz : s.size ≤ 100) (hs : ∀ (i : Nat) (h : i < s.size), (s[i]'h).toNat < 128 ∧ (s[i]'h).toNat ≠ 43) (w : World) :
 Calls Tryz.prog 180 #[.string s, .int .i64 m] w fun e w' => e = .returned (.bool (m - s.size == 0)) ∧ ∃ pos, w' = w.iter s pos := by
 go_enter Tryz.func180, Tryz.ntmps180
 go_wp2
 go_loopw [1] (fun n w' => ∃ (pos : Nat), pos ≤ s.size ∧ w' = w.iter s pos ∧ n = .int .i64 (m - pos)) (fun _ w' => s.size - w'.iterPos w.heap.size)
 case atStart => exact ⟨0, Nat.zero_le _, rfl, by simp⟩
 case round =>
  obtain ⟨pos, hpos, rfl, rfl⟩ := hrel
  by_cases hp : pos < s.size
  ·obtain ⟨h1, h2⟩ := hs pos hp
   have hnx : ∀ ty, (Instr.next (.pointer (some ⟨w.heap.size, 0, none⟩)) true ty).run Tryz.prog (w.iter s pos) = _ := fun ty => run_next_ascii w s pos ty hp h1
   have hne : (((s[pos]'hp).toNat : Int) == 43) = false := by rw [beq_eq_false_iff_ne]; omega
   have hwr : IntKind.i64.wrap (m - pos - 1) = m - (pos + 1 : Nat) := by rw [wrapI (by omega) (by omega)]; omega
   go_wp2
   go_roundw
   case rel => exact ⟨pos + 1, hp, rfl, by simp [hwr]⟩
   case measure =>
    simp
    omega
  have hnx : ∀ ty, (Instr.next (.pointer (some ⟨w.heap.size, 0, none⟩)) true ty).run Tryz.prog (w.iter s pos) = _ := fun ty => run_next_end w s pos ty hp
  go_wp2
  go_ret
  have hpe : pos = s.size := by omega
  subst hpe
  exact ⟨rfl, _, rfl⟩
theorem suits_pc (Y : YEnv) (σ : Sg) (l : List UInt8) (m : Int) (hm : -1000 ≤ m ∧ m ≤ 1000) (hl : l.length ≤ 100) (hs : ∀ c, c ∈ l → c.toNat < 128 ∧ c.toNat ≠ 43) :
 PC Tryz.prog Y 180 [txt l, I m] σ (.bool (decide (m = l.length))) σ := by
 refine PC_of_calls (by kernel_rfl) fun Ψ vals w hs' ha => ?_
 obtain ⟨x, y, rfl, hx, hy⟩ := two_arg ha
 obtain rfl := hx.str_inv
 obtain rfl := hy.int_inv
 have hz : (⟨l.toArray⟩ : ByteArray).size = l.length := size_txt
 refine (suits_calls ⟨l.toArray⟩ m hm (by rw [hz]; exact hl) (fun i h => ?_) w).mono ?_
 ·exact hs _ (by show l.toArray[i]'_ ∈ l; simp)
 rintro e2 w2 ⟨rfl, pos, rfl⟩
 have e : (m - ((⟨l.toArray⟩ : ByteArray).size : Int) == 0) = decide (m = l.length) := by
  rw [hz, Bool.eq_iff_iff, beq_iff_eq, decide_eq_true_eq]; omega
 exact ⟨_, Ψ, rfl, Ty.le.refl _, hs'.alloc _, by rw [e]; exact .bool _, (Below.refl _ _).alloc hs'.base _⟩
open Go Go.RowKit Pa Ni
abbrev nilS : PV := .isl [] .exact
/-- A desk at work. -/
def wkCells (sec : Int) (st : List Int) (o : Own) (x : Director) : List PV := [I sec, intsO o st, nilS, nilS, nilS, nilS, nilS] ++ diCells x
attribute [go_sem] wkCells
/-- A desk that may be. -/
structure DkOK (x : Director) (sec : Int) (st : List Int) : Prop where
 s0 : 0 ≤ sec ∧ sec ≤ 43199
 st0 : ∀ n, n ∈ st → 0 ≤ n ∧ n ≤ 43199
 ln : st.length ≤ x.school.wings.length
theorem stW_bd {x : Director} {sec : Int} {st : List Int} (h : DkOK x sec st) (i : Nat) : 0 ≤ stW st i ∧ stW st i ≤ 43199 := by
 unfold stW
 cases hx : st[i]? with
 | none => simp
 | some n => have := h.st0 n (List.mem_of_getElem? hx); simpa using this
theorem iaX_z {xs : List Int} {x : Int} (h : xs[0]? = some x) : iaX 1 (xs.map I) 0 = some (.eptr 1 (xs.map I) 0 0) := Mk.iaX_map (i := 0) h rfl
theorem elS_z {xs : List Int} {x : Int} (h : xs[0]? = some x) : elS (xs.map I) 0 0 = some (I x) := by rw [Mk.elS_map h]; rfl
theorem stW_z {st : List Int} {z : Int} (h : st[0]? = some z) : stW st 0 = z := by unfold stW; rw [h]; rfl
theorem rowS_len (st : List Int) : (rowS st).length = st.length := by simp [rowS]
set_option maxHeartbeats 2000000 in
theorem since_pc (Y : YEnv) (σ : Sg) (i : Nat) (sec : Int) (st : List Int) (o : Own) (x : Director) (hd : σ.store[i]? = some (some (wkCells sec st o x))) (hk : DkOK x sec st) (h8 : x.school.wings.length ≤ 8) :
 PC Tryz.prog Y 279 [.ptr i 0] σ (I (sinceS ⟨sec, st⟩)) (σ) := by
 refine PC_of_W Tryz.func279 rfl (by kernel_rfl) Tryz.ntmps279 (by simp) fun hcl hca => ?_
 have hs0 := hk.s0
 have hsb := stW_bd hk 0
 refine W_sr [0] fun R hR => ?_
 simp only [go_sem, ldA_at hd, ldS_at hd, ldA_at (get_extx hd), ldS_at (get_extx hd), Mk.scCells, Bd.ctCells, shCells, ruCells]
 refine hR _ _ ?_; clear hR R
 try simp only [go_sem, ldA_at hd, ldS_at hd, ldA_at (get_extx hd), ldS_at (get_extx hd), Mk.scCells, Bd.ctCells, shCells, ruCells]
 refine W_seq fun Z2 K2 => ?_
 refine W_sr [0, 9] fun R hR => ?_
 simp only [go_sem, ldA_at hd, ldS_at hd, ldA_at (get_extx hd), ldS_at (get_extx hd), Mk.scCells, Bd.ctCells, shCells, ruCells]
 refine hR _ _ ?_; clear hR R
 try simp only [go_sem, ldA_at hd, ldS_at hd, ldA_at (get_extx hd), ldS_at (get_extx hd), Mk.scCells, Bd.ctCells, shCells, ruCells]
 refine W_cond rfl (fun c1 => ?_) (fun c1 => ?_)
 ·
  try simp only [nrm] at c1
  have hst : st = [] := List.eq_nil_of_length_eq_zero (by omega)
  refine W_sr [2] fun R hR => ?_
  simp only [go_sem, ldA_at hd, ldS_at hd, ldA_at (get_extx hd), ldS_at (get_extx hd), Mk.scCells, Bd.ctCells, shCells, ruCells]
  refine hR _ _ ?_; clear hR R
  try simp only [go_sem, ldA_at hd, ldS_at hd, ldA_at (get_extx hd), ldS_at (get_extx hd), Mk.scCells, Bd.ctCells, shCells, ruCells]
  refine W_ret ?_
  simp only [go_sem, ldA_at hd, ldS_at hd, ldA_at (get_extx hd), ldS_at (get_extx hd), Mk.scCells, Bd.ctCells, shCells, ruCells]
  refine ⟨.inr (by trivial), ?_⟩
  first | refine Fsa hcl rfl ?_ | refine Fse hcl rfl ?_
  try simp only [go_sem]
  all_goals
   subst hst; rfl
 try simp only [nrm] at c1
 obtain ⟨a, ha⟩ : ∃ z, st[0]? = some z := ⟨st[0]'(by omega), by simp⟩
 rw [stW_z ha] at hsb
 refine W_skip (K2 _ _ ?_)
 refine W_seq fun Z5 K5 => ?_
 refine W_draw [2] [0, 1, 2, 3, 4, 5, 6, 7, 8, 9, 10, 11, 12, 13] [] [[], [0], [0, 1], [0, 1, 2], [0, 1, 2, 3], [], [5], [5, 6], [5, 6, 7], [5, 6, 7, 8], [5, 6, 7, 8, 9], [5, 6, 7, 8, 9, 10], [0, 1, 2, 3, 4, 5, 6, 7, 8, 9, 10, 11], [0, 1, 2, 3, 4, 5, 6, 7, 8, 9, 10, 11, 12]] mixed (by kernel_rfl) fun R hR => ?_
 simp only [go_sem, ldA_at hd, ldS_at hd, ldA_at (get_extx hd), ldS_at (get_extx hd), Mk.scCells, Bd.ctCells, shCells, ruCells, iaX_z ha, elS_z ha]
 try simp (disch := (first | omega | (simp only [go_sem, List.length_append] <;> omega))) only [wrapI, wrapU, strAdd, slT, slTa, slTb]
 try refine And.intro (by repeat' (first | refine And.intro ?_ ?_ | exact trivial | exact GOr_right (fun _ => by simp only [go_sem, ldA_at hd, ldS_at hd, ldA_at (get_extx hd), ldS_at (get_extx hd), Mk.scCells, Bd.ctCells, shCells, ruCells, iaX_z ha, elS_z ha]))) ?_
 refine hR _ _ (K5 _ _ ?_); clear hR R; try clear K5 Z5
 try simp only [go_sem, ldA_at hd, ldS_at hd, ldA_at (get_extx hd), ldS_at (get_extx hd), Mk.scCells, Bd.ctCells, shCells, ruCells, iaX_z ha, elS_z ha]
 refine W_ret ?_
 simp only [go_sem, ldA_at hd, ldS_at hd, ldA_at (get_extx hd), ldS_at (get_extx hd), Mk.scCells, Bd.ctCells, shCells, ruCells, iaX_z ha, elS_z ha]
 refine ⟨.inr (by trivial), ?_⟩
 first | refine Fsa hcl rfl ?_ | refine Fse hcl rfl ?_
 try simp only [go_sem]
 all_goals
  simp only [sinceS, stW_z ha]; rw [if_neg (by omega)]
set_option maxHeartbeats 2000000 in
theorem row_pc (Y : YEnv) (σ : Sg) (i : Nat) (sec : Int) (st : List Int) (o : Own) (x : Director) (hd : σ.store[i]? = some (some (wkCells sec st o x))) (hk : DkOK x sec st) (h8 : x.school.wings.length ≤ 8) :
 PC Tryz.prog Y 278 [.ptr i 0] σ (.tuple [shPV (takeSch x.school st.length), intsO (.tok σ.rooms.length st.length 1) (rowS st)]) (σ.ext [] [st.length]) := by
 refine PC_of_W Tryz.func278 rfl (by kernel_rfl) Tryz.ntmps278 (by simp) fun hcl hca => ?_
 have hs0 := hk.s0
 have hsb := stW_bd hk 0
 have hln := hk.ln
 refine W_sr [0, 2] fun R hR => ?_
 simp only [go_sem, ldA_at hd, ldS_at hd, ldA_at (get_extx hd), ldS_at (get_extx hd), Mk.scCells, Bd.ctCells, shCells, ruCells]
 refine hR _ _ ?_; clear hR R
 try simp only [go_sem, ldA_at hd, ldS_at hd, ldA_at (get_extx hd), ldS_at (get_extx hd), Mk.scCells, Bd.ctCells, shCells, ruCells]
 refine W_sr [0, 2, 4] fun R hR => ?_
 simp only [go_sem, ldA_at hd, ldS_at hd, ldA_at (get_extx hd), ldS_at (get_extx hd), Mk.scCells, Bd.ctCells, shCells, ruCells]
 refine hR _ _ ?_; clear hR R
 try simp only [go_sem, ldA_at hd, ldS_at hd, ldA_at (get_extx hd), ldS_at (get_extx hd), Mk.scCells, Bd.ctCells, shCells, ruCells]
 refine W_seq fun Z3 K3 => ?_
 refine W_draw [0, 2, 4] [0, 1, 2, 3, 4, 5, 6, 7, 8, 9, 10] [] [[], [0], [], [2], [2, 3], [2, 3, 4], [2, 3, 4, 5], [2, 3, 4, 5, 6], [0, 1, 2, 3, 4, 5, 6, 7], [0, 1, 2, 3, 4, 5, 6, 7, 8], [0, 1, 2, 3, 4, 5, 6, 7, 8, 9]] mixed (by kernel_rfl) fun R hR => ?_
 simp only [go_sem, ldA_at hd, ldS_at hd, ldA_at (get_extx hd), ldS_at (get_extx hd), Mk.scCells, Bd.ctCells, shCells, ruCells, hln, ← List.map_take]
 try simp (disch := (first | omega | (simp only [go_sem, List.length_append] <;> omega))) only [wrapI, wrapU, strAdd, slT, slTa, slTb]
 try refine And.intro (by repeat' (first | refine And.intro ?_ ?_ | exact trivial | exact GOr_right (fun _ => by simp only [go_sem, ldA_at hd, ldS_at hd, ldA_at (get_extx hd), ldS_at (get_extx hd), Mk.scCells, Bd.ctCells, shCells, ruCells, hln, ← List.map_take]))) ?_
 refine hR _ _ (K3 _ _ ?_); clear hR R; try clear K3 Z3
 try simp only [go_sem, ldA_at hd, ldS_at hd, ldA_at (get_extx hd), ldS_at (get_extx hd), Mk.scCells, Bd.ctCells, shCells, ruCells]
 refine W_sr [0, 2, 4, 5] fun R hR => ?_
 simp only [go_sem, ldA_at hd, ldS_at hd, ldA_at (get_extx hd), ldS_at (get_extx hd), Mk.scCells, Bd.ctCells, shCells, ruCells]
 refine hR _ _ ?_; clear hR R
 try simp only [go_sem, ldA_at hd, ldS_at hd, ldA_at (get_extx hd), ldS_at (get_extx hd), Mk.scCells, Bd.ctCells, shCells, ruCells]
 refine W_seq fun Z5 K5 => ?_
 refine W_sr [0, 2, 4, 5, 27, 28, 29] fun R hR => ?_
 simp only [go_sem, ldA_at hd, ldS_at hd, ldA_at (get_extx hd), ldS_at (get_extx hd), Mk.scCells, Bd.ctCells, shCells, ruCells]
 refine hR _ _ ?_; clear hR R
 try simp only [go_sem, ldA_at hd, ldS_at hd, ldA_at (get_extx hd), ldS_at (get_extx hd), Mk.scCells, Bd.ctCells, shCells, ruCells]
 refine W_block ?_
 refine W_weak (Weak.room (t := 5) (es := 1) rfl (by simp)) ?_
 refine W_weak (Weak.keep [0, 2, 4, 5, 27, 28, 29]) ?_
 simp only [go_sem, ldA_at hd, ldS_at hd, ldA_at (get_extx hd), ldS_at (get_extx hd), Mk.scCells, Bd.ctCells, shCells, ruCells]
 refine W_loopT (α := Nat × (List Int)) (fun ⟨k, acc⟩ => [(5, intsO (.tok σ.rooms.length acc.length 1) acc), (29, I k)]) (fun ⟨k, acc⟩ => σ.ext [some [I 0, nilS], some [I x.school.route, wgs (x.school.wings.take st.length)]] [acc.length]) (fun ⟨k, acc⟩ => k ≤ st.length ∧ acc.length = k ∧ acc ++ (st.drop k).map (fun n => n - stW st 0) = rowS st) (fun ⟨k, acc⟩ => st.length - k) ((0, [])) rfl (by first | rfl | (simp only [go_sem]; done) | (simp only [go_sem]; rfl)) (⟨Nat.zero_le _, rfl, by simp [rowS]⟩) ?_
 rintro ⟨k, acc⟩ ⟨hkl, hal, hinv⟩
 refine W_sr [0, 2, 4, 5, 27, 28, 29, 30] fun R hR => ?_
 simp only [go_sem, ldA_at hd, ldS_at hd, ldA_at (get_extx hd), ldS_at (get_extx hd), Mk.scCells, Bd.ctCells, shCells, ruCells]
 refine hR _ _ ?_; clear hR R
 try simp only [go_sem, ldA_at hd, ldS_at hd, ldA_at (get_extx hd), ldS_at (get_extx hd), Mk.scCells, Bd.ctCells, shCells, ruCells]
 refine W_seq fun Z8 K8 => ?_
 refine W_cond rfl (fun c1 => ?_) (fun c1 => ?_)
 ·
  try simp only [nrm] at c1
  have hi' : k < st.length := by first | assumption | omega
  obtain ⟨n, hx⟩ : ∃ n, st[k]? = some n := ⟨st[k], by simp [hi']⟩
  have hdrop : st.drop k = n :: st.drop (k + 1) := by
   rw [List.drop_eq_getElem_cons hi']; congr 1; exact (List.getElem?_eq_some_iff.1 hx).2
  have hnb := hk.st0 n (List.mem_of_getElem? hx)
  obtain ⟨z, hz0⟩ : ∃ z, st[0]? = some z := ⟨st[0]'(by omega), by simp⟩
  have hzs := stW_z hz0
  rw [hdrop, List.map_cons, hzs] at hinv
  rw [hzs] at hsb
  refine W_skip (K8 _ _ ?_)
  refine W_seq fun Z9 K9 => ?_
  refine W_block ?_
  refine W_sr [0, 2, 4, 5, 7, 27, 28, 29] fun R hR => ?_
  simp only [go_sem, ldA_at hd, ldS_at hd, ldA_at (get_extx hd), ldS_at (get_extx hd), Mk.scCells, Bd.ctCells, shCells, ruCells, hx]
  refine hR _ _ ?_; clear hR R
  try simp only [go_sem, ldA_at hd, ldS_at hd, ldA_at (get_extx hd), ldS_at (get_extx hd), Mk.scCells, Bd.ctCells, shCells, ruCells, hx]
  refine W_region [0, 2, 4, 5, 27, 28, 29] fun R hR => ?_
  simp only [go_sem, ldA_at hd, ldS_at hd, ldA_at (get_extx hd), ldS_at (get_extx hd), Mk.scCells, Bd.ctCells, shCells, ruCells, hx, iaX_z hz0, elS_z hz0]
  try simp (disch := (first | omega | (simp only [go_sem, List.length_append] <;> omega))) only [wrapI, wrapU, appX_exact, appX_tok, strAdd, slT, slTa, slTb]
  try simp only [go_sem, ldA_at hd, ldS_at hd, ldA_at (get_extx hd), ldS_at (get_extx hd), Mk.scCells, Bd.ctCells, shCells, ruCells, hx, iaX_z hz0, elS_z hz0]
  refine hR _ _ (K9 _ _ ?_); clear hR R; try clear K9 Z9
  try simp only [go_sem, ldA_at hd, ldS_at hd, ldA_at (get_extx hd), ldS_at (get_extx hd), Mk.scCells, Bd.ctCells, shCells, ruCells, hx]
  refine W_region [0, 2, 4, 5, 27, 28, 29] fun R hR => ?_
  simp only [go_sem, ldA_at hd, ldS_at hd, ldA_at (get_extx hd), ldS_at (get_extx hd), Mk.scCells, Bd.ctCells, shCells, ruCells, hx]
  try simp (disch := (first | omega | (simp only [go_sem, List.length_append] <;> omega))) only [wrapI, wrapU, strAdd, slT, slTa, slTb]
  refine hR _ _ ?_; clear hR R
  try simp only [go_sem, ldA_at hd, ldS_at hd, ldA_at (get_extx hd), ldS_at (get_extx hd), Mk.scCells, Bd.ctCells, shCells, ruCells, hx]
  refine ⟨(k + 1, acc ++ [n - z]), ?_, by (try simp only []); omega, ?_⟩
  ·first | exact Weak.refl | exact Wqq
  try dsimp only
  exact ⟨hi', by simp; omega, by rw [hzs]; simpa using hinv⟩
 try simp only [nrm] at c1
 have hdrop : st.drop k = [] := List.drop_eq_nil_of_le (by omega)
 rw [hdrop, List.map_nil, List.append_nil] at hinv
 subst hinv
 rw [hal]
 have hke : k = st.length := by omega
 refine W_exit ?_
 simp only [go_sem, ldA_at hd, ldS_at hd, ldA_at (get_extx hd), ldS_at (get_extx hd), Mk.scCells, Bd.ctCells, shCells, ruCells]
 refine K5 _ _ ?_
 refine W_sr [2, 3] fun R hR => ?_
 simp only [go_sem, ldA_at hd, ldS_at hd, ldA_at (get_extx hd), ldS_at (get_extx hd), Mk.scCells, Bd.ctCells, shCells, ruCells]
 refine hR _ _ ?_; clear hR R
 try simp only [go_sem, ldA_at hd, ldS_at hd, ldA_at (get_extx hd), ldS_at (get_extx hd), Mk.scCells, Bd.ctCells, shCells, ruCells]
 refine W_ret ?_
 simp only [go_sem, ldA_at hd, ldS_at hd, ldA_at (get_extx hd), ldS_at (get_extx hd), Mk.scCells, Bd.ctCells, shCells, ruCells]
 refine ⟨.inr (by trivial), ?_⟩
 subst hke
 exact Fin_ext 0 1 hcl (by show resPV Tryz.prog _ _ [.cell 2 27, .tmp 3] = some _; simp only [resPV, go_sem]; rfl) (Wk_eq (by simp only [takeSch, go_sem]) (by simp only [go_sem] <;> omega)) CleanL_nil
 try simp only [go_sem]
 all_goals
  skip
open Go Go.RowKit Pa Ni
theorem iaX_1 {n : Int} : iaX 1 [I n] 0 = some (.eptr 1 [I n] 0 0) := iaX_z (xs := [n]) rfl
theorem elS_1 {n : Int} : elS [I n] 0 0 = some (I n) := rfl
attribute [go_sem] iaX_1 elS_1
/-- The desk's variable i, with the room r of its starts. -/
structure DkS (σ : Sg) (i r : Nat) (sec : Int) (st : List Int) (x : Director) : Prop where
 hd : σ.store[i]? = some (some (wkCells sec st (.tok r st.length 1) x))
 hr : σ.rooms[r]? = some st.length
/-- The desk is another one. -/
def dkSg (σ : Sg) (i r : Nat) (sec : Int) (st : List Int) (x : Director) : Sg := (σ.setRoom r st.length).setVar i (wkCells sec st (.tok r st.length 1) x)
section
variable {σ : Sg} {i r : Nat} {sec sec' : Int} {st st' : List Int} {x : Director}
theorem DkS.li (h : DkS σ i r sec st x) : i < σ.store.length := (List.getElem?_eq_some_iff.1 h.hd).1
theorem DkS.lr (h : DkS σ i r sec st x) : r < σ.rooms.length := (List.getElem?_eq_some_iff.1 h.hr).1
theorem room_old {l : List (Option (List PV))} {rm : List Nat} {ys : List LState} {n : Nat} (h : σ.rooms[r]? = some n) : (σ.ext l rm ys).rooms[r]? = some n := by
 show (σ.rooms ++ rm)[r]? = _
 rw [List.getElem?_append_left (List.getElem?_eq_some_iff.1 h).1]; exact h
theorem DkS.ext (h : DkS σ i r sec st x) (l : List (Option (List PV))) (rm : List Nat) (ys : List LState := []) : DkS (σ.ext l rm ys) i r sec st x := ⟨Sg.get_old h.hd, room_old h.hr⟩
theorem dkSg_len : (dkSg σ i r sec st x).store.length = σ.store.length := by simp [dkSg, Sg.setVar, Sg.setRoom]
theorem dkSg_rooms : (dkSg σ i r sec st x).rooms.length = σ.rooms.length := by simp [dkSg, Sg.setVar, Sg.setRoom]
theorem dkSg_ext {l : List (Option (List PV))} {rm : List Nat} {ys : List LState} (hi : i < σ.store.length) (hr : r < σ.rooms.length) : dkSg (σ.ext l rm ys) i r sec st x = (dkSg σ i r sec st x).ext l rm ys := by
 simp [dkSg, Sg.setVar, Sg.setRoom, Sg.ext, List.set_append_left _ _ hi, List.set_append_left _ _ hr]
theorem dkSg_room (h : σ.rooms[r]? = some st.length) : dkSg σ i r sec st x = σ.setVar i (wkCells sec st (.tok r st.length 1) x) := by
 obtain ⟨hl, he⟩ := List.getElem?_eq_some_iff.1 h
 simp only [dkSg, Sg.setVar, Sg.setRoom]
 rw [← he, List.set_getElem_self]
theorem dkSg_same (h : DkS σ i r sec st x) : dkSg σ i r sec st x = σ := by rw [dkSg_room h.hr, setVar_same _ _ _ h.hd]
theorem cl_wk {a b c n es : Nat} (h : r < b) : CleanAll a b c (wkCells sec st (.tok r n es) x) := by
 simp only [go_sem, Mk.scCells, Bd.ctCells]
 exact h
theorem dkSg_clean (hr : r < σ.rooms.length) (h : CleanSg σ) : CleanSg (dkSg σ i r sec st x) := by
 have h1 : CleanSg (σ.setRoom r st.length) := by
  intro id cs hid hc p hp
  have := h id cs hid hc p hp
  simpa [Sg.setRoom] using this
 exact CleanSg_set h1 (cl_wk (by simpa [Sg.setRoom] using hr))
end
set_option maxHeartbeats 2000000 in
theorem okY_pc (Y : YEnv) (σ : Sg) (g : FuncId) (cap : List PV) (fns : List (FuncId × List PV)) (es : List Int) (o : Own) (τ : Sg) (hall : AskAll Y σ fns es) (hl : fns.length < 2 ^ 30) (he : firstE es = 0) (hdo : PC Tryz.prog Y g cap σ (.tuple []) τ) (hcl2 : CleanSg σ → CleanSg τ) (h1 : τ.store.length = σ.store.length) (h2 : τ.rooms.length = σ.rooms.length) (h3 : τ.ys.length = σ.ys.length) :
 PC Tryz.prog Y 272 [.func (.func g) [] cap, .isl (fns.map fnPV) o] σ (.tuple [txt okT, I 0]) (τ) := by
 refine PC_of_W Tryz.func272 rfl (by kernel_rfl) Tryz.ntmps272 (by simp) fun hcl hca => ?_
 refine W_sr [0, 1] fun R hR => ?_
 simp only [go_sem]
 refine hR _ _ ?_; clear hR R
 try simp only [go_sem]
 refine W_seq fun Z2 K2 => ?_
 refine W_sr [0, 6] fun R hR => ?_
 simp only [go_sem]
 refine GCall_of (PC.val (v' := I 0) (first_pc Y _ fns es o hall hl) (by rw [he])) ?_
 simp only [go_sem]
 refine hR _ _ ?_; clear hR R
 try simp only [go_sem]
 refine W_sr [0, 6, 10] fun R hR => ?_
 simp only [go_sem]
 refine hR _ _ ?_; clear hR R
 try simp only [go_sem]
 refine W_cond_false rfl ?_
 refine W_skip (K2 _ _ ?_)
 refine W_sr [] fun R hR => ?_
 simp only [go_sem]
 refine GCall_of (hdo) ?_
 simp only [go_sem]
 refine hR _ _ ?_; clear hR R
 try simp only [go_sem]
 refine W_sr [4, 5] fun R hR => ?_
 simp only [go_sem]
 refine hR _ _ ?_; clear hR R
 try simp only [go_sem]
 refine W_ret ?_
 simp only [go_sem]
 refine ⟨.inr (by trivial), ?_⟩
 exact Fin_end (hcl2 hcl) h1 h2 h3 rfl (Wk_eq rfl (by simp only [go_sem]))
 try simp only [go_sem]
 all_goals
  skip
set_option maxHeartbeats 2000000 in
theorem okN_pc (Y : YEnv) (σ : Sg) (g : FuncId) (cap : List PV) (fns : List (FuncId × List PV)) (es : List Int) (o : Own) (hall : AskAll Y σ fns es) (hl : fns.length < 2 ^ 30) (e : Int) (he : firstE es = e) (h0 : e ≠ 0) :
 PC Tryz.prog Y 272 [.func (.func g) [] cap, .isl (fns.map fnPV) o] σ (.tuple [txt [], I e]) (σ) := by
 refine PC_of_W Tryz.func272 rfl (by kernel_rfl) Tryz.ntmps272 (by simp) fun hcl hca => ?_
 refine W_sr [0, 1] fun R hR => ?_
 simp only [go_sem]
 refine hR _ _ ?_; clear hR R
 try simp only [go_sem]
 refine W_seq fun Z2 K2 => ?_
 refine W_sr [0, 6] fun R hR => ?_
 simp only [go_sem]
 refine GCall_of (PC.val (v' := I e) (first_pc Y _ fns es o hall hl) (by rw [he])) ?_
 simp only [go_sem]
 refine hR _ _ ?_; clear hR R
 try simp only [go_sem]
 refine W_sr [0, 6, 10] fun R hR => ?_
 simp only [go_sem]
 refine hR _ _ ?_; clear hR R
 try simp only [go_sem]
 refine W_cond rfl (fun c1 => ?_) (fun c1 => ?_)
 ·
  try simp only [nrm] at c1
  refine W_sr [4, 5] fun R hR => ?_
  simp only [go_sem]
  refine hR _ _ ?_; clear hR R
  try simp only [go_sem]
  refine W_ret ?_
  simp only [go_sem]
  refine ⟨.inr (by trivial), ?_⟩
  first | refine Fsa hcl rfl ?_ | refine Fse hcl rfl ?_
  try simp only [go_sem]
  all_goals
   first | rfl | simp
 try simp only [nrm] at c1
 exfalso
 exact h0 (by omega)
set_option maxHeartbeats 2000000 in
theorem at1_pc (Y : YEnv) (σ : Sg) (j4 j1 i r : Nat) (n sec : Int) (st : List Int) (x : Director) (q : PV) (hd4 : σ.store[j4]? = some (some [I n])) (hd1 : σ.store[j1]? = some (some [.ptr i 0, q])) (hk : DkS σ i r sec st x) :
 PC Tryz.prog Y 273 [.ptr j4 0, .ptr j1 0] σ (.tuple []) (dkSg σ i r n st x) := by
 refine PC_of_W Tryz.func273 rfl (by kernel_rfl) Tryz.ntmps273 (by simp) fun hcl hca => ?_
 refine W_region [] fun R hR => ?_
 simp only [go_sem, ldS_at hd4, ldS_at hd1, ldA_at hk.hd, ldS_at hk.hd, stX_at hk.hd, Mk.scCells, Bd.ctCells, shCells, ruCells]
 refine hR _ _ ?_; clear hR R
 try simp only [go_sem, ldS_at hd4, ldS_at hd1, ldA_at hk.hd, ldS_at hk.hd, stX_at hk.hd, Mk.scCells, Bd.ctCells, shCells, ruCells]
 try simp only [go_sem, ldS_at hd4, ldS_at hd1, ldA_at hk.hd, ldS_at hk.hd, stX_at hk.hd, Mk.scCells, Bd.ctCells, shCells, ruCells]
 refine ⟨.inl (by trivial), ?_⟩
 have e := dkSg_room (i := i) (sec := n) (x := x) hk.hr
 simp only [go_sem, Mk.scCells, Bd.ctCells] at e
 rw [← e]
 exact Fin_end (dkSg_clean hk.lr hcl) dkSg_len dkSg_rooms rfl rfl (Wk_eq rfl (by simp only [go_sem]))
 try simp only [go_sem]
 all_goals
  skip
set_option maxHeartbeats 2000000 in
theorem at2_pc (Y : YEnv) (σ : Sg) (j4 j1 i r : Nat) (n sec : Int) (st : List Int) (x : Director) (q : PV) (hd4 : σ.store[j4]? = some (some [I n])) (hd1 : σ.store[j1]? = some (some [.ptr i 0, q])) (hk : DkS σ i r sec st x) :
 PC Tryz.prog Y 274 [.ptr j4 0, .ptr j1 0] σ (I (unl (inR n sec 43199) 2)) (σ) := by
 refine PC_of_W Tryz.func274 rfl (by kernel_rfl) Tryz.ntmps274 (by simp) fun hcl hca => ?_
 refine W_sr [0, 1] fun R hR => ?_
 simp only [go_sem, ldS_at hd4, ldS_at hd1, ldA_at hk.hd, ldS_at hk.hd, stX_at hk.hd, Mk.scCells, Bd.ctCells, shCells, ruCells]
 refine hR _ _ ?_; clear hR R
 try simp only [go_sem, ldS_at hd4, ldS_at hd1, ldA_at hk.hd, ldS_at hk.hd, stX_at hk.hd, Mk.scCells, Bd.ctCells, shCells, ruCells]
 refine W_seq fun Z2 K2 => ?_
 refine W_draw [2] [0, 1, 2, 3, 4, 5, 6, 7, 8, 9] [] [[], [], [1], [1, 2], [1, 2, 3], [1, 2, 3, 4], [1, 2, 3, 4, 5], [0, 1, 2, 3, 4, 5, 6], [0, 1, 2, 3, 4, 5, 6, 7], [0, 1, 2, 3, 4, 5, 6, 7, 8]] mixed (by kernel_rfl) fun R hR => ?_
 simp only [go_sem, ldS_at hd4, ldS_at hd1, ldA_at hk.hd, ldS_at hk.hd, stX_at hk.hd, Mk.scCells, Bd.ctCells, shCells, ruCells]
 refine GCall_of (Ni.in_pc Y _ n sec 43199) ?_
 simp only [go_sem, ldS_at hd4, ldS_at hd1, ldA_at hk.hd, ldS_at hk.hd, stX_at hk.hd, Mk.scCells, Bd.ctCells, shCells, ruCells]
 refine GCall_of (unless_pc Y _ _ 2) ?_
 simp only [go_sem, ldS_at hd4, ldS_at hd1, ldA_at hk.hd, ldS_at hk.hd, stX_at hk.hd, Mk.scCells, Bd.ctCells, shCells, ruCells]
 try refine And.intro (by repeat' (first | refine And.intro ?_ ?_ | exact trivial | exact GOr_right (fun _ => by simp only [go_sem, ldS_at hd4, ldS_at hd1, ldA_at hk.hd, ldS_at hk.hd, stX_at hk.hd, Mk.scCells, Bd.ctCells, shCells, ruCells]))) ?_
 refine hR _ _ (K2 _ _ ?_); clear hR R; try clear K2 Z2
 try simp only [go_sem, ldS_at hd4, ldS_at hd1, ldA_at hk.hd, ldS_at hk.hd, stX_at hk.hd, Mk.scCells, Bd.ctCells, shCells, ruCells]
 refine W_ret ?_
 simp only [go_sem, ldS_at hd4, ldS_at hd1, ldA_at hk.hd, ldS_at hk.hd, stX_at hk.hd, Mk.scCells, Bd.ctCells, shCells, ruCells]
 refine ⟨.inr (by trivial), ?_⟩
 first | refine Fsa hcl rfl ?_ | refine Fse hcl rfl ?_
 try simp only [go_sem]
 all_goals
  first | rfl | (simp_all; done) | (simp_all; omega)
set_option maxHeartbeats 2000000 in
theorem atY_pc (Y : YEnv) (σ : Sg) (i r : Nat) (n sec : Int) (st : List Int) (x : Director) (o : Own) (hk : DkS σ i r sec st x) (h : inR n sec 43199 = true) :
 PC Tryz.prog Y 227 [.agg [.ptr i 0, .isl [I n] o]] σ (.tuple [txt okT, I 0]) (dkSg σ i r n st x) := by
 refine PC_of_W Tryz.func227 rfl (by kernel_rfl) Tryz.ntmps227 (by simp) fun hcl hca => ?_
 have hli := hk.li
 have hlr := hk.lr
 refine W_sr [1] fun R hR => ?_
 simp only [go_sem]
 refine hR _ _ ?_; clear hR R
 try simp only [go_sem]
 refine W_sr [1, 4] fun R hR => ?_
 simp only [go_sem]
 refine hR _ _ ?_; clear hR R
 try simp only [go_sem]
 refine W_sr [2, 3] fun R hR => ?_
 simp only [go_sem, dkSg_ext hli hlr]
 refine GCall_of (okY_pc Y _ 273 [.ptr (σ.store.length + 1) 0, .ptr σ.store.length 0] [(274, [.ptr (σ.store.length + 1) 0, .ptr σ.store.length 0])] [unl (inR n sec 43199) 2] _ _ (.cons (at2_pc Y _ (σ.store.length + 1) σ.store.length i r n sec st x _ (Sg.get_ext ..) (Sg.get_ext0 ..) (hk.ext _ _)) (fun _ => .nil) rfl) (by simp) (by rw [h]; rfl) (at1_pc Y _ (σ.store.length + 1) σ.store.length i r n sec st x _ (Sg.get_ext ..) (Sg.get_ext0 ..) (hk.ext _ _)) (dkSg_clean (by simp only [go_sem]; omega)) dkSg_len dkSg_rooms rfl) ?_
 simp only [go_sem, dkSg_ext hli hlr]
 refine hR _ _ ?_; clear hR R
 try simp only [go_sem]
 refine W_ret ?_
 simp only [go_sem]
 refine ⟨.inr (by trivial), ?_⟩
 exact Fin_ext1 dkSg_len dkSg_rooms rfl (dkSg_clean hk.lr hcl) rfl (Wk_eq rfl (by simp only [go_sem]))
 try simp only [go_sem]
 all_goals
  skip
set_option maxHeartbeats 2000000 in
theorem atN_pc (Y : YEnv) (σ : Sg) (i r : Nat) (n sec : Int) (st : List Int) (x : Director) (o : Own) (hk : DkS σ i r sec st x) (h : inR n sec 43199 = false) :
 PC Tryz.prog Y 227 [.agg [.ptr i 0, .isl [I n] o]] σ (.tuple [txt [], I 2]) (σ) := by
 refine PC_of_W Tryz.func227 rfl (by kernel_rfl) Tryz.ntmps227 (by simp) fun hcl hca => ?_
 refine W_sr [1] fun R hR => ?_
 simp only [go_sem]
 refine hR _ _ ?_; clear hR R
 try simp only [go_sem]
 refine W_sr [1, 4] fun R hR => ?_
 simp only [go_sem]
 refine hR _ _ ?_; clear hR R
 try simp only [go_sem]
 refine W_sr [2, 3] fun R hR => ?_
 simp only [go_sem]
 refine GCall_of (okN_pc Y _ 273 [.ptr (σ.store.length + 1) 0, .ptr σ.store.length 0] [(274, [.ptr (σ.store.length + 1) 0, .ptr σ.store.length 0])] [unl (inR n sec 43199) 2] _ (.cons (at2_pc Y _ (σ.store.length + 1) σ.store.length i r n sec st x _ (Sg.get_ext ..) (Sg.get_ext0 ..) (hk.ext _ _)) (fun _ => .nil) rfl) (by simp) 2 (by rw [h]; rfl) (by decide)) ?_
 simp only [go_sem]
 refine hR _ _ ?_; clear hR R
 try simp only [go_sem]
 refine W_ret ?_
 simp only [go_sem]
 refine ⟨.inr (by trivial), ?_⟩
 first | refine Fsa hcl rfl ?_ | refine Fse hcl rfl ?_
 try simp only [go_sem]
 all_goals
  first | rfl | (simp_all; done) | (simp_all; omega)
open Go Go.RowKit Pa Ni
/-- How long a director's school may be. -/
structure ScL (x : Director) : Prop where
 nm : ∀ v, v ∈ x.school.wings → v.name.length ≤ 2 ^ 62
 w8 : x.school.wings.length ≤ 8
theorem takeSch_nm {x : Director} (h : ScL x) (k : Nat) : ∀ v, v ∈ (takeSch x.school k).wings → v.name.length ≤ 2 ^ 62 := fun v hv => h.nm v (List.mem_of_mem_take hv)
theorem takeSch_len {x : Director} (h : ScL x) (k : Nat) : (takeSch x.school k).wings.length < 2 ^ 40 := by
 have := h.w8
 simp only [takeSch, List.length_take]; omega
theorem shPV_take (s : School) (k : Nat) : shPV (takeSch s k) = .agg [I s.route, wgs (s.wings.take k)] := rfl
theorem wing_es (x : Director) (sec : Int) (st : List Int) : firstE [unl (decide ((st.length : Int) < x.school.wings.length)) 11, chkSt (takeSch x.school (st.length + 1)) (rowS st ++ [sinceS ⟨sec, st⟩])] = wingE x ⟨sec, st⟩ := by
 unfold wingE
 by_cases h : st.length < x.school.wings.length
 ·have h2 : ((st.length : Int) < x.school.wings.length) := by omega
  simp only [firstE, unl, h, h2, decide_true, not_true, if_true, if_false, ne_eq]
  by_cases h3 : chkSt (takeSch x.school (st.length + 1)) (rowS st ++ [sinceS ⟨sec, st⟩]) = 0 <;> simp [h3]
 have h2 : ¬ ((st.length : Int) < x.school.wings.length) := by omega
 simp [firstE, unl, h, h2]
attribute [go_sem] rowS_len
section
variable {σ : Sg} {i r n k off : Nat}
theorem ldS_sr : ldS (σ.setRoom r n) i off = ldS σ i off := rfl
theorem ldA_sr : ldA k (σ.setRoom r n) i off = ldA k σ i off := rfl
theorem stX_sr {cs : List PV} (h : σ.store[i]? = some (some cs)) (p : PV) : stX k (σ.setRoom r n) i off p = if defd p && p.cells.all PV.scalar && (p.cells.length == k) && decide (off + p.cells.length ≤ cs.length) then some ((σ.setRoom r n).setVar i (putCells cs off p.cells)) else none := stX_at (σ := σ.setRoom r n) h p
end
set_option maxHeartbeats 2000000 in
theorem wing1_pc (Y : YEnv) (σ : Sg) (j4 j1 i r : Nat) (sec : Int) (st : List Int) (x : Director) (q : PV) (hd4 : σ.store[j4]? = some (some [I st.length])) (hd1 : σ.store[j1]? = some (some [.ptr i 0, q])) (hk : DkS σ i r sec st x) (h8 : st.length ≤ 100) :
 PC Tryz.prog Y 275 [.ptr j1 0] σ (.tuple []) (dkSg σ i r sec (st ++ [sec]) x) := by
 refine PC_of_W Tryz.func275 rfl (by kernel_rfl) Tryz.ntmps275 (by simp) fun hcl hca => ?_
 have hap : appX 1 8 σ (st.map I) (.tok r st.length 1) [I sec] = some (.isl (st.map I ++ [I sec]) (.tok r (st.length + 1) 1), σ.setRoom r (st.length + 1)) := Mk.appOne (by rfl) (by simp; omega) hk.hr
 refine W_draw [] [0, 1, 2, 3, 4, 5, 6, 7, 8, 9, 10, 11, 12, 13, 14, 15, 16, 17, 18, 19] [(0, 19), (1, 19)] [[], [0], [], [2], [2, 3], [2, 3, 4], [2, 3, 4, 5], [2, 3, 4, 5, 6], [], [8], [8, 9], [8, 9, 10], [8, 9, 10, 11], [8, 9, 10, 11, 12], [8, 9, 10, 11, 12, 13], [2, 3, 4, 5, 6, 7, 8, 9, 10, 11, 12, 13, 14], [0, 1, 2, 3, 4, 5, 6, 7, 8, 9, 10, 11, 12, 13, 14, 15], [0, 1, 2, 3, 4, 5, 6, 7, 8, 9, 10, 11, 12, 13, 14, 15, 16], [0, 1, 2, 3, 4, 5, 6, 7, 8, 9, 10, 11, 12, 13, 14, 15, 16, 17], [0, 1, 2, 3, 4, 5, 6, 7, 8, 9, 10, 11, 12, 13, 14, 15, 16, 17, 18]] mixed (by kernel_rfl) fun R hR => ?_
 simp only [go_sem, ldS_at hd4, ldS_at hd1, ldA_at hk.hd, ldS_at hk.hd, stX_at hk.hd, Mk.scCells, Bd.ctCells, shCells, ruCells, hap, ldS_sr, ldA_sr, stX_sr hk.hd]
 try simp (disch := (first | omega | (simp only [go_sem, List.length_append] <;> omega))) only [wrapI, wrapU, appX_exact, appX_tok, strAdd, slT, slTa, slTb]
 try simp only [go_sem, ldS_at hd4, ldS_at hd1, ldA_at hk.hd, ldS_at hk.hd, stX_at hk.hd, Mk.scCells, Bd.ctCells, shCells, ruCells, hap, ldS_sr, ldA_sr, stX_sr hk.hd]
 try refine And.intro (by repeat' (first | refine And.intro ?_ ?_ | exact trivial | exact GOr_right (fun _ => by simp only [go_sem, ldS_at hd4, ldS_at hd1, ldA_at hk.hd, ldS_at hk.hd, stX_at hk.hd, Mk.scCells, Bd.ctCells, shCells, ruCells, hap, ldS_sr, ldA_sr, stX_sr hk.hd]))) ?_
 refine hR _ _ ?_; clear hR R
 try simp only [go_sem, ldS_at hd4, ldS_at hd1, ldA_at hk.hd, ldS_at hk.hd, stX_at hk.hd, Mk.scCells, Bd.ctCells, shCells, ruCells, hap, ldS_sr, ldA_sr, stX_sr hk.hd]
 try simp only [go_sem, ldS_at hd4, ldS_at hd1, ldA_at hk.hd, ldS_at hk.hd, stX_at hk.hd, Mk.scCells, Bd.ctCells, shCells, ruCells, hap, ldS_sr, ldA_sr, stX_sr hk.hd]
 refine ⟨.inl (by trivial), ?_⟩
 have e : dkSg σ i r sec (st ++ [sec]) x = (σ.setRoom r (st.length + 1)).setVar i (wkCells sec (st ++ [sec]) (.tok r (st.length + 1) 1) x) := by simp only [dkSg, List.length_append, List.length_cons, List.length_nil]
 simp only [go_sem, Mk.scCells, Bd.ctCells, intsO, List.map_append, List.map_cons, List.map_nil] at e
 rw [← e]
 exact Fin_end (dkSg_clean hk.lr hcl) dkSg_len dkSg_rooms rfl rfl (Wk_eq rfl (by simp only [go_sem]))
 try simp only [go_sem]
 all_goals
  skip
set_option maxHeartbeats 2000000 in
theorem wing2_pc (Y : YEnv) (σ : Sg) (j4 j1 i r : Nat) (sec : Int) (st : List Int) (x : Director) (q : PV) (hd4 : σ.store[j4]? = some (some [I st.length])) (hd1 : σ.store[j1]? = some (some [.ptr i 0, q])) (hk : DkS σ i r sec st x) :
 PC Tryz.prog Y 276 [.ptr j4 0, .ptr j1 0] σ (I (unl (decide ((st.length : Int) < x.school.wings.length)) 11)) (σ) := by
 refine PC_of_W Tryz.func276 rfl (by kernel_rfl) Tryz.ntmps276 (by simp) fun hcl hca => ?_
 refine W_sr [0, 1] fun R hR => ?_
 simp only [go_sem, ldS_at hd4, ldS_at hd1, ldA_at hk.hd, ldS_at hk.hd, stX_at hk.hd, Mk.scCells, Bd.ctCells, shCells, ruCells]
 refine hR _ _ ?_; clear hR R
 try simp only [go_sem, ldS_at hd4, ldS_at hd1, ldA_at hk.hd, ldS_at hk.hd, stX_at hk.hd, Mk.scCells, Bd.ctCells, shCells, ruCells]
 refine W_seq fun Z2 K2 => ?_
 refine W_draw [2] [0, 1, 2, 3, 4, 5, 6, 7, 8, 9, 10, 11] [] [[], [], [1], [1, 2], [1, 2, 3], [1, 2, 3, 4], [1, 2, 3, 4, 5], [1, 2, 3, 4, 5, 6], [1, 2, 3, 4, 5, 6, 7], [0, 1, 2, 3, 4, 5, 6, 7, 8], [0, 1, 2, 3, 4, 5, 6, 7, 8, 9], [0, 1, 2, 3, 4, 5, 6, 7, 8, 9, 10]] mixed (by kernel_rfl) fun R hR => ?_
 simp only [go_sem, ldS_at hd4, ldS_at hd1, ldA_at hk.hd, ldS_at hk.hd, stX_at hk.hd, Mk.scCells, Bd.ctCells, shCells, ruCells]
 refine GCall_of (unless_pc Y _ _ 11) ?_
 simp only [go_sem, ldS_at hd4, ldS_at hd1, ldA_at hk.hd, ldS_at hk.hd, stX_at hk.hd, Mk.scCells, Bd.ctCells, shCells, ruCells]
 try refine And.intro (by repeat' (first | refine And.intro ?_ ?_ | exact trivial | exact GOr_right (fun _ => by simp only [go_sem, ldS_at hd4, ldS_at hd1, ldA_at hk.hd, ldS_at hk.hd, stX_at hk.hd, Mk.scCells, Bd.ctCells, shCells, ruCells]))) ?_
 refine hR _ _ (K2 _ _ ?_); clear hR R; try clear K2 Z2
 try simp only [go_sem, ldS_at hd4, ldS_at hd1, ldA_at hk.hd, ldS_at hk.hd, stX_at hk.hd, Mk.scCells, Bd.ctCells, shCells, ruCells]
 refine W_ret ?_
 simp only [go_sem, ldS_at hd4, ldS_at hd1, ldA_at hk.hd, ldS_at hk.hd, stX_at hk.hd, Mk.scCells, Bd.ctCells, shCells, ruCells]
 refine ⟨.inr (by trivial), ?_⟩
 first | refine Fsa hcl rfl ?_ | refine Fse hcl rfl ?_
 try simp only [go_sem]
 all_goals
  first | rfl | (simp_all; done) | (simp_all; omega)
set_option maxHeartbeats 4000000 in
theorem wing3_pc (Y : YEnv) (σ : Sg) (j4 j1 i r : Nat) (sec : Int) (st : List Int) (x : Director) (q : PV) (hd4 : σ.store[j4]? = some (some [I st.length])) (hd1 : σ.store[j1]? = some (some [.ptr i 0, q])) (hk : DkS σ i r sec st x) (hok : DkOK x sec st) (hs : ScL x) (hlt : st.length < x.school.wings.length) :
 PC Tryz.prog Y 277 [.ptr j1 0, .ptr j4 0] σ (I (chkSt (takeSch x.school (st.length + 1)) (rowS st ++ [sinceS ⟨sec, st⟩]))) (σ) := by
 refine PC_of_W Tryz.func277 rfl (by kernel_rfl) Tryz.ntmps277 (by simp) fun hcl hca => ?_
 have h8 := hs.w8
 have hww : IntKind.i64.wrap ((st.length : Int) + 1) = ((st.length + 1 : Nat) : Int) := by rw [wrapI (by omega) (by omega)]; omega
 have hle : st.length + 1 ≤ x.school.wings.length := by omega
 obtain ⟨sn, hsn⟩ : ∃ z, sinceS ⟨sec, st⟩ = z := ⟨_, rfl⟩
 have hcs : ∀ l rm, PC Tryz.prog Y 104 [.agg [I x.school.route, wgs (x.school.wings.take (st.length + 1))], .isl ((rowS st).map I ++ [I sn]) .ro] (σ.ext l rm) (I (chkSt (takeSch x.school (st.length + 1)) (rowS st ++ [sn]))) (σ.ext l rm) := fun l rm => by
  have h := CheckStarts_pc Y (σ.ext l rm) (takeSch x.school (st.length + 1)) (rowS st ++ [sn]) .ro (takeSch_nm hs _) (takeSch_len hs _)
  simp only [intsO, List.map_append, List.map_cons, List.map_nil] at h
  exact h
 rw [hsn]
 refine W_sr [0, 1] fun R hR => ?_
 simp only [go_sem, ldS_at (get_extx hd4), ldS_at (get_extx hd1), ldA_at (get_extx hk.hd), ldS_at (get_extx hk.hd), ldS_at hd4, ldS_at hd1, ldA_at hk.hd, ldS_at hk.hd, stX_at hk.hd, Mk.scCells, Bd.ctCells, shCells, ruCells]
 refine hR _ _ ?_; clear hR R
 try simp only [go_sem, ldS_at (get_extx hd4), ldS_at (get_extx hd1), ldA_at (get_extx hk.hd), ldS_at (get_extx hk.hd), ldS_at hd4, ldS_at hd1, ldA_at hk.hd, ldS_at hk.hd, stX_at hk.hd, Mk.scCells, Bd.ctCells, shCells, ruCells]
 refine W_sr [0, 1, 3, 4] fun R hR => ?_
 simp only [go_sem, ldS_at (get_extx hd4), ldS_at (get_extx hd1), ldA_at (get_extx hk.hd), ldS_at (get_extx hk.hd), ldS_at hd4, ldS_at hd1, ldA_at hk.hd, ldS_at hk.hd, stX_at hk.hd, Mk.scCells, Bd.ctCells, shCells, ruCells, shPV_take]
 refine GCall_of (row_pc Y _ i sec st _ x hk.hd hok h8) ?_
 simp only [go_sem, ldS_at (get_extx hd4), ldS_at (get_extx hd1), ldA_at (get_extx hk.hd), ldS_at (get_extx hk.hd), ldS_at hd4, ldS_at hd1, ldA_at hk.hd, ldS_at hk.hd, stX_at hk.hd, Mk.scCells, Bd.ctCells, shCells, ruCells, shPV_take]
 refine hR _ _ ?_; clear hR R
 try simp only [go_sem, ldS_at (get_extx hd4), ldS_at (get_extx hd1), ldA_at (get_extx hk.hd), ldS_at (get_extx hk.hd), ldS_at hd4, ldS_at hd1, ldA_at hk.hd, ldS_at hk.hd, stX_at hk.hd, Mk.scCells, Bd.ctCells, shCells, ruCells]
 refine W_seq fun Z3 K3 => ?_
 refine W_draw [0, 3, 4] [0, 1, 2, 3, 4, 5, 6, 7, 8, 9, 10, 11] [] [[], [0], [0, 1], [0, 1, 2], [0, 1, 2, 3], [0, 1, 2, 3, 4], [0, 1, 2, 3, 4, 5], [], [7], [0, 1, 2, 3, 4, 5, 6, 7, 8], [0, 1, 2, 3, 4, 5, 6, 7, 8, 9], [0, 1, 2, 3, 4, 5, 6, 7, 8, 9, 10]] mixed (by kernel_rfl) fun R hR => ?_
 simp only [go_sem, ldS_at (get_extx hd4), ldS_at (get_extx hd1), ldA_at (get_extx hk.hd), ldS_at (get_extx hk.hd), ldS_at hd4, ldS_at hd1, ldA_at hk.hd, ldS_at hk.hd, stX_at hk.hd, Mk.scCells, Bd.ctCells, shCells, ruCells, hww, hle, ← List.map_take]
 try simp (disch := (first | omega | (simp only [go_sem, List.length_append] <;> omega))) only [wrapI, wrapU, strAdd, slT, slTa, slTb]
 try refine And.intro (by repeat' (first | refine And.intro ?_ ?_ | exact trivial | exact GOr_right (fun _ => by simp only [go_sem, ldS_at (get_extx hd4), ldS_at (get_extx hd1), ldA_at (get_extx hk.hd), ldS_at (get_extx hk.hd), ldS_at hd4, ldS_at hd1, ldA_at hk.hd, ldS_at hk.hd, stX_at hk.hd, Mk.scCells, Bd.ctCells, shCells, ruCells, hww, hle, ← List.map_take]))) ?_
 refine hR _ _ (K3 _ _ ?_); clear hR R; try clear K3 Z3
 try simp only [go_sem, ldS_at (get_extx hd4), ldS_at (get_extx hd1), ldA_at (get_extx hk.hd), ldS_at (get_extx hk.hd), ldS_at hd4, ldS_at hd1, ldA_at hk.hd, ldS_at hk.hd, stX_at hk.hd, Mk.scCells, Bd.ctCells, shCells, ruCells]
 refine W_seq fun Z4 K4 => ?_
 refine W_draw [2] [0, 1, 2, 3, 4, 5, 6, 7, 8] [(0, 6), (0, 7), (1, 6)] [[], [], [], [2], [2, 3], [2, 3, 4], [1, 2, 3, 4, 5], [0, 1, 2, 3, 4, 5, 6], [0, 1, 2, 3, 4, 5, 6, 7]] mixed (by kernel_rfl) fun R hR => ?_
 simp only [go_sem, ldS_at (get_extx hd4), ldS_at (get_extx hd1), ldA_at (get_extx hk.hd), ldS_at (get_extx hk.hd), ldS_at hd4, ldS_at hd1, ldA_at hk.hd, ldS_at hk.hd, stX_at hk.hd, Mk.scCells, Bd.ctCells, shCells, ruCells]
 refine GCall_of (PC.val (v' := I sn) (since_pc Y _ i sec st _ x (hk.ext _ _).hd hok h8) (by rw [hsn])) ?_
 simp only [go_sem, ldS_at (get_extx hd4), ldS_at (get_extx hd1), ldA_at (get_extx hk.hd), ldS_at (get_extx hk.hd), ldS_at hd4, ldS_at hd1, ldA_at hk.hd, ldS_at hk.hd, stX_at hk.hd, Mk.scCells, Bd.ctCells, shCells, ruCells]
 try simp (disch := (first | omega | (simp only [go_sem, List.length_append] <;> omega))) only [wrapI, wrapU, appX_exact, appX_tok, strAdd, slT, slTa, slTb]
 try simp only [go_sem, ldS_at (get_extx hd4), ldS_at (get_extx hd1), ldA_at (get_extx hk.hd), ldS_at (get_extx hk.hd), ldS_at hd4, ldS_at hd1, ldA_at hk.hd, ldS_at hk.hd, stX_at hk.hd, Mk.scCells, Bd.ctCells, shCells, ruCells]
 refine GCall_of (PC.ofRo (hcs _ _) (by simp only [go_sem] <;> rfl)) ?_
 simp only [go_sem, ldS_at (get_extx hd4), ldS_at (get_extx hd1), ldA_at (get_extx hk.hd), ldS_at (get_extx hk.hd), ldS_at hd4, ldS_at hd1, ldA_at hk.hd, ldS_at hk.hd, stX_at hk.hd, Mk.scCells, Bd.ctCells, shCells, ruCells]
 try refine And.intro (by repeat' (first | refine And.intro ?_ ?_ | exact trivial | exact GOr_right (fun _ => by simp only [go_sem, ldS_at (get_extx hd4), ldS_at (get_extx hd1), ldA_at (get_extx hk.hd), ldS_at (get_extx hk.hd), ldS_at hd4, ldS_at hd1, ldA_at hk.hd, ldS_at hk.hd, stX_at hk.hd, Mk.scCells, Bd.ctCells, shCells, ruCells]))) ?_
 refine hR _ _ (K4 _ _ ?_); clear hR R; try clear K4 Z4
 try simp only [go_sem, ldS_at (get_extx hd4), ldS_at (get_extx hd1), ldA_at (get_extx hk.hd), ldS_at (get_extx hk.hd), ldS_at hd4, ldS_at hd1, ldA_at hk.hd, ldS_at hk.hd, stX_at hk.hd, Mk.scCells, Bd.ctCells, shCells, ruCells]
 refine W_ret ?_
 simp only [go_sem, ldS_at (get_extx hd4), ldS_at (get_extx hd1), ldA_at (get_extx hk.hd), ldS_at (get_extx hk.hd), ldS_at hd4, ldS_at hd1, ldA_at hk.hd, ldS_at hk.hd, stX_at hk.hd, Mk.scCells, Bd.ctCells, shCells, ruCells]
 refine ⟨.inr (by trivial), ?_⟩
 first | refine Fsa hcl rfl ?_ | refine Fse hcl rfl ?_
 try simp only [go_sem]
 all_goals
  first | rfl | (simp_all; done) | (simp_all; omega)
set_option maxHeartbeats 2000000 in
theorem wingY_pc (Y : YEnv) (σ : Sg) (i r : Nat) (sec : Int) (st : List Int) (x : Director) (q : PV) (hq : Clean σ.store.length σ.rooms.length σ.ys.length q) (hk : DkS σ i r sec st x) (hok : DkOK x sec st) (hs : ScL x) (h : wingE x ⟨sec, st⟩ = 0) :
 PC Tryz.prog Y 228 [.agg [.ptr i 0, q]] σ (.tuple [txt okT, I 0]) (dkSg σ i r sec (st ++ [sec]) x) := by
 refine PC_of_W Tryz.func228 rfl (by kernel_rfl) Tryz.ntmps228 (by simp) fun hcl hca => ?_
 have hli := hk.li
 have hlr := hk.lr
 have h8 := hs.w8
 have hln := hok.ln
 refine W_sr [1] fun R hR => ?_
 simp only [go_sem, ldA_at hk.hd, ldS_at hk.hd, ldS_at (get_extx hk.hd), ldA_at (get_extx hk.hd), Mk.scCells, Bd.ctCells, shCells, ruCells]
 refine hR _ _ ?_; clear hR R
 try simp only [go_sem, ldA_at hk.hd, ldS_at hk.hd, ldS_at (get_extx hk.hd), ldA_at (get_extx hk.hd), Mk.scCells, Bd.ctCells, shCells, ruCells]
 refine W_sr [1, 4] fun R hR => ?_
 simp only [go_sem, ldA_at hk.hd, ldS_at hk.hd, ldS_at (get_extx hk.hd), ldA_at (get_extx hk.hd), Mk.scCells, Bd.ctCells, shCells, ruCells]
 refine hR _ _ ?_; clear hR R
 try simp only [go_sem, ldA_at hk.hd, ldS_at hk.hd, ldS_at (get_extx hk.hd), ldA_at (get_extx hk.hd), Mk.scCells, Bd.ctCells, shCells, ruCells]
 refine W_sr [2, 3] fun R hR => ?_
 simp only [go_sem, ldA_at hk.hd, ldS_at hk.hd, ldS_at (get_extx hk.hd), ldA_at (get_extx hk.hd), Mk.scCells, Bd.ctCells, shCells, ruCells, dkSg_ext hli hlr]
 refine GCall_of (okY_pc Y _ 275 [.ptr σ.store.length 0] [(276, [.ptr (σ.store.length + 1) 0, .ptr σ.store.length 0]), (277, [.ptr σ.store.length 0, .ptr (σ.store.length + 1) 0])] [_, _] _ _ (.cons (wing2_pc Y _ (σ.store.length + 1) σ.store.length i r sec st x _ (Sg.get_ext ..) (Sg.get_ext0 ..) (hk.ext _ _)) (fun he => .cons (wing3_pc Y _ (σ.store.length + 1) σ.store.length i r sec st x _ (Sg.get_ext ..) (Sg.get_ext0 ..) (hk.ext _ _) hok hs (by simp only [unl] at he; split at he <;> simp_all)) (fun _ => .nil) rfl) rfl) (by simp) (by rw [wing_es]; exact h) (wing1_pc Y _ (σ.store.length + 1) σ.store.length i r sec st x _ (Sg.get_ext ..) (Sg.get_ext0 ..) (hk.ext _ _) (by omega)) (dkSg_clean (by simp only [go_sem]; omega)) dkSg_len dkSg_rooms rfl) ?_
 simp only [go_sem, ldA_at hk.hd, ldS_at hk.hd, ldS_at (get_extx hk.hd), ldA_at (get_extx hk.hd), Mk.scCells, Bd.ctCells, shCells, ruCells, dkSg_ext hli hlr]
 refine hR _ _ ?_; clear hR R
 try simp only [go_sem, ldA_at hk.hd, ldS_at hk.hd, ldS_at (get_extx hk.hd), ldA_at (get_extx hk.hd), Mk.scCells, Bd.ctCells, shCells, ruCells]
 refine W_ret ?_
 simp only [go_sem, ldA_at hk.hd, ldS_at hk.hd, ldS_at (get_extx hk.hd), ldA_at (get_extx hk.hd), Mk.scCells, Bd.ctCells, shCells, ruCells]
 refine ⟨.inr (by trivial), ?_⟩
 exact Fin_ext1 dkSg_len dkSg_rooms rfl (dkSg_clean hk.lr hcl) rfl (Wk_eq rfl (by simp only [go_sem]))
 try simp only [go_sem]
 all_goals
  skip
set_option maxHeartbeats 2000000 in
theorem wingN_pc (Y : YEnv) (σ : Sg) (i r : Nat) (sec : Int) (st : List Int) (x : Director) (q : PV) (hq : Clean σ.store.length σ.rooms.length σ.ys.length q) (hk : DkS σ i r sec st x) (hok : DkOK x sec st) (hs : ScL x) (h : wingE x ⟨sec, st⟩ ≠ 0) :
 PC Tryz.prog Y 228 [.agg [.ptr i 0, q]] σ (.tuple [txt [], I (wingE x ⟨sec, st⟩)]) (σ) := by
 refine PC_of_W Tryz.func228 rfl (by kernel_rfl) Tryz.ntmps228 (by simp) fun hcl hca => ?_
 have h8 := hs.w8
 have hln := hok.ln
 refine W_sr [1] fun R hR => ?_
 simp only [go_sem, ldA_at hk.hd, ldS_at hk.hd, ldS_at (get_extx hk.hd), ldA_at (get_extx hk.hd), Mk.scCells, Bd.ctCells, shCells, ruCells]
 refine hR _ _ ?_; clear hR R
 try simp only [go_sem, ldA_at hk.hd, ldS_at hk.hd, ldS_at (get_extx hk.hd), ldA_at (get_extx hk.hd), Mk.scCells, Bd.ctCells, shCells, ruCells]
 refine W_sr [1, 4] fun R hR => ?_
 simp only [go_sem, ldA_at hk.hd, ldS_at hk.hd, ldS_at (get_extx hk.hd), ldA_at (get_extx hk.hd), Mk.scCells, Bd.ctCells, shCells, ruCells]
 refine hR _ _ ?_; clear hR R
 try simp only [go_sem, ldA_at hk.hd, ldS_at hk.hd, ldS_at (get_extx hk.hd), ldA_at (get_extx hk.hd), Mk.scCells, Bd.ctCells, shCells, ruCells]
 refine W_sr [2, 3] fun R hR => ?_
 simp only [go_sem, ldA_at hk.hd, ldS_at hk.hd, ldS_at (get_extx hk.hd), ldA_at (get_extx hk.hd), Mk.scCells, Bd.ctCells, shCells, ruCells]
 refine GCall_of (okN_pc Y _ 275 [.ptr σ.store.length 0] [(276, [.ptr (σ.store.length + 1) 0, .ptr σ.store.length 0]), (277, [.ptr σ.store.length 0, .ptr (σ.store.length + 1) 0])] [_, _] _ (.cons (wing2_pc Y _ (σ.store.length + 1) σ.store.length i r sec st x _ (Sg.get_ext ..) (Sg.get_ext0 ..) (hk.ext _ _)) (fun he => .cons (wing3_pc Y _ (σ.store.length + 1) σ.store.length i r sec st x _ (Sg.get_ext ..) (Sg.get_ext0 ..) (hk.ext _ _) hok hs (by simp only [unl] at he; split at he <;> simp_all)) (fun _ => .nil) rfl) rfl) (by simp) (wingE x ⟨sec, st⟩) (wing_es x sec st) h) ?_
 simp only [go_sem, ldA_at hk.hd, ldS_at hk.hd, ldS_at (get_extx hk.hd), ldA_at (get_extx hk.hd), Mk.scCells, Bd.ctCells, shCells, ruCells]
 refine hR _ _ ?_; clear hR R
 try simp only [go_sem, ldA_at hk.hd, ldS_at hk.hd, ldS_at (get_extx hk.hd), ldA_at (get_extx hk.hd), Mk.scCells, Bd.ctCells, shCells, ruCells]
 refine W_ret ?_
 simp only [go_sem, ldA_at hk.hd, ldS_at hk.hd, ldS_at (get_extx hk.hd), ldA_at (get_extx hk.hd), Mk.scCells, Bd.ctCells, shCells, ruCells]
 refine ⟨.inr (by trivial), ?_⟩
 first | refine Fsa hcl rfl ?_ | refine Fse hcl rfl ?_
 try simp only [go_sem]
 all_goals
  first | rfl | (simp_all; done) | (simp_all; omega)
open Go Go.RowKit Pa Ni
theorem verdict_bd (r : Rules) (x : Int × Int) : 1 ≤ verdict r x ∧ verdict r x ≤ 3 := by
 unfold verdict
 split
 ·omega
 split <;> omega
theorem lastsA_bd (s : School) (st : List Int) (r : Rules) : (0 ≤ (lastsA s st r).1 ∧ (lastsA s st r).1 ≤ 3) ∧ (-2 ^ 40 ≤ (lastsA s st r).2.1.1 ∧ (lastsA s st r).2.1.1 ≤ 2 ^ 40) ∧ (-2 ^ 40 ≤ (lastsA s st r).2.1.2 ∧ (lastsA s st r).2.1.2 ≤ 2 ^ 40) := by
 unfold lastsA
 split
 ·simp
 rename_i h
 split
 ·simp
 obtain ⟨hV, hl, hb⟩ := chkSt_ok (s := s) (st := st) (by omega)
 have hw := hV.wl
 have hS : StV st (s.wings.length - 1) := StV_of (by omega) fun i _ => hb i
 have h1 := lasts_bd hV hS 1
 have h0 := lasts_bd hV hS 0
 have hv := verdict_bd r (lastsW s st)
 simp only [lastsW] at hv ⊢
 exact ⟨by omega, h1, h0⟩
theorem evG : (4 = toldG) = True := eq_true rfl
theorem iaT {n : Int} : indexAddrPV Tryz.prog 361 (.eptr 4 [.agg (toldL.map .str)] 0 0) (.int .i64 n) = if 0 ≤ n ∧ n < 4 then some (.eptr 4 [.agg (toldL.map .str)] 0 (0 + n.toNat * 1)) else none := iaE_of Tryz.underlying361 Tryz.underlying9 cells9 .i64 n
theorem elT {n : Int} (h : 0 ≤ n ∧ n ≤ 3) : elS [.agg (toldL.map .str)] 0 (n.toNat * 1) = some (txt (toldT n)) := by
 obtain ⟨k, hk⟩ : ∃ k : Nat, n = k := ⟨n.toNat, by omega⟩
 subst hk
 have : k = 0 ∨ k = 1 ∨ k = 2 ∨ k = 3 := by omega
 rcases this with rfl | rfl | rfl | rfl <;> rfl
set_option maxHeartbeats 2000000 in
theorem lastsN_pc (Y : YEnv) (σ : Sg) (i r : Nat) (sec : Int) (st : List Int) (x : Director) (q : PV) (hq : Clean σ.store.length σ.rooms.length σ.ys.length q) (hk : DkS σ i r sec st x) (hok : DkOK x sec st) (hs : ScL x) (h : st.length < x.school.wings.length) :
 PC Tryz.prog Y 231 [.agg [.ptr i 0, q]] σ (.tuple [txt [], I 11]) (σ) := by
 refine PC_of_W Tryz.func231 rfl (by kernel_rfl) Tryz.ntmps231 (by simp) fun hcl hca => ?_
 have h8 := hs.w8
 have hln := hok.ln
 have htl : (takeSch x.school st.length).wings.length = st.length := by simp only [takeSch, List.length_take]; omega
 have hlt : ((st.length : Int) < (x.school.wings.length : Int)) = True := eq_true (by omega)
 refine W_sr [1] fun R hR => ?_
 simp only [go_sem, ldA_at hk.hd, ldS_at hk.hd, ldS_at (get_extx hk.hd), ldA_at (get_extx hk.hd), htl, Mk.scCells, Bd.ctCells, shCells, ruCells]
 refine hR _ _ ?_; clear hR R
 try simp only [go_sem, ldA_at hk.hd, ldS_at hk.hd, ldS_at (get_extx hk.hd), ldA_at (get_extx hk.hd), htl, Mk.scCells, Bd.ctCells, shCells, ruCells]
 refine W_sr [1, 4, 5] fun R hR => ?_
 simp only [go_sem, ldA_at hk.hd, ldS_at hk.hd, ldS_at (get_extx hk.hd), ldA_at (get_extx hk.hd), htl, Mk.scCells, Bd.ctCells, shCells, ruCells]
 refine GCall_of (row_pc Y _ i sec st _ x (hk.ext _ _).hd hok h8) ?_
 simp only [go_sem, ldA_at hk.hd, ldS_at hk.hd, ldS_at (get_extx hk.hd), ldA_at (get_extx hk.hd), htl, Mk.scCells, Bd.ctCells, shCells, ruCells]
 refine hR _ _ ?_; clear hR R
 try simp only [go_sem, ldA_at hk.hd, ldS_at hk.hd, ldS_at (get_extx hk.hd), ldA_at (get_extx hk.hd), htl, Mk.scCells, Bd.ctCells, shCells, ruCells]
 refine W_seq fun Z3 K3 => ?_
 refine W_seq fun Z4 K4 => ?_
 refine W_draw [1, 4, 5, 26] [0, 1, 2, 3, 4, 5, 6, 7, 8, 9, 10, 11] [] [[], [0], [0, 1], [], [3], [3, 4], [3, 4, 5], [3, 4, 5, 6], [3, 4, 5, 6, 7], [3, 4, 5, 6, 7, 8], [3, 4, 5, 6, 7, 8, 9], [0, 1, 2, 3, 4, 5, 6, 7, 8, 9, 10]] mixed (by kernel_rfl) fun R hR => ?_
 simp only [go_sem, ldA_at hk.hd, ldS_at hk.hd, ldS_at (get_extx hk.hd), ldA_at (get_extx hk.hd), htl, Mk.scCells, Bd.ctCells, shCells, ruCells, hlt, decide_true]
 try refine And.intro (by repeat' (first | refine And.intro ?_ ?_ | exact trivial | exact GOr_right (fun _ => by simp only [go_sem, ldA_at hk.hd, ldS_at hk.hd, ldS_at (get_extx hk.hd), ldA_at (get_extx hk.hd), htl, Mk.scCells, Bd.ctCells, shCells, ruCells, hlt, decide_true]))) ?_
 refine hR _ _ (K4 _ _ ?_); clear hR R; try clear K4 Z4
 try simp only [go_sem, ldA_at hk.hd, ldS_at hk.hd, ldS_at (get_extx hk.hd), ldA_at (get_extx hk.hd), htl, Mk.scCells, Bd.ctCells, shCells, ruCells]
 refine W_cond_true rfl ?_
 refine W_sr [2, 3] fun R hR => ?_
 simp only [go_sem, ldA_at hk.hd, ldS_at hk.hd, ldS_at (get_extx hk.hd), ldA_at (get_extx hk.hd), htl, Mk.scCells, Bd.ctCells, shCells, ruCells]
 refine hR _ _ ?_; clear hR R
 try simp only [go_sem, ldA_at hk.hd, ldS_at hk.hd, ldS_at (get_extx hk.hd), ldA_at (get_extx hk.hd), htl, Mk.scCells, Bd.ctCells, shCells, ruCells]
 refine W_ret ?_
 simp only [go_sem, ldA_at hk.hd, ldS_at hk.hd, ldS_at (get_extx hk.hd), ldA_at (get_extx hk.hd), htl, Mk.scCells, Bd.ctCells, shCells, ruCells]
 refine ⟨.inr (by trivial), ?_⟩
 first | refine Fsa hcl rfl ?_ | refine Fse hcl rfl ?_
 try simp only [go_sem]
 all_goals
  first | rfl | (simp_all; done) | (simp_all; omega)
set_option maxHeartbeats 8000000 in
theorem lastsY_pc (Y : YEnv) (σ : Sg) (i r : Nat) (sec : Int) (st : List Int) (x : Director) (q : PV) (hq : Clean σ.store.length σ.rooms.length σ.ys.length q) (hk : DkS σ i r sec st x) (hok : DkOK x sec st) (hs : ScL x) (h : ¬ st.length < x.school.wings.length) (v lo hi e : Int) (hv : lastsA (takeSch x.school st.length) (rowS st) x.rules = (v, (lo, hi), e)) :
 PC Tryz.prog Y 231 [.agg [.ptr i 0, q]] σ (.tuple [txt (wordsT (toldT v) [lo, hi]), I e]) (σ) := by
 refine PC_of_W Tryz.func231 rfl (by kernel_rfl) Tryz.ntmps231 (by simp) fun hcl hca => ?_
 have h8 := hs.w8
 have hln := hok.ln
 have htl : (takeSch x.school st.length).wings.length = st.length := by simp only [takeSch, List.length_take]; omega
 have hlt : ((st.length : Int) < (x.school.wings.length : Int)) = False := eq_false (by omega)
 have hbd := lastsA_bd (takeSch x.school st.length) (rowS st) x.rules
 rw [hv] at hbd
 simp only at hbd
 have hix : (0 ≤ v ∧ v < 4) = True := eq_true (by omega)
 have hel := elT (n := v) (by omega)
 have hfi : FitsI [lo, hi] := fun n hn => by
  simp only [List.mem_cons, List.not_mem_nil, or_false] at hn
  rcases hn with rfl | rfl <;> omega
 have hwl : (toldT v).length ≤ 2 ^ 40 := by
  unfold toldT
  split
  ·decide
  split
  ·decide
  split <;> decide
 have hla : ∀ l rm o, PC Tryz.prog Y 10 [.agg [I (takeSch x.school st.length).route, wgs (takeSch x.school st.length).wings], .isl ((rowS st).map I) o, .agg [I x.rules.least, I x.rules.most, I x.rules.gap]] (σ.ext l rm) (.tuple [I v, .agg [I lo, I hi], I e]) (σ.ext l rm) := fun l rm o => by
  have h := Lasts_pc Y (σ.ext l rm) (takeSch x.school st.length) (rowS st) o x.rules (takeSch_nm hs _) (takeSch_len hs _)
  rw [hv] at h
  exact h
 have hww : ∀ l rm, PC Tryz.prog Y 244 [txt (toldT v), .isl [I lo, I hi] .exact] (σ.ext l rm) (txt (wordsT (toldT v) [lo, hi])) (σ.ext l rm) := fun l rm => words_pc Y _ (toldT v) [lo, hi] .exact hwl (by simp) hfi
 refine W_sr [1] fun R hR => ?_
 simp only [go_sem, ldA_at hk.hd, ldS_at hk.hd, ldS_at (get_extx hk.hd), ldA_at (get_extx hk.hd), htl, Mk.scCells, Bd.ctCells, shCells, ruCells]
 refine hR _ _ ?_; clear hR R
 try simp only [go_sem, ldA_at hk.hd, ldS_at hk.hd, ldS_at (get_extx hk.hd), ldA_at (get_extx hk.hd), htl, Mk.scCells, Bd.ctCells, shCells, ruCells]
 refine W_sr [1, 4, 5] fun R hR => ?_
 simp only [go_sem, ldA_at hk.hd, ldS_at hk.hd, ldS_at (get_extx hk.hd), ldA_at (get_extx hk.hd), htl, Mk.scCells, Bd.ctCells, shCells, ruCells]
 refine GCall_of (row_pc Y _ i sec st _ x (hk.ext _ _).hd hok h8) ?_
 simp only [go_sem, ldA_at hk.hd, ldS_at hk.hd, ldS_at (get_extx hk.hd), ldA_at (get_extx hk.hd), htl, Mk.scCells, Bd.ctCells, shCells, ruCells]
 refine hR _ _ ?_; clear hR R
 try simp only [go_sem, ldA_at hk.hd, ldS_at hk.hd, ldS_at (get_extx hk.hd), ldA_at (get_extx hk.hd), htl, Mk.scCells, Bd.ctCells, shCells, ruCells]
 refine W_seq fun Z3 K3 => ?_
 refine W_seq fun Z4 K4 => ?_
 refine W_draw [1, 4, 5, 26] [0, 1, 2, 3, 4, 5, 6, 7, 8, 9, 10, 11] [] [[], [0], [0, 1], [], [3], [3, 4], [3, 4, 5], [3, 4, 5, 6], [3, 4, 5, 6, 7], [3, 4, 5, 6, 7, 8], [3, 4, 5, 6, 7, 8, 9], [0, 1, 2, 3, 4, 5, 6, 7, 8, 9, 10]] mixed (by kernel_rfl) fun R hR => ?_
 simp only [go_sem, ldA_at hk.hd, ldS_at hk.hd, ldS_at (get_extx hk.hd), ldA_at (get_extx hk.hd), htl, Mk.scCells, Bd.ctCells, shCells, ruCells, hlt, decide_false]
 try refine And.intro (by repeat' (first | refine And.intro ?_ ?_ | exact trivial | exact GOr_right (fun _ => by simp only [go_sem, ldA_at hk.hd, ldS_at hk.hd, ldS_at (get_extx hk.hd), ldA_at (get_extx hk.hd), htl, Mk.scCells, Bd.ctCells, shCells, ruCells, hlt, decide_false]))) ?_
 refine hR _ _ (K4 _ _ ?_); clear hR R; try clear K4 Z4
 try simp only [go_sem, ldA_at hk.hd, ldS_at hk.hd, ldS_at (get_extx hk.hd), ldA_at (get_extx hk.hd), htl, Mk.scCells, Bd.ctCells, shCells, ruCells]
 refine W_cond_false rfl ?_
 refine W_skip (K3 _ _ ?_)
 refine W_seq fun Z5 K5 => ?_
 refine W_draw [6, 7, 8] [0, 1, 2, 3, 4, 5, 6, 7, 8, 9, 10, 11, 12, 13, 14, 15, 16] [(9, 15), (10, 15), (11, 15), (12, 15), (12, 17), (14, 13)] [[], [], [], [2], [2, 3], [2, 3, 4], [2, 3, 4, 5], [2, 3, 4, 5, 6], [0, 1, 2, 3, 4, 5, 6, 7], [0, 1, 2, 3, 4, 5, 6, 7, 8], [0, 1, 2, 3, 4, 5, 6, 7, 8, 9], [0, 1, 2, 3, 4, 5, 6, 7, 8, 9], [0, 1, 2, 3, 4, 5, 6, 7, 8, 9], [], [0, 1, 2, 3, 4, 5, 6, 7, 8, 9, 10, 13], [0, 1, 2, 3, 4, 5, 6, 7, 8, 9, 10, 11, 13, 14], [0, 1, 2, 3, 4, 5, 6, 7, 8, 9, 10, 11, 12, 13, 14, 15]] mixed (by kernel_rfl) fun R hR => ?_
 simp only [go_sem, ldA_at hk.hd, ldS_at hk.hd, ldS_at (get_extx hk.hd), ldA_at (get_extx hk.hd), htl, Mk.scCells, Bd.ctCells, shCells, ruCells]
 refine GCall_of (hla _ _ _) ?_
 simp only [go_sem, ldA_at hk.hd, ldS_at hk.hd, ldS_at (get_extx hk.hd), ldA_at (get_extx hk.hd), htl, Mk.scCells, Bd.ctCells, shCells, ruCells]
 try refine And.intro (by repeat' (first | refine And.intro ?_ ?_ | exact trivial | exact GOr_right (fun _ => by simp only [go_sem, ldA_at hk.hd, ldS_at hk.hd, ldS_at (get_extx hk.hd), ldA_at (get_extx hk.hd), htl, Mk.scCells, Bd.ctCells, shCells, ruCells]))) ?_
 refine hR _ _ (K5 _ _ ?_); clear hR R; try clear K5 Z5
 try simp only [go_sem, ldA_at hk.hd, ldS_at hk.hd, ldS_at (get_extx hk.hd), ldA_at (get_extx hk.hd), htl, Mk.scCells, Bd.ctCells, shCells, ruCells]
 refine W_seq fun Z6 K6 => ?_
 refine W_draw [2, 3] [0, 1, 2, 3, 4, 5, 6, 7, 8, 9, 10, 11] [(9, 8)] [[], [0], [0, 1], [], [3], [], [5], [3, 4, 5, 6], [0, 1, 2, 3, 4, 5, 6, 7], [], [0, 1, 2, 3, 4, 5, 6, 7, 8], [0, 1, 2, 3, 4, 5, 6, 7, 8, 9, 10]] mixed (by kernel_rfl) fun R hR => ?_
 simp only [go_sem, ldA_at hk.hd, ldS_at hk.hd, ldS_at (get_extx hk.hd), ldA_at (get_extx hk.hd), htl, Mk.scCells, Bd.ctCells, shCells, ruCells, evG, if_true, iaT, hix, hel]
 refine GCall_of (hww _ _) ?_
 simp only [go_sem, ldA_at hk.hd, ldS_at hk.hd, ldS_at (get_extx hk.hd), ldA_at (get_extx hk.hd), htl, Mk.scCells, Bd.ctCells, shCells, ruCells, evG, if_true, iaT, hix, hel]
 try refine And.intro (by repeat' (first | refine And.intro ?_ ?_ | exact trivial | exact GOr_right (fun _ => by simp only [go_sem, ldA_at hk.hd, ldS_at hk.hd, ldS_at (get_extx hk.hd), ldA_at (get_extx hk.hd), htl, Mk.scCells, Bd.ctCells, shCells, ruCells, evG, if_true, iaT, hix, hel]))) ?_
 refine hR _ _ (K6 _ _ ?_); clear hR R; try clear K6 Z6
 try simp only [go_sem, ldA_at hk.hd, ldS_at hk.hd, ldS_at (get_extx hk.hd), ldA_at (get_extx hk.hd), htl, Mk.scCells, Bd.ctCells, shCells, ruCells]
 refine W_ret ?_
 simp only [go_sem, ldA_at hk.hd, ldS_at hk.hd, ldS_at (get_extx hk.hd), ldA_at (get_extx hk.hd), htl, Mk.scCells, Bd.ctCells, shCells, ruCells]
 refine ⟨.inr (by trivial), ?_⟩
 first | refine Fsa hcl rfl ?_ | refine Fse hcl rfl ?_
 try simp only [go_sem]
 all_goals
  first | rfl | (simp_all; done) | (simp_all; omega)
open Go Go.RowKit Pa Ni
theorem own_tok {b r n es : Nat} (h : r < b) : OwnLt b (.tok r n es) := by first | exact h | (intro a c d e; injection e with e _ _; omega)
def itoaN (u : Nat) : List UInt8 := Lib.itoa (u : Int)
abbrev IN (u : Nat) : PV := I (u : Int)
/-- The numbers of a line, in a room of their own. -/
abbrev nsPV (us : List Nat) (o : Own) : PV := .isl (us.map IN) o
theorem okC_IN {xs : List Nat} : okC 1 (xs.map IN) = True := okC_map fun x => by simp [okC, PV.cells, PV.scalar]
theorem cA_IN {a b c : Nat} {xs : List Nat} : CleanAll a b c (xs.map IN) = True := CleanAll_map fun x => .int _ _
theorem iaX_t {p : List UInt8} {l : List PV} : iaX 1 (txt p :: l) 0 = some (.eptr 1 (txt p :: l) 0 0) := by
 unfold iaX
 rw [if_pos ⟨by decide, by simp⟩]
 rfl
theorem elS_t {p : List UInt8} {l : List PV} : elS (txt p :: l) 0 0 = some (txt p) := rfl
attribute [go_sem] okC_IN cA_IN iaX_t elS_t
set_option maxHeartbeats 8000000 in
theorem lineG_pc (Y : YEnv) (σ : Sg) (i r : Nat) (sec : Int) (st : List Int) (x : Director) (s p0 : List UInt8) (us : List Nat) (form : List UInt8) (g : FuncId) (rep : List UInt8) (e : Int) (τ : Sg)
 (hk : DkS σ i r sec st x) (hsp : splitL 32 s = p0 :: us.map itoaN) (hsl : s.length < 1000000) (hul : us.length ≤ 10) (hu : ∀ u, u ∈ us → u ≤ 9999999) (hv : aget p0 verbsL = some (form, g)) (hf : form.length = us.length) (hf2 : ∀ c, c ∈ form → c.toNat < 128 ∧ c.toNat ≠ 43)
 (hdo : ∀ l rm o, OwnLt (σ.rooms.length + rm.length) o → PC Tryz.prog Y g [.agg [.ptr i 0, nsPV us o]] (σ.ext l rm) (.tuple [txt rep, I e]) (τ.ext l rm)) (he : 0 ≤ e ∧ e ≤ 100) (h1 : τ.store.length = σ.store.length) (h2 : τ.rooms.length = σ.rooms.length) (h3 : τ.ys.length = σ.ys.length) (hcl2 : CleanSg σ → CleanSg τ) :
 PC Tryz.prog Y 116 [.ptr i 0, txt s] σ (txt (if e = 0 then rep else errT e)) (τ) := by
 refine PC_of_W Tryz.func116 rfl (by kernel_rfl) Tryz.ntmps116 (by simp) fun hcl hca => ?_
 obtain ⟨W, hW⟩ : ∃ z, us.map itoaN = z := ⟨_, rfl⟩
 have hWl : W.length = us.length := by rw [← hW]; simp
 rw [hW] at hsp
 have hsp2 : ∀ l rm, PC Tryz.prog Y 65 [txt s, .str ⟨#[32]⟩] (σ.ext l rm) (.isl ((p0 :: W).map txt) .exact) (σ.ext l rm) := fun l rm => by
  have h := Split_pc Y (σ.ext l rm) s 32 (by omega)
  rw [hsp] at h
  exact h
 have hsl1 : slicePV Tryz.prog 52 (.isl (txt p0 :: W.map txt) .exact) (some (.int .i64 1)) none none = some (.isl (W.map txt) .exact) := by
  have h := sllT (xs := p0 :: W) (own := .exact) (k := .i64) (n := 1)
  rw [if_pos (by decide), if_pos (by simp)] at h
  exact h
 have hfe : ((us.length : Int) = (form.length : Int)) = True := eq_true (by omega)
 refine W_sr [0, 1] fun R hR => ?_
 simp only [go_sem]
 refine hR _ _ ?_; clear hR R
 try simp only [go_sem]
 refine W_sr [1, 5] fun R hR => ?_
 simp only [go_sem]
 refine hR _ _ ?_; clear hR R
 try simp only [go_sem]
 refine W_sr [5, 6] fun R hR => ?_
 simp only [go_sem]
 refine GCall_of (hsp2 _ _) ?_
 simp only [go_sem]
 refine hR _ _ ?_; clear hR R
 try simp only [go_sem]
 refine W_seq fun Z4 K4 => ?_
 refine W_draw [5, 6, 7, 8] [0, 1, 2, 3, 4, 5, 6, 7, 8, 9, 10] [(1, 0), (1, 9), (2, 0), (2, 9), (3, 0), (3, 9), (4, 9), (5, 9), (6, 9), (7, 9), (7, 11)] [[], [], [1], [1, 2], [0, 1, 2, 3], [0, 1, 2, 3, 4], [0, 1, 2, 3, 4, 5], [0, 1, 2, 3, 4, 5], [], [0, 1, 2, 3, 4, 5, 6, 8], [0, 1, 2, 3, 4, 5, 6, 7, 8, 9]] mixed (by kernel_rfl) fun R hR => ?_
 simp only [go_sem, lkV, lkX_ext, lkMV, hv, Option.map_some, Option.getD_some, Option.isSome_some, packT]
 refine GCall_of (verbs_pc Y _) ?_
 simp only [go_sem, lkV, lkX_ext, lkMV, hv, Option.map_some, Option.getD_some, Option.isSome_some, packT]
 try refine And.intro (by repeat' (first | refine And.intro ?_ ?_ | exact trivial | exact GOr_right (fun _ => by simp only [go_sem, lkV, lkX_ext, lkMV, hv, Option.map_some, Option.getD_some, Option.isSome_some, packT]))) ?_
 refine hR _ _ (K4 _ _ ?_); clear hR R; try clear K4 Z4
 try simp only [go_sem]
 refine W_seq fun Z5 K5 => ?_
 refine W_sr [5, 7, 8, 28, 29, 30] fun R hR => ?_
 simp only [go_sem, hsl1]
 try simp (disch := (first | omega | (simp only [go_sem, List.length_append] <;> omega))) only [wrapI, wrapU, strAdd, slT, slTa, slTb]
 refine hR _ _ ?_; clear hR R
 try simp only [go_sem]
 refine W_block ?_
 refine W_weak (Weak.roomX (j := 0) (off := 1) (es := 1) rfl rfl (by simp)) ?_
 simp only [go_sem]
 refine W_loopT (α := Nat) (fun (k : Nat) => [(8, .bool true), (30, I k)]) (fun (k : Nat) => σ.ext [some [.ptr i 0, nsPV (us.take k) (.tok σ.rooms.length k 1)], some (.mark :: mapE txt vbPV verbsL), some [txt form, .func (.func g) [] []]] [k]) (fun (k : Nat) => k ≤ W.length) (fun (k : Nat) => W.length - k) (0) rfl (by first | rfl | (simp only [go_sem]; done) | (simp only [go_sem]; rfl)) (Nat.zero_le _) ?_
 rintro k hk2
 refine W_sr [5, 7, 8, 28, 29, 30, 31] fun R hR => ?_
 simp only [go_sem]
 refine hR _ _ ?_; clear hR R
 try simp only [go_sem]
 refine W_seq fun Z8 K8 => ?_
 refine W_cond rfl (fun c1 => ?_) (fun c1 => ?_)
 ·
  try simp only [nrm] at c1
  have hi' : k < W.length := by first | assumption | omega
  obtain ⟨w, hx⟩ : ∃ w, W[k]? = some w := ⟨W[k], by simp [hi']⟩
  have hdrop : W.drop k = w :: W.drop (k + 1) := by
   rw [List.drop_eq_getElem_cons hi']; congr 1; exact (List.getElem?_eq_some_iff.1 hx).2
  obtain ⟨u, hux, rfl⟩ : ∃ u, us[k]? = some u ∧ itoaN u = w := by
   rw [← hW, List.getElem?_map, Option.map_eq_some_iff] at hx; exact hx
  have hub := hu u (List.mem_of_getElem? hux)
  have htk : (us.take k).length = k := by rw [List.length_take]; omega
  have htk1 : us.take (k + 1) = us.take k ++ [u] := by rw [List.take_add_one, hux]; rfl
  refine W_skip (K8 _ _ ?_)
  refine W_seq fun Z9 K9 => ?_
  refine W_block ?_
  refine W_sr [5, 7, 8, 10, 28, 29, 30] fun R hR => ?_
  simp only [go_sem, hx, htk]
  refine hR _ _ ?_; clear hR R
  try simp only [go_sem, hx, htk]
  refine W_sr [5, 7, 8, 11, 12, 28, 29, 30] fun R hR => ?_
  simp only [go_sem, hx, htk]
  refine GCall_of (number_pc Y _ u hub) ?_
  simp only [go_sem, hx, htk]
  refine hR _ _ ?_; clear hR R
  try simp only [go_sem, hx, htk]
  refine W_sr [5, 7, 8, 11, 28, 29, 30] fun R hR => ?_
  simp only [go_sem, hx, htk]
  refine hR _ _ ?_; clear hR R
  try simp only [go_sem, hx, htk]
  refine W_region [5, 7, 8, 28, 29, 30] fun R hR => ?_
  simp only [go_sem, hx, htk]
  try simp (disch := (first | omega | (simp only [go_sem, List.length_append] <;> omega))) only [wrapI, wrapU, appX_exact, appX_tok, strAdd, slT, slTa, slTb]
  try simp only [go_sem, hx, htk]
  refine hR _ _ (K9 _ _ ?_); clear hR R; try clear K9 Z9
  try simp only [go_sem, hx, htk]
  refine W_region [5, 7, 8, 28, 29, 30] fun R hR => ?_
  simp only [go_sem, hx, htk]
  try simp (disch := (first | omega | (simp only [go_sem, List.length_append] <;> omega))) only [wrapI, wrapU, strAdd, slT, slTa, slTb]
  refine hR _ _ ?_; clear hR R
  try simp only [go_sem, hx, htk]
  refine ⟨k + 1, ?_, by (try simp only []); omega, ?_⟩
  ·refine Weak.eq (by first | rfl | simp only [go_sem]) (by rw [htk1]; simp only [nsPV, List.map_append, List.map_cons, List.map_nil, go_sem])
  try dsimp only
  omega
 try simp only [nrm] at c1
 have hke : k = us.length := by omega
 subst hke
 simp only [List.take_length]
 refine W_exit ?_
 simp only [go_sem]
 refine K5 _ _ ?_
 refine W_seq fun Z13 K13 => ?_
 refine W_sr [5, 7, 60] fun R hR => ?_
 simp only [go_sem, hfe, decide_true]
 refine GCall_of (suits_pc Y _ form us.length (by omega) (by omega) hf2) ?_
 simp only [go_sem, hfe, decide_true]
 refine hR _ _ ?_; clear hR R
 try simp only [go_sem]
 refine W_cond_false rfl ?_
 refine W_skip (K13 _ _ ?_)
 refine W_sr [13, 14] fun R hR => ?_
 simp only [go_sem]
 refine GCall_of (hdo _ _ _ (own_tok (by simp))) ?_
 simp only [go_sem]
 refine hR _ _ ?_; clear hR R
 try simp only [go_sem]
 refine W_seq fun Z16 K16 => ?_
 refine W_sr [13, 14, 70] fun R hR => ?_
 simp only [go_sem]
 refine hR _ _ ?_; clear hR R
 try simp only [go_sem]
 refine W_cond rfl (fun c2 => ?_) (fun c2 => ?_)
 ·
  try simp only [nrm] at c2
  refine W_sr [4] fun R hR => ?_
  simp only [go_sem]
  refine GCall_of (refusal_pc Y _ e (by omega) (by omega)) ?_
  simp only [go_sem]
  refine hR _ _ ?_; clear hR R
  try simp only [go_sem]
  refine W_ret ?_
  simp only [go_sem]
  refine ⟨.inr (by trivial), ?_⟩
  rw [if_neg (show ¬ e = 0 by omega)]
  exact Fin_ext1 h1 h2 h3 (hcl2 hcl) rfl (Wk_eq rfl (by simp only [go_sem]))
  try simp only [go_sem]
  all_goals
   skip
 try simp only [nrm] at c2
 refine W_skip (K16 _ _ ?_)
 refine W_sr [4] fun R hR => ?_
 simp only [go_sem]
 refine hR _ _ ?_; clear hR R
 try simp only [go_sem]
 refine W_ret ?_
 simp only [go_sem]
 refine ⟨.inr (by trivial), ?_⟩
 rw [if_pos (show e = 0 by omega)]
 exact Fin_ext1 h1 h2 h3 (hcl2 hcl) rfl (Wk_eq rfl (by simp only [go_sem]))
 try simp only [go_sem]
 all_goals
  skip
set_option maxHeartbeats 8000000 in
theorem lineF_pc (Y : YEnv) (σ : Sg) (i : Nat) (s : List UInt8) (hsp : splitL 32 s = [s]) (hsl : s.length < 1000000) (hv : aget s verbsL = none) (hi : i < σ.store.length) :
 PC Tryz.prog Y 116 [.ptr i 0, txt s] σ (txt (errT 1)) (σ) := by
 refine PC_of_W Tryz.func116 rfl (by kernel_rfl) Tryz.ntmps116 (by simp) fun hcl hca => ?_
 have hsp2 : ∀ l rm, PC Tryz.prog Y 65 [txt s, .str ⟨#[32]⟩] (σ.ext l rm) (.isl [txt s] .exact) (σ.ext l rm) := fun l rm => by
  have h := Split_pc Y (σ.ext l rm) s 32 (by omega)
  rw [hsp] at h
  exact h
 have hsl1 : slicePV Tryz.prog 52 (.isl [txt s] .exact) (some (.int .i64 1)) none none = some (.isl [] .exact) := by
  have h := sllT (xs := [s]) (own := .exact) (k := .i64) (n := 1)
  rw [if_pos (by decide), if_pos (by simp)] at h
  exact h
 refine W_sr [0, 1] fun R hR => ?_
 simp only [go_sem]
 refine hR _ _ ?_; clear hR R
 try simp only [go_sem]
 refine W_sr [1, 5] fun R hR => ?_
 simp only [go_sem]
 refine hR _ _ ?_; clear hR R
 try simp only [go_sem]
 refine W_sr [5, 6] fun R hR => ?_
 simp only [go_sem]
 refine GCall_of (hsp2 _ _) ?_
 simp only [go_sem]
 refine hR _ _ ?_; clear hR R
 try simp only [go_sem]
 refine W_seq fun Z4 K4 => ?_
 refine W_draw [5, 6, 7, 8] [0, 1, 2, 3, 4, 5, 6, 7, 8, 9, 10] [(1, 0), (1, 9), (2, 0), (2, 9), (3, 0), (3, 9), (4, 9), (5, 9), (6, 9), (7, 9), (7, 11)] [[], [], [1], [1, 2], [0, 1, 2, 3], [0, 1, 2, 3, 4], [0, 1, 2, 3, 4, 5], [0, 1, 2, 3, 4, 5], [], [0, 1, 2, 3, 4, 5, 6, 8], [0, 1, 2, 3, 4, 5, 6, 7, 8, 9]] mixed (by kernel_rfl) fun R hR => ?_
 simp only [go_sem, lkV, lkX_ext, lkMV, hv, Option.map_none, Option.getD_none, Option.isSome_none, packT]
 refine GCall_of (verbs_pc Y _) ?_
 simp only [go_sem, lkV, lkX_ext, lkMV, hv, Option.map_none, Option.getD_none, Option.isSome_none, packT]
 try refine And.intro (by repeat' (first | refine And.intro ?_ ?_ | exact trivial | exact GOr_right (fun _ => by simp only [go_sem, lkV, lkX_ext, lkMV, hv, Option.map_none, Option.getD_none, Option.isSome_none, packT]))) ?_
 refine hR _ _ (K4 _ _ ?_); clear hR R; try clear K4 Z4
 try simp only [go_sem]
 refine W_seq fun Z5 K5 => ?_
 refine W_sr [5, 7, 8, 28, 29, 30] fun R hR => ?_
 simp only [go_sem, hsl1]
 try simp (disch := (first | omega | (simp only [go_sem, List.length_append] <;> omega))) only [wrapI, wrapU, strAdd, slT, slTa, slTb]
 refine hR _ _ ?_; clear hR R
 try simp only [go_sem]
 refine W_block ?_
 refine W_loopT (α := Nat) (fun (k : Nat) => [(8, .bool false), (30, I k)]) (fun (k : Nat) => σ.ext [some [.ptr i 0, nilS], some (.mark :: mapE txt vbPV verbsL), some [.str ⟨#[]⟩, .nilfunc]] []) (fun (k : Nat) => k = 0) (fun (k : Nat) => 0) (0) rfl (by first | rfl | (simp only [go_sem]; done) | (simp only [go_sem]; rfl)) (rfl) ?_
 rintro k hk2
 refine W_sr [5, 7, 8, 28, 29, 30, 31] fun R hR => ?_
 simp only [go_sem]
 refine hR _ _ ?_; clear hR R
 try simp only [go_sem]
 refine W_seq fun Z8 K8 => ?_
 refine W_cond rfl (fun c1 => ?_) (fun c1 => ?_)
 ·
  try simp only [nrm] at c1
  exfalso
  subst hk2; simp at c1
 try simp only [nrm] at c1
 refine W_exit ?_
 simp only [go_sem]
 refine K5 _ _ ?_
 refine W_seq fun Z9 K9 => ?_
 refine W_sr [5, 7, 60] fun R hR => ?_
 simp only [go_sem]
 refine hR _ _ ?_; clear hR R
 try simp only [go_sem]
 refine W_cond_true rfl ?_
 refine W_sr [4] fun R hR => ?_
 simp only [go_sem]
 refine GCall_of (refusal_pc Y _ 1 (by omega) (by omega)) ?_
 simp only [go_sem]
 refine hR _ _ ?_; clear hR R
 try simp only [go_sem]
 refine W_ret ?_
 simp only [go_sem]
 refine ⟨.inr (by trivial), ?_⟩
 first | refine Fsa hcl rfl ?_ | refine Fse hcl rfl ?_
 try simp only [go_sem]
 all_goals
  first | rfl | (simp_all; done) | (simp_all; omega)
end Go.Proofs.YtpkkegbiddcodaaGreatDoor.Sd
