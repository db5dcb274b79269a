/-
  Walks: scales, judges, marks, seals (marks).
  Walks: what is known of judges (marks).
  What is known of a night: by its envelopes and its absences. The plain law.
  Numbers that follow from numbers (bateriakit): the drum.
  Walks: drums made of numbers, spans (bateriakit).
  A slice of numbers that grows in place in a variable's cell, is sorted, compacted, and read at last.
  Walks: an order made of numbers (bateriakit).
  Walks: scales and seals, as the document has them.
  Walks: scales, marks, envelopes made of numbers (bateriakit).
  Walks: nights made of numbers (bateriakit).
  Nights made of numbers are nights that may be. The plain law.
  Who stands ahead: an order in which no two schools are equal. The plain law.
  Points grow with marks; who may win. The plain law.
  Walks: what is known of a night, or its first error (marks).
-/
import Derived.Test.YtpkkegbiddcodaaGreatPc
import Derived.CallsIn
import Derived.RangeFuncLeaves
import Derived.RangeFuncRecord
import Derived.OrdersIn
import Derived.Below
import Derived.Laws.World
import Derived.Laws.StructEq
import Derived.Laws.BytesString
import Derived.Laws.Append
import Derived.MapKept
import Derived.ProofKit
import Derived.Carry
import Derived.Handed
import Derived.ChangeCalls
import Derived.Stop.Joined
import Derived.Lib.LaidTab
import Derived.Shelf.Strconv.Itoa3
import Derived.RangeFuncIn
import Derived.RangeFuncNested
import Derived.Test.YtpkkegbiddcodaaGreatProg
import Derived.KernelRfl
import Derived.IntWalk
import Derived.Test.YtpkkegbiddcodaaGreatRows
import Derived.Sort.OwnSortedInts
import Derived.Lib.SlicesCompact
import Derived.Shelf.Sort.Plain
import Derived.Shelf.Slices.In.SortNone
import Derived.Shelf.Small.Bits
import Derived.JoinedOf
set_option linter.unusedSimpArgs false
set_option linter.unusedVariables false
namespace Go.Proofs.YtpkkegbiddcodaaGreat.Mk
open Go Go.RowKit
set_option maxRecDepth 100000
theorem ncmp_neq {l : List Int} : nilCmp Tryz.prog .neq 22 (mkPV l) = some (.bool (!l.isEmpty)) := by simp only [nilCmp, nilmk, Option.map_some]
theorem ncmp_eql {l : List Int} : nilCmp Tryz.prog .eql 22 (mkPV l) = some (.bool l.isEmpty) := by simp only [nilCmp, nilmk, Option.map_some]
attribute [go_sem] ncmp_neq ncmp_eql
theorem inR_true {n lo hi : Int} : inR n lo hi = true ↔ lo ≤ n ∧ n ≤ hi := by simp [inR]
theorem ofSc_true {s : Scale} {j : Int × Int} : ofSc s j = true ↔ (0 ≤ j.1 ∧ j.1 ≤ s.matters - 1) ∧ (0 ≤ j.2 ∧ j.2 ≤ s.judges - 1) := by simp [ofSc, inR_true]
structure Scale.V (s : Scale) : Prop where
 sc : 1 ≤ s.schools ∧ s.schools ≤ 8
 mt : 1 ≤ s.matters ∧ s.matters ≤ 6
 jd : 1 ≤ s.judges ∧ s.judges ≤ 5
 dr : 0 ≤ s.drop ∧ s.drop ≤ s.judges - 1
 lo : 0 ≤ s.low ∧ s.low ≤ 100
 hi : 0 ≤ s.high ∧ s.high ≤ 100
 lh : s.low ≤ s.high
 ol : (s.order.length : Int) = s.matters
 od : chkOrd s.matters [] s.order = 0
 c : chkSc s = 0
structure Scale.Ok (s : Scale) : Prop where
 ho : s.order.length < 2 ^ 40
theorem Scale.v {s : Scale} (h : chkSc s = 0) : s.V := by
 have h0 := h
 unfold chkSc at h
 by_cases h1 : scRange s = true
 ·rw [h1] at h
  simp only [Bool.not_true, Bool.false_eq_true, if_false] at h
  split at h
  ·omega
  split at h
  ·omega
  rename_i h2 h3
  simp only [scRange, Bool.and_eq_true, inR_true] at h1
  exact ⟨h1.1, h1.2.1, h1.2.2.1, h1.2.2.2.1, h1.2.2.2.2.1, h1.2.2.2.2.2, by omega, by simpa using h3, h, h0⟩
 have : scRange s = false := by simpa using h1
 rw [this] at h
 simp at h
theorem marked_ok {s : Scale} {j : Int × Int} {l : List Int} (h : marked s j l = 0) : ofSc s j = true ∧ (l.length : Int) = s.schools ∧ ∀ x, x ∈ l → s.low ≤ x ∧ x ≤ s.high := by
 unfold marked at h
 by_cases h1 : ofSc s j = true
 ·rw [h1] at h
  simp only [Bool.not_true, Bool.false_eq_true, if_false] at h
  split at h
  ·omega
  split at h
  ·omega
  rename_i h2 h3
  refine ⟨h1, by simpa using h2, fun x hx => ?_⟩
  simp only [outMarks, List.any_eq_true, not_exists, not_and, Bool.not_eq_true', Bool.not_eq_false] at h3
  exact inR_true.1 (h3 x hx)
 have : ofSc s j = false := by simpa using h1
 rw [this] at h
 simp at h
theorem marked_of {s : Scale} {j : Int × Int} {l : List Int} (h1 : ofSc s j = true) (h2 : (l.length : Int) = s.schools) (h3 : ∀ x, x ∈ l → s.low ≤ x ∧ x ≤ s.high) : marked s j l = 0 := by
 unfold marked
 rw [h1, if_neg (by simp), if_neg (by omega), if_neg]
 simp only [outMarks, List.any_eq_true, not_exists, not_and, Bool.not_eq_true', Bool.not_eq_false]
 exact fun x hx => inR_true.2 (h3 x hx)
/-- The first place of a number, or -1. -/
def fIdx {α : Type} (q : α → Bool) : Nat → List α → Int
 | _, [] => -1
 | i, x :: l => if q x then (i : Int) else fIdx q (i + 1) l
theorem fIdx_anyi {α : Type} (q : α → Bool) : ∀ (l : List α) (i : Nat), decide (0 ≤ fIdx q i l) = l.any q := by
 intro l
 induction l with
 | nil => intro i; simp [fIdx]
 | cons x l ih =>
  intro i
  by_cases h : q x = true
  ·have e : fIdx q i (x :: l) = (i : Int) := by simp only [fIdx]; rw [if_pos h]
   rw [e]; simp [h]
  have e : fIdx q i (x :: l) = fIdx q (i + 1) l := by simp only [fIdx]; rw [if_neg h]
  rw [e, ih (i + 1), List.any_cons]
  have h' : q x = false := by simpa using h
  rw [h', Bool.false_or]
theorem has_comm (l : List Int) (v : Int) : (l.any fun x => decide (v = x)) = has l v := by
 unfold has
 congr 1
 funext x
 rw [Bool.eq_iff_iff]
 simp [eq_comm]
theorem fIdx_any {α : Type} (q : α → Bool) (l : List α) : decide (0 ≤ fIdx q 0 l) = l.any q := fIdx_anyi q l 0
theorem beqB {a b : Bool} : eqPV Tryz.prog 4 (.bool a) (.bool b) = some (decide (a = b)) := by cases a <;> cases b <;> kernel_rfl
set_option maxHeartbeats 2000000 in
theorem in_pc (Y : YEnv) (σ : Sg) (n lo hi : Int) :
 PC Tryz.prog Y 59 [I n, I lo, I hi] σ (.bool (inR n lo hi)) (σ) := by
 refine PC_of_W Tryz.func59 rfl (by kernel_rfl) Tryz.ntmps59 (by simp) fun hcl hca => ?_
 refine W_sr [0, 1, 2] fun R hR => ?_
 simp only [go_sem]
 refine hR _ _ ?_; clear hR R
 try simp only [go_sem]
 refine W_sr [6] fun R hR => ?_
 simp only [go_sem]
 refine GWant_split (fun g1 => ?_) (fun g1 => ?_)
 ·try simp only [Bool.not_eq_true', Bool.not_eq_false'] at g1
  have n1 := g1; try simp only [nrm] at n1
  simp only [go_sem, g1]
  refine hR _ _ ?_; clear hR R
  try simp only [go_sem]
  refine W_ret ?_
  simp only [go_sem]
  refine ⟨.inr (by trivial), ?_⟩
  first | refine Fsa hcl rfl ?_ | refine Fse hcl rfl ?_
  try simp only [go_sem]
  all_goals
   simp [inR, *]
 try simp only [Bool.not_eq_true', Bool.not_eq_false'] at g1
 have n1 := g1; try simp only [nrm] at n1
 simp only [go_sem, g1]
 refine hR _ _ ?_; clear hR R
 try simp only [go_sem]
 refine W_ret ?_
 simp only [go_sem]
 refine ⟨.inr (by trivial), ?_⟩
 first | refine Fsa hcl rfl ?_ | refine Fse hcl rfl ?_
 try simp only [go_sem]
 all_goals
  simp [inR, *]
set_option maxHeartbeats 2000000 in
theorem index_pc (Y : YEnv) (σ : Sg) (l : List Int) (o : Own) (v : Int) (hl : l.length < 2 ^ 62) :
 PC Tryz.prog Y 90 [intsO o l, I v] σ (I (fIdx (fun x => decide (v = x)) 0 l)) (σ) := by
 refine PC_of_W Tryz.func90 rfl (by kernel_rfl) Tryz.ntmps90 (by simp) fun hcl hca => ?_
 refine W_sr [0, 1] fun R hR => ?_
 simp only [go_sem]
 refine hR _ _ ?_; clear hR R
 try simp only [go_sem]
 refine W_seq fun Z2 K2 => ?_
 refine W_sr [0, 1, 7, 8] fun R hR => ?_
 simp only [go_sem]
 refine hR _ _ ?_; clear hR R
 try simp only [go_sem]
 refine W_block ?_
 refine W_loopS (α := Nat) (fun (i : Nat) => [(8, I i)]) (fun (i : Nat) => i ≤ l.length ∧ fIdx (fun x => decide (v = x)) i (l.drop i) = fIdx (fun x => decide (v = x)) 0 l) (fun (i : Nat) => l.length - i) (0) rfl (⟨Nat.zero_le _, rfl⟩) ?_
 rintro i ⟨hi, hinv⟩
 refine W_sr [0, 1, 7, 8, 9] fun R hR => ?_
 simp only [go_sem]
 refine hR _ _ ?_; clear hR R
 try simp only [go_sem]
 refine W_seq fun Z5 K5 => ?_
 refine W_cond rfl (fun c1 => ?_) (fun c1 => ?_)
 ·
  try simp only [nrm] at c1
  have hi' : i < l.length := by first | assumption | omega
  obtain ⟨x, hx⟩ : ∃ x, l[i]? = some x := ⟨l[i], by simp [hi']⟩
  have hdrop : l.drop i = x :: l.drop (i + 1) := by
   rw [List.drop_eq_getElem_cons hi']; congr 1; exact (List.getElem?_eq_some_iff.1 hx).2
  rw [hdrop] at hinv
  simp only [fIdx] at hinv
  refine W_skip (K5 _ _ ?_)
  refine W_seq fun Z6 K6 => ?_
  refine W_block ?_
  refine W_sr [0, 1, 5, 7, 8] fun R hR => ?_
  simp only [go_sem, hx]
  refine hR _ _ ?_; clear hR R
  try simp only [go_sem, hx]
  refine W_sr [0, 1, 5, 7, 8, 16] fun R hR => ?_
  simp only [go_sem, hx]
  refine hR _ _ ?_; clear hR R
  try simp only [go_sem, hx]
  refine W_cond rfl (fun c2 => ?_) (fun c2 => ?_)
  ·
   try simp only [nrm] at c2
   refine W_sr [4] fun R hR => ?_
   simp only [go_sem, hx]
   refine hR _ _ ?_; clear hR R
   try simp only [go_sem, hx]
   refine W_ret ?_
   simp only [go_sem, hx]
   refine ⟨.inr (by trivial), ?_⟩
   first | refine Fsa hcl rfl ?_ | refine Fse hcl rfl ?_
   try simp only [go_sem]
   all_goals
    first | rfl | (simp_all; done) | (simp_all; omega)
  try simp only [nrm] at c2
  refine W_skip (K6 _ _ ?_)
  refine W_region [0, 1, 7, 8] fun R hR => ?_
  simp only [go_sem, hx]
  try simp (disch := omega) only [wrapI, wrapU]
  refine hR _ _ ?_; clear hR R
  try simp only [go_sem, hx]
  refine ⟨i + 1, ?_, by (try simp only []); omega, ?_⟩
  ·first | exact Weak.refl | exact Wqq
  try dsimp only
  exact ⟨hi', by simp_all⟩
 try simp only [nrm] at c1
 have hdrop : l.drop i = [] := List.drop_eq_nil_of_le (by omega)
 rw [hdrop] at hinv
 simp only [fIdx] at hinv
 refine W_exit ?_
 simp only [go_sem]
 refine K2 _ _ ?_
 refine W_sr [4] fun R hR => ?_
 simp only [go_sem]
 refine hR _ _ ?_; clear hR R
 try simp only [go_sem]
 refine W_ret ?_
 simp only [go_sem]
 refine ⟨.inr (by trivial), ?_⟩
 first | refine Fsa hcl rfl ?_ | refine Fse hcl rfl ?_
 try simp only [go_sem]
 all_goals
  first | rfl | (simp_all; done) | (simp_all; omega)
set_option maxHeartbeats 2000000 in
theorem contains_pc (Y : YEnv) (σ : Sg) (l : List Int) (o : Own) (v : Int) (hl : l.length < 2 ^ 62) :
 PC Tryz.prog Y 60 [intsO o l, I v] σ (.bool (has l v)) (σ) := by
 refine PC_of_W Tryz.func60 rfl (by kernel_rfl) Tryz.ntmps60 (by simp) fun hcl hca => ?_
 refine W_sr [0, 1] fun R hR => ?_
 simp only [go_sem]
 refine hR _ _ ?_; clear hR R
 try simp only [go_sem]
 refine W_sr [4] fun R hR => ?_
 simp only [go_sem]
 refine GCall_of (index_pc Y _ l o v hl) ?_
 simp only [go_sem]
 refine hR _ _ ?_; clear hR R
 try simp only [go_sem]
 refine W_ret ?_
 simp only [go_sem]
 refine ⟨.inr (by trivial), ?_⟩
 first | refine Fsa hcl rfl ?_ | refine Fse hcl rfl ?_
 try simp only [go_sem]
 all_goals
  simp only [fIdx_any, has_comm, go_sem]
set_option maxHeartbeats 4000000 in
theorem Check_pc (Y : YEnv) (σ : Sg) (s : Scale) (hs : s.Ok) :
 PC Tryz.prog Y 32 [scPV s] σ (I (chkSc s)) (σ) := by
 refine PC_of_W Tryz.func32 rfl (by kernel_rfl) Tryz.ntmps32 (by simp) fun hcl hca => ?_
 have ho := hs.ho
 obtain ⟨res, hres⟩ : ∃ r, chkSc s = r := ⟨_, rfl⟩
 rw [hres]
 refine W_sr [1] fun R hR => ?_
 simp only [go_sem]
 refine hR _ _ ?_; clear hR R
 try simp only [go_sem]
 refine W_seq fun Z2 K2 => ?_
 refine W_block ?_
 refine W_seq fun Z3 K3 => ?_
 refine W_sr [1, 5] fun R hR => ?_
 simp only [go_sem]
 refine GCall_of (in_pc Y _ s.schools 1 8) ?_
 simp only [go_sem]
 refine hR _ _ ?_; clear hR R
 try simp only [go_sem]
 refine W_cond rfl (fun c1 => ?_) (fun c1 => ?_)
 ·
  try simp only [nrm] at c1
  refine W_skip (K3 _ _ ?_)
  refine W_cond_true (by first | rfl | (simp only [go_sem]; simp [c1])) ?_
  refine W_sr [2] fun R hR => ?_
  simp only [go_sem]
  refine hR _ _ ?_; clear hR R
  try simp only [go_sem]
  refine W_ret ?_
  simp only [go_sem]
  refine ⟨.inr (by trivial), ?_⟩
  first | refine Fsa hcl rfl ?_ | refine Fse hcl rfl ?_
  try simp only [go_sem]
  all_goals
   first | rfl | (simp_all; done) | (rw [← hres]; simp [chkSc, scRange, *]; done) | (rw [← hres]; simp [chkSc, scRange, *]; omega) | (simp_all; omega)
 try simp only [nrm] at c1
 refine W_sr [1, 5] fun R hR => ?_
 simp only [go_sem]
 refine GCall_of (in_pc Y _ s.matters 1 6) ?_
 simp only [go_sem]
 refine hR _ _ ?_; clear hR R
 try simp only [go_sem]
 refine W_cond rfl (fun c2 => ?_) (fun c2 => ?_)
 ·
  try simp only [nrm] at c2
  refine W_skip (K3 _ _ ?_)
  refine W_cond_true (by first | rfl | (simp only [go_sem]; simp [c2])) ?_
  refine W_sr [2] fun R hR => ?_
  simp only [go_sem]
  refine hR _ _ ?_; clear hR R
  try simp only [go_sem]
  refine W_ret ?_
  simp only [go_sem]
  refine ⟨.inr (by trivial), ?_⟩
  first | refine Fsa hcl rfl ?_ | refine Fse hcl rfl ?_
  try simp only [go_sem]
  all_goals
   first | rfl | (simp_all; done) | (rw [← hres]; simp [chkSc, scRange, *]; done) | (rw [← hres]; simp [chkSc, scRange, *]; omega) | (simp_all; omega)
 try simp only [nrm] at c2
 refine W_sr [1, 5] fun R hR => ?_
 simp only [go_sem]
 refine GCall_of (in_pc Y _ s.judges 1 5) ?_
 simp only [go_sem]
 refine hR _ _ ?_; clear hR R
 try simp only [go_sem]
 refine W_cond rfl (fun c3 => ?_) (fun c3 => ?_)
 ·
  try simp only [nrm] at c3
  refine W_skip (K3 _ _ ?_)
  refine W_cond_true (by first | rfl | (simp only [go_sem]; simp [c3])) ?_
  refine W_sr [2] fun R hR => ?_
  simp only [go_sem]
  refine hR _ _ ?_; clear hR R
  try simp only [go_sem]
  refine W_ret ?_
  simp only [go_sem]
  refine ⟨.inr (by trivial), ?_⟩
  first | refine Fsa hcl rfl ?_ | refine Fse hcl rfl ?_
  try simp only [go_sem]
  all_goals
   first | rfl | (simp_all; done) | (rw [← hres]; simp [chkSc, scRange, *]; done) | (rw [← hres]; simp [chkSc, scRange, *]; omega) | (simp_all; omega)
 try simp only [nrm] at c3
 have d3 : inR s.judges 1 5 = true := by simp_all
 simp only [inR_true] at d3
 refine W_sr [1, 5] fun R hR => ?_
 simp only [go_sem]
 skip
 try simp (disch := omega) only [wrapI, wrapU]
 refine GCall_of (in_pc Y _ s.drop 0 _) ?_
 simp only [go_sem]
 try simp (disch := omega) only [wrapI, wrapU]
 refine hR _ _ ?_; clear hR R
 try simp only [go_sem]
 refine W_cond rfl (fun c4 => ?_) (fun c4 => ?_)
 ·
  try simp only [nrm] at c4
  refine W_skip (K3 _ _ ?_)
  refine W_cond_true (by first | rfl | (simp only [go_sem]; simp [c4])) ?_
  refine W_sr [2] fun R hR => ?_
  simp only [go_sem]
  refine hR _ _ ?_; clear hR R
  try simp only [go_sem]
  refine W_ret ?_
  simp only [go_sem]
  refine ⟨.inr (by trivial), ?_⟩
  first | refine Fsa hcl rfl ?_ | refine Fse hcl rfl ?_
  try simp only [go_sem]
  all_goals
   first | rfl | (simp_all; done) | (rw [← hres]; simp [chkSc, scRange, *]; done) | (rw [← hres]; simp [chkSc, scRange, *]; omega) | (simp_all; omega)
 try simp only [nrm] at c4
 refine W_sr [1, 5] fun R hR => ?_
 simp only [go_sem]
 refine GCall_of (in_pc Y _ s.low 0 100) ?_
 simp only [go_sem]
 refine hR _ _ ?_; clear hR R
 try simp only [go_sem]
 refine W_cond rfl (fun c5 => ?_) (fun c5 => ?_)
 ·
  try simp only [nrm] at c5
  refine W_skip (K3 _ _ ?_)
  refine W_cond_true (by first | rfl | (simp only [go_sem]; simp [c5])) ?_
  refine W_sr [2] fun R hR => ?_
  simp only [go_sem]
  refine hR _ _ ?_; clear hR R
  try simp only [go_sem]
  refine W_ret ?_
  simp only [go_sem]
  refine ⟨.inr (by trivial), ?_⟩
  first | refine Fsa hcl rfl ?_ | refine Fse hcl rfl ?_
  try simp only [go_sem]
  all_goals
   first | rfl | (simp_all; done) | (rw [← hres]; simp [chkSc, scRange, *]; done) | (rw [← hres]; simp [chkSc, scRange, *]; omega) | (simp_all; omega)
 try simp only [nrm] at c5
 refine W_region [1, 5] fun R hR => ?_
 simp only [go_sem]
 refine GCall_of (in_pc Y _ s.high 0 100) ?_
 simp only [go_sem]
 refine hR _ _ (K3 _ _ ?_); clear hR R; try clear K3 Z3
 try simp only [go_sem]
 refine W_cond rfl (fun c6 => ?_) (fun c6 => ?_)
 ·
  try simp only [nrm] at c6
  refine W_sr [2] fun R hR => ?_
  simp only [go_sem]
  refine hR _ _ ?_; clear hR R
  try simp only [go_sem]
  refine W_ret ?_
  simp only [go_sem]
  refine ⟨.inr (by trivial), ?_⟩
  first | refine Fsa hcl rfl ?_ | refine Fse hcl rfl ?_
  try simp only [go_sem]
  all_goals
   first | rfl | (simp_all; done) | (rw [← hres]; simp [chkSc, scRange, *]; done) | (rw [← hres]; simp [chkSc, scRange, *]; omega) | (simp_all; omega)
 try simp only [nrm] at c6
 refine W_sr [1, 33] fun R hR => ?_
 simp only [go_sem]
 refine hR _ _ ?_; clear hR R
 try simp only [go_sem]
 refine W_cond rfl (fun c7 => ?_) (fun c7 => ?_)
 ·
  try simp only [nrm] at c7
  refine W_sr [2] fun R hR => ?_
  simp only [go_sem]
  refine hR _ _ ?_; clear hR R
  try simp only [go_sem]
  refine W_ret ?_
  simp only [go_sem]
  refine ⟨.inr (by trivial), ?_⟩
  first | refine Fsa hcl rfl ?_ | refine Fse hcl rfl ?_
  try simp only [go_sem]
  all_goals
   first | rfl | (simp_all; done) | (rw [← hres]; simp [chkSc, scRange, *]; done) | (rw [← hres]; simp [chkSc, scRange, *]; omega) | (simp_all; omega)
 try simp only [nrm] at c7
 refine W_sr [1, 39] fun R hR => ?_
 simp only [go_sem]
 refine hR _ _ ?_; clear hR R
 try simp only [go_sem]
 refine W_cond rfl (fun c8 => ?_) (fun c8 => ?_)
 ·
  try simp only [nrm] at c8
  refine W_sr [2] fun R hR => ?_
  simp only [go_sem]
  refine hR _ _ ?_; clear hR R
  try simp only [go_sem]
  refine W_ret ?_
  simp only [go_sem]
  refine ⟨.inr (by trivial), ?_⟩
  first | refine Fsa hcl rfl ?_ | refine Fse hcl rfl ?_
  try simp only [go_sem]
  all_goals
   first | rfl | (simp_all; done) | (rw [← hres]; simp [chkSc, scRange, *]; done) | (rw [← hres]; simp [chkSc, scRange, *]; omega) | (simp_all; omega)
 try simp only [nrm] at c8
 refine W_skip (K2 _ _ ?_)
 refine W_seq fun Z19 K19 => ?_
 refine W_sr [1, 47, 48, 49] fun R hR => ?_
 simp only [go_sem]
 refine hR _ _ ?_; clear hR R
 try simp only [go_sem]
 refine W_block ?_
 refine W_loopS (α := Nat) (fun (i : Nat) => [(49, I i)]) (fun (i : Nat) => i ≤ s.order.length ∧ res = chkOrd s.matters (s.order.take i) (s.order.drop i)) (fun (i : Nat) => s.order.length - i) (0) rfl (⟨Nat.zero_le _, by rw [← hres]; simp [chkSc, scRange, *] <;> omega⟩) ?_
 rintro i ⟨hi, hinv⟩
 refine W_sr [1, 47, 48, 49, 50] fun R hR => ?_
 simp only [go_sem]
 refine hR _ _ ?_; clear hR R
 try simp only [go_sem]
 refine W_seq fun Z22 K22 => ?_
 refine W_cond rfl (fun c9 => ?_) (fun c9 => ?_)
 ·
  try simp only [nrm] at c9
  have hi' : i < s.order.length := by first | assumption | omega
  obtain ⟨x, hx⟩ : ∃ x, s.order[i]? = some x := ⟨s.order[i], by simp [hi']⟩
  have hdrop : s.order.drop i = x :: s.order.drop (i + 1) := by
   rw [List.drop_eq_getElem_cons hi']; congr 1; exact (List.getElem?_eq_some_iff.1 hx).2
  rw [hdrop] at hinv
  simp only [chkOrd] at hinv
  have htk : s.order.take i ++ [x] = s.order.take (i + 1) := by rw [List.take_add_one, hx]; rfl
  rw [htk] at hinv
  refine W_skip (K22 _ _ ?_)
  refine W_seq fun Z23 K23 => ?_
  refine W_block ?_
  refine W_sr [1, 3, 4, 47, 48, 49] fun R hR => ?_
  simp only [go_sem, hx]
  refine hR _ _ ?_; clear hR R
  try simp only [go_sem, hx]
  refine W_block ?_
  refine W_sr [1, 3, 4, 47, 48, 49, 54] fun R hR => ?_
  simp only [go_sem, hx]
  try simp (disch := omega) only [wrapI, wrapU]
  refine GCall_of (in_pc Y _ x 0 _) ?_
  simp only [go_sem, hx]
  try simp (disch := omega) only [wrapI, wrapU]
  refine hR _ _ ?_; clear hR R
  try simp only [go_sem, hx]
  refine W_cond rfl (fun c10 => ?_) (fun c10 => ?_)
  ·
   try simp only [nrm] at c10
   refine W_sr [2] fun R hR => ?_
   simp only [go_sem, hx]
   refine hR _ _ ?_; clear hR R
   try simp only [go_sem, hx]
   refine W_ret ?_
   simp only [go_sem, hx]
   refine ⟨.inr (by trivial), ?_⟩
   first | refine Fsa hcl rfl ?_ | refine Fse hcl rfl ?_
   try simp only [go_sem]
   all_goals
    first | rfl | (simp_all; done) | (rw [← hres]; simp [chkSc, scRange, *]; done) | (rw [← hres]; simp [chkSc, scRange, *]; omega) | (simp_all; omega)
  try simp only [nrm] at c10
  refine W_sr [1, 47, 48, 49, 61] fun R hR => ?_
  simp only [go_sem, hx, hi, ← List.map_take]
  refine GCall_of (contains_pc Y _ (s.order.take i) _ x (by rw [List.length_take]; omega)) ?_
  simp only [go_sem, hx, hi, ← List.map_take]
  refine hR _ _ ?_; clear hR R
  try simp only [go_sem, hx]
  refine W_cond rfl (fun c11 => ?_) (fun c11 => ?_)
  ·
   try simp only [nrm] at c11
   refine W_sr [2] fun R hR => ?_
   simp only [go_sem, hx]
   refine hR _ _ ?_; clear hR R
   try simp only [go_sem, hx]
   refine W_ret ?_
   simp only [go_sem, hx]
   refine ⟨.inr (by trivial), ?_⟩
   first | refine Fsa hcl rfl ?_ | refine Fse hcl rfl ?_
   try simp only [go_sem]
   all_goals
    first | rfl | (simp_all; done) | (rw [← hres]; simp [chkSc, scRange, *]; done) | (rw [← hres]; simp [chkSc, scRange, *]; omega) | (simp_all; omega)
  try simp only [nrm] at c11
  refine W_skip (K23 _ _ ?_)
  refine W_region [1, 47, 48, 49] fun R hR => ?_
  simp only [go_sem, hx]
  try simp (disch := omega) only [wrapI, wrapU]
  refine hR _ _ ?_; clear hR R
  try simp only [go_sem, hx]
  refine ⟨i + 1, ?_, by (try simp only []); omega, ?_⟩
  ·first | exact Weak.refl | exact Wqq
  try dsimp only
  exact ⟨hi', by simp_all⟩
 try simp only [nrm] at c9
 have hdrop : s.order.drop i = [] := List.drop_eq_nil_of_le (by omega)
 rw [hdrop] at hinv
 simp only [chkOrd] at hinv
 refine W_exit ?_
 simp only [go_sem]
 refine K19 _ _ ?_
 refine W_sr [2] fun R hR => ?_
 simp only [go_sem]
 refine hR _ _ ?_; clear hR R
 try simp only [go_sem]
 refine W_ret ?_
 simp only [go_sem]
 refine ⟨.inr (by trivial), ?_⟩
 first | refine Fsa hcl rfl ?_ | refine Fse hcl rfl ?_
 try simp only [go_sem]
 all_goals
  first | rfl | (simp_all; done) | (rw [← hres]; simp [chkSc, scRange, *]; done) | (rw [← hres]; simp [chkSc, scRange, *]; omega) | (simp_all; omega)
set_option maxHeartbeats 2000000 in
theorem of_pc (Y : YEnv) (σ : Sg) (s : Scale) (j : Int × Int) (h : s.V) :
 PC Tryz.prog Y 62 [stPV j, scPV s] σ (.bool (ofSc s j)) (σ) := by
 refine PC_of_W Tryz.func62 rfl (by kernel_rfl) Tryz.ntmps62 (by simp) fun hcl hca => ?_
 have h1 := h.mt
 have h2 := h.jd
 refine W_sr [2, 3] fun R hR => ?_
 simp only [go_sem]
 refine hR _ _ ?_; clear hR R
 try simp only [go_sem]
 refine W_sr [4] fun R hR => ?_
 simp only [go_sem]
 try simp (disch := omega) only [wrapI, wrapU]
 refine GCall_of (in_pc Y _ j.1 0 _) ?_
 simp only [go_sem]
 refine GWant_split (fun g1 => ?_) (fun g1 => ?_)
 ·try simp only [Bool.not_eq_true', Bool.not_eq_false'] at g1
  have n1 := g1; try simp only [nrm] at n1
  try simp (disch := omega) only [wrapI, wrapU] at n1
  simp only [go_sem, g1]
  try simp (disch := omega) only [wrapI, wrapU]
  refine GCall_of (in_pc Y _ j.2 0 _) ?_
  simp only [go_sem, g1]
  try simp (disch := omega) only [wrapI, wrapU]
  refine hR _ _ ?_; clear hR R
  try simp only [go_sem]
  refine W_ret ?_
  simp only [go_sem]
  refine ⟨.inr (by trivial), ?_⟩
  first | refine Fsa hcl rfl ?_ | refine Fse hcl rfl ?_
  try simp only [go_sem]
  all_goals
   simp [ofSc, *]
 try simp only [Bool.not_eq_true', Bool.not_eq_false'] at g1
 have n1 := g1; try simp only [nrm] at n1
 try simp (disch := omega) only [wrapI, wrapU] at n1
 simp only [go_sem, g1]
 try simp (disch := omega) only [wrapI, wrapU]
 refine hR _ _ ?_; clear hR R
 try simp only [go_sem]
 refine W_ret ?_
 simp only [go_sem]
 refine ⟨.inr (by trivial), ?_⟩
 first | refine Fsa hcl rfl ?_ | refine Fse hcl rfl ?_
 try simp only [go_sem]
 all_goals
  simp [ofSc, *]
set_option maxHeartbeats 2000000 in
theorem indexF_pc (Y : YEnv) (σ : Sg) (l : List Int) (o : Own) (hl : l.length < 2 ^ 62) (g : FuncId) (p : PV) (q : Int → Bool) (hq : ∀ (x : Int), PC Tryz.prog Y g [I x, p] σ (.bool (q x)) σ) :
 PC Tryz.prog Y 109 [intsO o l, .func (.func g) [] [p]] σ (I (fIdx q 0 l)) (σ) := by
 refine PC_of_W Tryz.func109 rfl (by kernel_rfl) Tryz.ntmps109 (by simp) fun hcl hca => ?_
 refine W_sr [0, 1] fun R hR => ?_
 simp only [go_sem]
 refine hR _ _ ?_; clear hR R
 try simp only [go_sem]
 refine W_seq fun Z2 K2 => ?_
 refine W_sr [0, 1, 7, 8] fun R hR => ?_
 simp only [go_sem]
 refine hR _ _ ?_; clear hR R
 try simp only [go_sem]
 refine W_block ?_
 refine W_loopS (α := Nat) (fun (i : Nat) => [(8, I i)]) (fun (i : Nat) => i ≤ l.length ∧ fIdx q i (l.drop i) = fIdx q 0 l) (fun (i : Nat) => l.length - i) (0) rfl (⟨Nat.zero_le _, rfl⟩) ?_
 rintro i ⟨hi, hinv⟩
 refine W_sr [0, 1, 7, 8, 9] fun R hR => ?_
 simp only [go_sem]
 refine hR _ _ ?_; clear hR R
 try simp only [go_sem]
 refine W_seq fun Z5 K5 => ?_
 refine W_cond rfl (fun c1 => ?_) (fun c1 => ?_)
 ·
  try simp only [nrm] at c1
  have hi' : i < l.length := by first | assumption | omega
  obtain ⟨x, hx⟩ : ∃ x, l[i]? = some x := ⟨l[i], by simp [hi']⟩
  have hdrop : l.drop i = x :: l.drop (i + 1) := by
   rw [List.drop_eq_getElem_cons hi']; congr 1; exact (List.getElem?_eq_some_iff.1 hx).2
  rw [hdrop] at hinv
  simp only [fIdx] at hinv
  refine W_skip (K5 _ _ ?_)
  refine W_seq fun Z6 K6 => ?_
  refine W_block ?_
  refine W_sr [0, 1, 5, 7, 8] fun R hR => ?_
  simp only [go_sem, hx]
  refine hR _ _ ?_; clear hR R
  try simp only [go_sem, hx]
  refine W_sr [0, 1, 5, 7, 8, 16] fun R hR => ?_
  simp only [go_sem, hx]
  refine GCall_of (hq x) ?_
  simp only [go_sem, hx]
  refine hR _ _ ?_; clear hR R
  try simp only [go_sem, hx]
  refine W_cond rfl (fun c2 => ?_) (fun c2 => ?_)
  ·
   try simp only [nrm] at c2
   refine W_sr [4] fun R hR => ?_
   simp only [go_sem, hx]
   refine hR _ _ ?_; clear hR R
   try simp only [go_sem, hx]
   refine W_ret ?_
   simp only [go_sem, hx]
   refine ⟨.inr (by trivial), ?_⟩
   first | refine Fsa hcl rfl ?_ | refine Fse hcl rfl ?_
   try simp only [go_sem]
   all_goals
    first | rfl | (simp_all; done) | (simp_all; omega)
  try simp only [nrm] at c2
  refine W_skip (K6 _ _ ?_)
  refine W_region [0, 1, 7, 8] fun R hR => ?_
  simp only [go_sem, hx]
  try simp (disch := omega) only [wrapI, wrapU]
  refine hR _ _ ?_; clear hR R
  try simp only [go_sem, hx]
  refine ⟨i + 1, ?_, by (try simp only []); omega, ?_⟩
  ·first | exact Weak.refl | exact Wqq
  try dsimp only
  exact ⟨hi', by simp_all⟩
 try simp only [nrm] at c1
 have hdrop : l.drop i = [] := List.drop_eq_nil_of_le (by omega)
 rw [hdrop] at hinv
 simp only [fIdx] at hinv
 refine W_exit ?_
 simp only [go_sem]
 refine K2 _ _ ?_
 refine W_sr [4] fun R hR => ?_
 simp only [go_sem]
 refine hR _ _ ?_; clear hR R
 try simp only [go_sem]
 refine W_ret ?_
 simp only [go_sem]
 refine ⟨.inr (by trivial), ?_⟩
 first | refine Fsa hcl rfl ?_ | refine Fse hcl rfl ?_
 try simp only [go_sem]
 all_goals
  first | rfl | (simp_all; done) | (simp_all; omega)
set_option maxHeartbeats 2000000 in
theorem containsF_pc (Y : YEnv) (σ : Sg) (l : List Int) (o : Own) (hl : l.length < 2 ^ 62) (g : FuncId) (p : PV) (q : Int → Bool) (hq : ∀ (x : Int), PC Tryz.prog Y g [I x, p] σ (.bool (q x)) σ) :
 PC Tryz.prog Y 88 [intsO o l, .func (.func g) [] [p]] σ (.bool (l.any q)) (σ) := by
 refine PC_of_W Tryz.func88 rfl (by kernel_rfl) Tryz.ntmps88 (by simp) fun hcl hca => ?_
 refine W_sr [0, 1] fun R hR => ?_
 simp only [go_sem]
 refine hR _ _ ?_; clear hR R
 try simp only [go_sem]
 refine W_sr [4] fun R hR => ?_
 simp only [go_sem]
 refine GCall_of (indexF_pc Y _ l o hl g p q hq) ?_
 simp only [go_sem]
 refine hR _ _ ?_; clear hR R
 try simp only [go_sem]
 refine W_ret ?_
 simp only [go_sem]
 refine ⟨.inr (by trivial), ?_⟩
 first | refine Fsa hcl rfl ?_ | refine Fse hcl rfl ?_
 try simp only [go_sem]
 all_goals
  simp only [fIdx_any, go_sem]
set_option maxHeartbeats 2000000 in
theorem marked1_pc (Y : YEnv) (σ : Sg) (id : Nat) (s : Scale) (hd : σ.store[id]? = some (some (scCells s))) (n : Int) :
 PC Tryz.prog Y 89 [I n, .ptr id 0] σ (.bool (!(inR n s.low s.high))) (σ) := by
 refine PC_of_W Tryz.func89 rfl (by kernel_rfl) Tryz.ntmps89 (by simp) fun hcl hca => ?_
 refine W_sr [0, 1] fun R hR => ?_
 simp only [go_sem, ldS_at hd]
 refine hR _ _ ?_; clear hR R
 try simp only [go_sem, ldS_at hd]
 refine W_sr [3] fun R hR => ?_
 simp only [go_sem, ldS_at hd]
 refine GCall_of (in_pc Y _ n s.low s.high) ?_
 simp only [go_sem, ldS_at hd]
 refine hR _ _ ?_; clear hR R
 try simp only [go_sem, ldS_at hd]
 refine W_ret ?_
 simp only [go_sem, ldS_at hd]
 refine ⟨.inr (by trivial), ?_⟩
 first | refine Fsa hcl rfl ?_ | refine Fse hcl rfl ?_
 try simp only [go_sem]
 all_goals
  first | rfl | (simp_all; done) | (simp_all; omega)
set_option maxHeartbeats 2000000 in
theorem marked_pc (Y : YEnv) (σ : Sg) (s : Scale) (j : Int × Int) (l : List Int) (o : Own) (hl : l.length < 2 ^ 40) (h : s.V) :
 PC Tryz.prog Y 54 [scPV s, stPV j, intsO o l] σ (I (marked s j l)) (σ) := by
 refine PC_of_W Tryz.func54 rfl (by kernel_rfl) Tryz.ntmps54 (by simp) fun hcl hca => ?_
 refine W_sr [2, 3, 4] fun R hR => ?_
 simp only [go_sem]
 refine hR _ _ ?_; clear hR R
 try simp only [go_sem]
 refine W_seq fun Z2 K2 => ?_
 refine W_block ?_
 refine W_sr [2, 3, 7] fun R hR => ?_
 simp only [go_sem]
 refine GCall_of (of_pc Y _ s j h) ?_
 simp only [go_sem]
 refine hR _ _ ?_; clear hR R
 try simp only [go_sem]
 refine W_cond rfl (fun c1 => ?_) (fun c1 => ?_)
 ·
  try simp only [nrm] at c1
  refine W_sr [6] fun R hR => ?_
  simp only [go_sem]
  refine hR _ _ ?_; clear hR R
  try simp only [go_sem]
  refine W_ret ?_
  simp only [go_sem]
  refine ⟨.inr (by trivial), ?_⟩
  first | refine Fsa hcl rfl ?_ | refine Fse hcl rfl ?_
  try simp only [go_sem]
  all_goals
   simp [marked, outMarks, *]
 try simp only [nrm] at c1
 refine W_sr [2, 3, 12] fun R hR => ?_
 simp only [go_sem]
 refine hR _ _ ?_; clear hR R
 try simp only [go_sem]
 refine W_cond rfl (fun c2 => ?_) (fun c2 => ?_)
 ·
  try simp only [nrm] at c2
  refine W_sr [6] fun R hR => ?_
  simp only [go_sem]
  refine hR _ _ ?_; clear hR R
  try simp only [go_sem]
  refine W_ret ?_
  simp only [go_sem]
  refine ⟨.inr (by trivial), ?_⟩
  first | refine Fsa hcl rfl ?_ | refine Fse hcl rfl ?_
  try simp only [go_sem]
  all_goals
   simp [marked, outMarks, *]
 try simp only [nrm] at c2
 refine W_sr [18] fun R hR => ?_
 simp only [go_sem]
 refine GCall_of (containsF_pc Y _ l o (by omega) 89 (.ptr σ.store.length 0) (fun n => !(inR n s.low s.high)) (fun x => marked1_pc Y _ σ.store.length s (Sg.get_ext0 ..) x)) ?_
 simp only [go_sem]
 refine hR _ _ ?_; clear hR R
 try simp only [go_sem]
 refine W_cond rfl (fun c3 => ?_) (fun c3 => ?_)
 ·
  try simp only [nrm] at c3
  refine W_sr [6] fun R hR => ?_
  simp only [go_sem]
  refine hR _ _ ?_; clear hR R
  try simp only [go_sem]
  refine W_ret ?_
  simp only [go_sem]
  refine ⟨.inr (by trivial), ?_⟩
  first | refine Fsa hcl rfl ?_ | refine Fse hcl rfl ?_
  try simp only [go_sem]
  all_goals
   simp [marked, outMarks, *]
 try simp only [nrm] at c3
 refine W_skip (K2 _ _ ?_)
 refine W_sr [6] fun R hR => ?_
 simp only [go_sem]
 refine hR _ _ ?_; clear hR R
 try simp only [go_sem]
 refine W_ret ?_
 simp only [go_sem]
 refine ⟨.inr (by trivial), ?_⟩
 first | refine Fsa hcl rfl ?_ | refine Fse hcl rfl ?_
 try simp only [go_sem]
 all_goals
  simp [marked, outMarks, *]
set_option maxHeartbeats 2000000 in
theorem seal_pc (Y : YEnv) (σ : Sg) (j : Int × Int) (l : List Int) (o : Own) (h1 : 0 ≤ j.1 ∧ j.1 ≤ 5) (h2 : 0 ≤ j.2 ∧ j.2 ≤ 4) (h3 : l.length ≤ 8) (h4 : ∀ x, x ∈ l → 0 ≤ x ∧ x ≤ 100) :
 PC Tryz.prog Y 55 [stPV j, intsO o l] σ (I (sealOf j l)) (σ) := by
 refine PC_of_W Tryz.func55 rfl (by kernel_rfl) Tryz.ntmps55 (by simp) fun hcl hca => ?_
 obtain ⟨res, hres⟩ : ∃ r, sealOf j l = r := ⟨_, rfl⟩
 rw [hres]
 have hz : ¬ ((997 : Int) = 0) := by omega
 refine W_sr [1, 2] fun R hR => ?_
 simp only [go_sem, hz]
 refine hR _ _ ?_; clear hR R
 try simp only [go_sem, hz]
 refine W_sr [1, 5] fun R hR => ?_
 simp only [go_sem, hz]
 try simp (disch := omega) only [wrapI, wrapU]
 refine hR _ _ ?_; clear hR R
 try simp only [go_sem, hz]
 refine W_seq fun Z3 K3 => ?_
 refine W_sr [5, 17, 18, 19] fun R hR => ?_
 simp only [go_sem, hz]
 refine hR _ _ ?_; clear hR R
 try simp only [go_sem, hz]
 refine W_block ?_
 refine W_loopS (α := Nat × Int) (fun ⟨i, n⟩ => [(5, I n), (19, I i)]) (fun ⟨i, n⟩ => i ≤ l.length ∧ res = (n + sealSum i (l.drop i)).tmod 997 ∧ 0 ≤ n ∧ n ≤ 10000 + i * 800) (fun ⟨i, n⟩ => l.length - i) ((0, (j.1 + 1) * 101 + (j.2 + 1) * 1009)) rfl (⟨Nat.zero_le _, by rw [← hres]; simp [sealOf], by omega, by simp; omega⟩) ?_
 rintro ⟨i, n⟩ ⟨hi, hinv, hn1, hn2⟩
 have hi8 : i ≤ 8 := by omega
 refine W_sr [5, 17, 18, 19, 20] fun R hR => ?_
 simp only [go_sem, hz]
 refine hR _ _ ?_; clear hR R
 try simp only [go_sem, hz]
 refine W_seq fun Z6 K6 => ?_
 refine W_cond rfl (fun c1 => ?_) (fun c1 => ?_)
 ·
  try simp only [nrm] at c1
  have hi' : i < l.length := by first | assumption | omega
  obtain ⟨x, hx⟩ : ∃ x, l[i]? = some x := ⟨l[i], by simp [hi']⟩
  have hdrop : l.drop i = x :: l.drop (i + 1) := by
   rw [List.drop_eq_getElem_cons hi']; congr 1; exact (List.getElem?_eq_some_iff.1 hx).2
  rw [hdrop] at hinv
  simp only [sealSum] at hinv
  have hxb := h4 x (List.mem_of_getElem? hx)
  have hp1 : 0 ≤ ((i : Int) + 1) * x := Int.mul_nonneg (by omega) hxb.1
  have hp2 : ((i : Int) + 1) * x ≤ ((i : Int) + 1) * 100 := Int.mul_le_mul_of_nonneg_left hxb.2 (by omega)
  refine W_skip (K6 _ _ ?_)
  refine W_seq fun Z7 K7 => ?_
  refine W_block ?_
  refine W_sr [5, 6, 7, 17, 18, 19] fun R hR => ?_
  simp only [go_sem, hz, hx]
  refine hR _ _ ?_; clear hR R
  try simp only [go_sem, hz, hx]
  refine W_region [5, 17, 18, 19] fun R hR => ?_
  simp only [go_sem, hz, hx]
  try simp (disch := omega) only [wrapI, wrapU]
  refine hR _ _ (K7 _ _ ?_); clear hR R; try clear K7 Z7
  try simp only [go_sem, hz, hx]
  refine W_region [5, 17, 18, 19] fun R hR => ?_
  simp only [go_sem, hz, hx]
  try simp (disch := omega) only [wrapI, wrapU]
  refine hR _ _ ?_; clear hR R
  try simp only [go_sem, hz, hx]
  refine ⟨(i + 1, n + ((i : Int) + 1) * x), ?_, by (try simp only []); omega, ?_⟩
  ·first | exact Weak.refl | exact Wqq
  try dsimp only
  refine ⟨hi', ?_, by omega, by simp; omega⟩
  rw [hinv]; congr 1; omega
 try simp only [nrm] at c1
 have hdrop : l.drop i = [] := List.drop_eq_nil_of_le (by omega)
 rw [hdrop] at hinv
 simp only [sealSum] at hinv
 refine W_exit ?_
 simp only [go_sem, hz]
 refine K3 _ _ ?_
 refine W_sr [4] fun R hR => ?_
 simp only [go_sem, hz]
 try simp (disch := omega) only [wrapI, wrapU]
 refine hR _ _ ?_; clear hR R
 try simp only [go_sem, hz]
 refine W_ret ?_
 simp only [go_sem, hz]
 refine ⟨.inr (by trivial), ?_⟩
 first | refine Fsa hcl rfl ?_ | refine Fse hcl rfl ?_
 try simp only [go_sem]
 all_goals
  rw [hinv, Int.add_zero]
set_option maxHeartbeats 2000000 in
theorem Equal_pc (Y : YEnv) (σ : Sg) (xs ys : List Int) (o o2 : Own) (hx : xs.length < 2 ^ 50) :
 PC Tryz.prog Y 61 [intsO o xs, intsO o2 ys] σ (.bool (decide (xs = ys))) (σ) := by
 refine PC_of_W Tryz.func61 rfl (by kernel_rfl) Tryz.ntmps61 (by simp) fun hcl hca => ?_
 obtain ⟨res, hres⟩ : ∃ r, decide (xs = ys) = r := ⟨_, rfl⟩
 rw [hres]
 refine W_sr [0, 1] fun R hR => ?_
 simp only [go_sem]
 refine hR _ _ ?_; clear hR R
 try simp only [go_sem]
 refine W_seq fun Z2 K2 => ?_
 refine W_sr [0, 1, 10] fun R hR => ?_
 simp only [go_sem]
 refine hR _ _ ?_; clear hR R
 try simp only [go_sem]
 refine W_cond rfl (fun c1 => ?_) (fun c1 => ?_)
 ·
  try simp only [nrm] at c1
  refine W_sr [4] fun R hR => ?_
  simp only [go_sem]
  refine hR _ _ ?_; clear hR R
  try simp only [go_sem]
  refine W_ret ?_
  simp only [go_sem]
  refine ⟨.inr (by trivial), ?_⟩
  first | refine Fsa hcl rfl ?_ | refine Fse hcl rfl ?_
  try simp only [go_sem]
  all_goals
   rw [← hres]; congr 1; symm; rw [decide_eq_false_iff_not]; intro e; subst e; simp_all
 try simp only [nrm] at c1
 have hll : xs.length = ys.length := by first | omega | simpa using c1
 refine W_skip (K2 _ _ ?_)
 refine W_seq fun Z5 K5 => ?_
 refine W_sr [0, 1, 12, 13] fun R hR => ?_
 simp only [go_sem]
 refine hR _ _ ?_; clear hR R
 try simp only [go_sem]
 refine W_block ?_
 refine W_loopS (α := Nat) (fun (i : Nat) => [(13, I i)]) (fun (i : Nat) => i ≤ xs.length ∧ res = decide (xs.drop i = ys.drop i)) (fun (i : Nat) => xs.length - i) (0) rfl (⟨Nat.zero_le _, by rw [← hres]; rfl⟩) ?_
 rintro i ⟨hi, hinv⟩
 refine W_sr [0, 1, 12, 13, 14] fun R hR => ?_
 simp only [go_sem]
 refine hR _ _ ?_; clear hR R
 try simp only [go_sem]
 refine W_seq fun Z8 K8 => ?_
 refine W_cond rfl (fun c2 => ?_) (fun c2 => ?_)
 ·
  try simp only [nrm] at c2
  have hi' : i < xs.length := by first | assumption | omega
  obtain ⟨x, hx⟩ : ∃ x, xs[i]? = some x := ⟨xs[i], by simp [hi']⟩
  obtain ⟨y, hy⟩ : ∃ y, ys[i]? = some y := ⟨ys[i]'(by omega), by simp⟩
  have d1 : xs.drop i = x :: xs.drop (i + 1) := by
   rw [List.drop_eq_getElem_cons hi']; congr 1; exact (List.getElem?_eq_some_iff.1 hx).2
  have d2 : ys.drop i = y :: ys.drop (i + 1) := by
   rw [List.drop_eq_getElem_cons (by omega)]; congr 1; exact (List.getElem?_eq_some_iff.1 hy).2
  rw [d1, d2] at hinv
  refine W_skip (K8 _ _ ?_)
  refine W_seq fun Z9 K9 => ?_
  refine W_block ?_
  refine W_sr [0, 1, 5, 12, 13] fun R hR => ?_
  simp only [go_sem, hx, hy]
  refine hR _ _ ?_; clear hR R
  try simp only [go_sem, hx, hy]
  refine W_seq fun Z11 K11 => ?_
  refine W_draw [0, 1, 12, 13, 24] [0, 1, 2, 3, 4, 5, 6, 7, 8] [] [[], [], [0, 1], [0, 1, 2], [], [], [4, 5], [4, 5, 6], [0, 1, 2, 3, 4, 5, 6, 7]] mixed (by kernel_rfl) fun R hR => ?_
  simp only [go_sem, hx, hy]
  try refine And.intro (by repeat' (first | refine And.intro ?_ ?_ | exact GOr_right (fun _ => by simp only [go_sem, hx, hy]))) ?_
  refine hR _ _ (K11 _ _ ?_); clear hR R; try clear K11 Z11
  try simp only [go_sem, hx, hy]
  refine W_cond rfl (fun c3 => ?_) (fun c3 => ?_)
  ·
   try simp only [nrm] at c3
   refine W_sr [4] fun R hR => ?_
   simp only [go_sem, hx, hy]
   refine hR _ _ ?_; clear hR R
   try simp only [go_sem, hx, hy]
   refine W_ret ?_
   simp only [go_sem, hx, hy]
   refine ⟨.inr (by trivial), ?_⟩
   first | refine Fsa hcl rfl ?_ | refine Fse hcl rfl ?_
   try simp only [go_sem]
   all_goals
    rw [hinv]; simp_all
  try simp only [nrm] at c3
  refine W_skip (K9 _ _ ?_)
  refine W_region [0, 1, 12, 13] fun R hR => ?_
  simp only [go_sem, hx, hy]
  try simp (disch := omega) only [wrapI, wrapU]
  refine hR _ _ ?_; clear hR R
  try simp only [go_sem, hx, hy]
  refine ⟨i + 1, ?_, by (try simp only []); omega, ?_⟩
  ·first | exact Weak.refl | exact Wqq
  try dsimp only
  refine ⟨hi', ?_⟩
  rw [hinv]; simp_all
 try simp only [nrm] at c2
 have d1 : xs.drop i = [] := List.drop_eq_nil_of_le (by omega)
 have d2 : ys.drop i = [] := List.drop_eq_nil_of_le (by omega)
 rw [d1, d2] at hinv
 refine W_exit ?_
 simp only [go_sem]
 refine K5 _ _ ?_
 refine W_sr [4] fun R hR => ?_
 simp only [go_sem]
 refine hR _ _ ?_; clear hR R
 try simp only [go_sem]
 refine W_ret ?_
 simp only [go_sem]
 refine ⟨.inr (by trivial), ?_⟩
 first | refine Fsa hcl rfl ?_ | refine Fse hcl rfl ?_
 try simp only [go_sem]
 all_goals
  rw [hinv]; simp_all
theorem cells_map {a : Nat} : (PV.map a).cells = [PV.map a] := rfl
theorem cells_nilmap : PV.nilmap.cells = [PV.nilmap] := rfl
theorem cells_yield {a : Nat} : (PV.yield a).cells = [PV.yield a] := rfl
theorem cells_msl {a b c : Nat} : (PV.msl a b c).cells = [PV.msl a b c] := rfl
attribute [go_sem] cells_map cells_nilmap cells_yield cells_msl
theorem lkX_osv {P : Program} {kt : TypeId} {z : PV} {σ : Sg} {l : List (Option (List PV))} {rm : List Nat} {ys : List LState} {d : Nat} {cs : List PV} {k : PV} {ok : Bool} (h : d < σ.store.length) : lkX P kt z ((σ.setVar d cs).ext l rm ys) d k ok = lkM P kt z (some (some cs)) k ok := by
 simp only [lkX, get_svx h]
theorem upX_osv {P : Program} {kt : TypeId} {σ : Sg} {l : List (Option (List PV))} {rm : List Nat} {ys : List LState} {d : Nat} {cs : List PV} {k v : PV} (h : d < σ.store.length) : upX P kt ((σ.setVar d cs).ext l rm ys) d k v = (upM P kt (some (some cs)) k v).map fun cs' => (σ.setVar d cs').ext l rm ys := by
 simp only [upX, get_svx h]
 cases upM P kt (some (some cs)) k v with
 | none => rfl
 | some x => simp only [Option.map_some, sv_ext_sv h]
theorem upKm {k : Kn} {a b : Int} {v : List Int} (h : v ≠ []) : upM Tryz.prog 103 (some (some (.mark :: knE k))) (.agg [.int .i64 a, .int .i64 b]) (.isl (v.map I) .ro) = some (.mark :: knE (aput (a, b) v k)) := by
 cases v with
 | nil => exact absurd rfl h
 | cons x v => exact upKs
/-- No envelope without marks. -/
def KnPos (k : Kn) : Prop := ∀ e, e ∈ k → e.2 ≠ []
theorem KnPos.get {k : Kn} (h : KnPos k) {j : Int × Int} {l : List Int} (e : aget j k = some l) : l ≠ [] := h _ (aget_mem e)
theorem aput_mem {κ ν : Type} [DecidableEq κ] {j : κ} {v : ν} : ∀ {k : List (κ × ν)} {e : κ × ν}, e ∈ aput j v k → e = (j, v) ∨ e ∈ k := by
 intro k
 induction k with
 | nil => intro e h; simp [aput] at h; exact .inl h
 | cons x k ih =>
  intro e h
  simp only [aput] at h
  split at h
  ·rcases List.mem_cons.1 h with h | h
   ·exact .inl h
   exact .inr (List.mem_cons_of_mem _ h)
  rcases List.mem_cons.1 h with h | h
  ·exact .inr (h ▸ List.mem_cons_self ..)
  rcases ih h with h | h
  ·exact .inl h
  exact .inr (List.mem_cons_of_mem _ h)
theorem KnPos.put {k : Kn} (h : KnPos k) {j : Int × Int} {l : List Int} (hl : l ≠ []) : KnPos (aput j l k) := fun e he => by
 rcases aput_mem he with rfl | he
 ·exact hl
 exact h e he
structure Night.Ok (n : Night) : Prop where
 ho : n.opened.length < 2 ^ 40
 ha : n.absent.length < 2 ^ 40
 hf : n.fines.length < 2 ^ 40
 hm : ∀ x, x ∈ n.opened → x.marks.length < 2 ^ 40
set_option maxHeartbeats 2000000 in
theorem open_pc (Y : YEnv) (σ : Sg) (id : Nat) (k : Kn) (hd : σ.store[id]? = some (some (.mark :: knE k))) (s : Scale) (l : List Envl) (hv : s.V) (hk : KnPos k) (hk2 : ∀ e, e ∈ k → e.2.length < 2 ^ 40) (hl : l.length < 2 ^ 40) (hm : ∀ x, x ∈ l → x.marks.length < 2 ^ 40) :
 PC Tryz.prog Y 33 [.map id, scPV s, evs l] σ (I (openK s l k).1) (σ.setVar id (.mark :: knE (openK s l k).2)) := by
 refine PC_of_W Tryz.func33 rfl (by kernel_rfl) Tryz.ntmps33 (by simp) fun hcl hca => ?_
 have hlt := lt_of_get hd
 have q1 := hv.mt
 have q2 := hv.jd
 have q3 := hv.sc
 have q4 := hv.lo
 have q5 := hv.hi
 obtain ⟨res, hres⟩ : ∃ r, openK s l k = r := ⟨_, rfl⟩
 rw [hres]
 refine W_sr [0, 2, 4] fun R hR => ?_
 simp only [go_sem, ldS_at hd, stX_at hd, ldS_sv hlt, stX_sv hlt, sv_ext hlt, sv_ext_sv hlt, lkX_osv hlt, upX_osv hlt]
 refine hR _ _ ?_; clear hR R
 try simp only [go_sem, ldS_at hd, stX_at hd, ldS_sv hlt, stX_sv hlt, sv_ext hlt, sv_ext_sv hlt, lkX_osv hlt, upX_osv hlt]
 refine W_seq fun Z2 K2 => ?_
 refine W_sr [0, 4, 13, 14, 15] fun R hR => ?_
 simp only [go_sem, ldS_at hd, stX_at hd, ldS_sv hlt, stX_sv hlt, sv_ext hlt, sv_ext_sv hlt, lkX_osv hlt, upX_osv hlt]
 refine hR _ _ ?_; clear hR R
 try simp only [go_sem, ldS_at hd, stX_at hd, ldS_sv hlt, stX_sv hlt, sv_ext hlt, sv_ext_sv hlt, lkX_osv hlt, upX_osv hlt]
 refine W_block ?_
 refine W_loopT (α := Nat × Kn) (fun ⟨i, kk⟩ => [(15, I i)]) (fun ⟨i, kk⟩ => (σ.setVar id (.mark :: knE kk)).ext [some (scCells s)] []) (fun ⟨i, kk⟩ => i ≤ l.length ∧ KnPos kk ∧ (∀ e, e ∈ kk → e.2.length < 2 ^ 40) ∧ res = openK s (l.drop i) kk) (fun ⟨i, kk⟩ => l.length - i) ((0, k)) rfl (by simp only [go_sem, sv_self hd]) (⟨Nat.zero_le _, hk, hk2, hres.symm⟩) ?_
 rintro ⟨i, kk⟩ ⟨hi, hkk, hkl, hinv⟩
 refine W_sr [0, 4, 13, 14, 15, 16] fun R hR => ?_
 simp only [go_sem, ldS_at hd, stX_at hd, ldS_sv hlt, stX_sv hlt, sv_ext hlt, sv_ext_sv hlt, lkX_osv hlt, upX_osv hlt]
 refine hR _ _ ?_; clear hR R
 try simp only [go_sem, ldS_at hd, stX_at hd, ldS_sv hlt, stX_sv hlt, sv_ext hlt, sv_ext_sv hlt, lkX_osv hlt, upX_osv hlt]
 refine W_seq fun Z5 K5 => ?_
 refine W_cond rfl (fun c1 => ?_) (fun c1 => ?_)
 ·
  try simp only [nrm] at c1
  have hi' : i < l.length := by first | assumption | omega
  obtain ⟨x, hx⟩ : ∃ x, l[i]? = some x := ⟨l[i], by simp [hi']⟩
  have hdrop : l.drop i = x :: l.drop (i + 1) := by
   rw [List.drop_eq_getElem_cons hi']; congr 1; exact (List.getElem?_eq_some_iff.1 hx).2
  have hxl : x ∈ l := List.mem_of_getElem? hx
  rw [hdrop] at hinv
  simp only [openK] at hinv
  refine W_skip (K5 _ _ ?_)
  refine W_seq fun Z6 K6 => ?_
  refine W_block ?_
  refine W_sr [0, 4, 8, 13, 14, 15] fun R hR => ?_
  simp only [go_sem, ldS_at hd, stX_at hd, ldS_sv hlt, stX_sv hlt, sv_ext hlt, sv_ext_sv hlt, lkX_osv hlt, upX_osv hlt, hx]
  refine hR _ _ ?_; clear hR R
  try simp only [go_sem, ldS_at hd, stX_at hd, ldS_sv hlt, stX_sv hlt, sv_ext hlt, sv_ext_sv hlt, lkX_osv hlt, upX_osv hlt, hx]
  refine W_sr [0, 4, 8, 9, 13, 14, 15] fun R hR => ?_
  simp only [go_sem, ldS_at hd, stX_at hd, ldS_sv hlt, stX_sv hlt, sv_ext hlt, sv_ext_sv hlt, lkX_osv hlt, upX_osv hlt, hx]
  refine hR _ _ ?_; clear hR R
  try simp only [go_sem, ldS_at hd, stX_at hd, ldS_sv hlt, stX_sv hlt, sv_ext hlt, sv_ext_sv hlt, lkX_osv hlt, upX_osv hlt, hx]
  refine W_seq fun Z9 K9 => ?_
  refine W_sr [0, 4, 8, 9, 10, 13, 14, 15] fun R hR => ?_
  simp only [go_sem, ldS_at hd, stX_at hd, ldS_sv hlt, stX_sv hlt, sv_ext hlt, sv_ext_sv hlt, lkX_osv hlt, upX_osv hlt, hx]
  refine GCall_of (marked_pc Y _ s (x.matter, x.judge) x.marks .ro (hm x hxl) hv) ?_
  simp only [go_sem, ldS_at hd, stX_at hd, ldS_sv hlt, stX_sv hlt, sv_ext hlt, sv_ext_sv hlt, lkX_osv hlt, upX_osv hlt, hx]
  refine hR _ _ ?_; clear hR R
  try simp only [go_sem, ldS_at hd, stX_at hd, ldS_sv hlt, stX_sv hlt, sv_ext hlt, sv_ext_sv hlt, lkX_osv hlt, upX_osv hlt, hx]
  refine W_sr [0, 4, 8, 9, 10, 13, 14, 15, 30] fun R hR => ?_
  simp only [go_sem, ldS_at hd, stX_at hd, ldS_sv hlt, stX_sv hlt, sv_ext hlt, sv_ext_sv hlt, lkX_osv hlt, upX_osv hlt, hx]
  refine hR _ _ ?_; clear hR R
  try simp only [go_sem, ldS_at hd, stX_at hd, ldS_sv hlt, stX_sv hlt, sv_ext hlt, sv_ext_sv hlt, lkX_osv hlt, upX_osv hlt, hx]
  refine W_cond rfl (fun c2 => ?_) (fun c2 => ?_)
  ·
   try simp only [nrm] at c2
   refine W_sr [6] fun R hR => ?_
   simp only [go_sem, ldS_at hd, stX_at hd, ldS_sv hlt, stX_sv hlt, sv_ext hlt, sv_ext_sv hlt, lkX_osv hlt, upX_osv hlt, hx]
   refine hR _ _ ?_; clear hR R
   try simp only [go_sem, ldS_at hd, stX_at hd, ldS_sv hlt, stX_sv hlt, sv_ext hlt, sv_ext_sv hlt, lkX_osv hlt, upX_osv hlt, hx]
   refine W_ret ?_
   simp only [go_sem, ldS_at hd, stX_at hd, ldS_sv hlt, stX_sv hlt, sv_ext hlt, sv_ext_sv hlt, lkX_osv hlt, upX_osv hlt, hx]
   refine ⟨.inr (by trivial), ?_⟩
   have hr2 : res.2 = kk := by rw [hinv] <;> first | rfl | (simp [*]; done) | (simp_all; done)
   rw [hr2]
   first | refine Fin_set hcl (by simp only [go_sem]) rfl (Wk_eq ?_ (by simp only [go_sem])) | refine Fin_set0 hcl (by simp only [go_sem]) rfl (Wk_eq ?_ (by simp only [go_sem]))
   try simp only [go_sem]
   all_goals
    first | rfl | (simp_all; done) | (simp_all; omega)
  try simp only [nrm] at c2
  obtain ⟨k1, k2, k3⟩ := marked_ok c2
  simp only [ofSc_true] at k1
  have hne : x.marks ≠ [] := fun e => by rw [e] at k2; simp at k2; omega
  refine W_skip (K9 _ _ ?_)
  refine W_seq fun Z13 K13 => ?_
  refine W_seq fun Z14 K14 => ?_
  refine W_draw [0, 4, 8, 9, 13, 14, 15, 38] [0, 1, 2, 3, 4, 5, 6] [(0, 7), (1, 7)] [[], [0], [], [], [3], [2, 3, 4], [0, 1, 2, 3, 4, 5]] mixed (by kernel_rfl) fun R hR => ?_
  simp only [go_sem, ldS_at hd, stX_at hd, ldS_sv hlt, stX_sv hlt, sv_ext hlt, sv_ext_sv hlt, lkX_osv hlt, upX_osv hlt, hx]
  refine GCall_of (seal_pc Y _ (x.matter, x.judge) x.marks .ro (by omega) (by omega) (by omega) (fun z hz => by have := k3 z hz; omega)) ?_
  simp only [go_sem, ldS_at hd, stX_at hd, ldS_sv hlt, stX_sv hlt, sv_ext hlt, sv_ext_sv hlt, lkX_osv hlt, upX_osv hlt, hx]
  try refine And.intro (by repeat' (first | refine And.intro ?_ ?_ | exact GOr_right (fun _ => by simp only [go_sem, ldS_at hd, stX_at hd, ldS_sv hlt, stX_sv hlt, sv_ext hlt, sv_ext_sv hlt, lkX_osv hlt, upX_osv hlt, hx]))) ?_
  refine hR _ _ (K14 _ _ ?_); clear hR R; try clear K14 Z14
  try simp only [go_sem, ldS_at hd, stX_at hd, ldS_sv hlt, stX_sv hlt, sv_ext hlt, sv_ext_sv hlt, lkX_osv hlt, upX_osv hlt, hx]
  refine W_cond rfl (fun c3 => ?_) (fun c3 => ?_)
  ·
   try simp only [nrm] at c3
   refine W_sr [6] fun R hR => ?_
   simp only [go_sem, ldS_at hd, stX_at hd, ldS_sv hlt, stX_sv hlt, sv_ext hlt, sv_ext_sv hlt, lkX_osv hlt, upX_osv hlt, hx]
   refine hR _ _ ?_; clear hR R
   try simp only [go_sem, ldS_at hd, stX_at hd, ldS_sv hlt, stX_sv hlt, sv_ext hlt, sv_ext_sv hlt, lkX_osv hlt, upX_osv hlt, hx]
   refine W_ret ?_
   simp only [go_sem, ldS_at hd, stX_at hd, ldS_sv hlt, stX_sv hlt, sv_ext hlt, sv_ext_sv hlt, lkX_osv hlt, upX_osv hlt, hx]
   refine ⟨.inr (by trivial), ?_⟩
   have hr2 : res.2 = kk := by rw [hinv] <;> first | rfl | (simp [*]; done) | (simp_all; done)
   rw [hr2]
   first | refine Fin_set hcl (by simp only [go_sem]) rfl (Wk_eq ?_ (by simp only [go_sem])) | refine Fin_set0 hcl (by simp only [go_sem]) rfl (Wk_eq ?_ (by simp only [go_sem]))
   try simp only [go_sem]
   all_goals
    first | rfl | (simp_all; done) | (simp_all; omega)
  try simp only [nrm] at c3
  refine W_skip (K13 _ _ ?_)
  refine W_seq fun Z16 K16 => ?_
  refine W_sr [0, 4, 8, 9, 11, 12, 13, 14, 15] fun R hR => ?_
  simp only [go_sem, ldS_at hd, stX_at hd, ldS_sv hlt, stX_sv hlt, sv_ext hlt, sv_ext_sv hlt, lkX_osv hlt, upX_osv hlt, hx]
  refine hR _ _ ?_; clear hR R
  try simp only [go_sem, ldS_at hd, stX_at hd, ldS_sv hlt, stX_sv hlt, sv_ext hlt, sv_ext_sv hlt, lkX_osv hlt, upX_osv hlt, hx]
  refine W_sr [0, 4, 8, 9, 13, 14, 15, 52] fun R hR => ?_
  simp only [go_sem, ldS_at hd, stX_at hd, ldS_sv hlt, stX_sv hlt, sv_ext hlt, sv_ext_sv hlt, lkX_osv hlt, upX_osv hlt, hx]
  refine GWant_split (fun g1 => ?_) (fun g1 => ?_)
  ·try simp only [Bool.not_eq_true', Bool.not_eq_false'] at g1
   have n1 := g1; try simp only [nrm] at n1
   simp only [go_sem, ldS_at hd, stX_at hd, ldS_sv hlt, stX_sv hlt, sv_ext hlt, sv_ext_sv hlt, lkX_osv hlt, upX_osv hlt, hx, g1]
   obtain ⟨old, hold⟩ : ∃ z, aget (x.matter, x.judge) kk = some z := Option.isSome_iff_exists.1 (by assumption)
   simp only [hold, Option.getD_some, mkPV_ne (KnPos.get hkk hold)]
   have holdl : old.length < 2 ^ 50 := by have := hkl _ (aget_mem hold); simp only at this; omega
   refine GCall_of (Equal_pc Y _ old x.marks _ _ holdl) ?_
   simp only [go_sem, ldS_at hd, stX_at hd, ldS_sv hlt, stX_sv hlt, sv_ext hlt, sv_ext_sv hlt, lkX_osv hlt, upX_osv hlt, hx, g1]
   refine hR _ _ ?_; clear hR R
   try simp only [go_sem, ldS_at hd, stX_at hd, ldS_sv hlt, stX_sv hlt, sv_ext hlt, sv_ext_sv hlt, lkX_osv hlt, upX_osv hlt, hx]
   refine W_cond rfl (fun c4 => ?_) (fun c4 => ?_)
   ·
    try simp only [nrm] at c4
    refine W_sr [6] fun R hR => ?_
    simp only [go_sem, ldS_at hd, stX_at hd, ldS_sv hlt, stX_sv hlt, sv_ext hlt, sv_ext_sv hlt, lkX_osv hlt, upX_osv hlt, hx]
    refine hR _ _ ?_; clear hR R
    try simp only [go_sem, ldS_at hd, stX_at hd, ldS_sv hlt, stX_sv hlt, sv_ext hlt, sv_ext_sv hlt, lkX_osv hlt, upX_osv hlt, hx]
    refine W_ret ?_
    simp only [go_sem, ldS_at hd, stX_at hd, ldS_sv hlt, stX_sv hlt, sv_ext hlt, sv_ext_sv hlt, lkX_osv hlt, upX_osv hlt, hx]
    refine ⟨.inr (by trivial), ?_⟩
    have hr2 : res.2 = kk := by rw [hinv] <;> first | rfl | (simp [*]; done) | (simp_all; done)
    rw [hr2]
    first | refine Fin_set hcl (by simp only [go_sem]) rfl (Wk_eq ?_ (by simp only [go_sem])) | refine Fin_set0 hcl (by simp only [go_sem]) rfl (Wk_eq ?_ (by simp only [go_sem]))
    try simp only [go_sem]
    all_goals
     first | rfl | (simp_all; done) | (simp_all; omega)
   try simp only [nrm] at c4
   refine W_skip (K16 _ _ ?_)
   refine W_region [0, 4, 13, 14, 15] fun R hR => ?_
   simp only [go_sem, ldS_at hd, stX_at hd, ldS_sv hlt, stX_sv hlt, sv_ext hlt, sv_ext_sv hlt, lkX_osv hlt, upX_osv hlt, hx, upKm hne]
   refine hR _ _ (K6 _ _ ?_); clear hR R; try clear K6 Z6
   try simp only [go_sem, ldS_at hd, stX_at hd, ldS_sv hlt, stX_sv hlt, sv_ext hlt, sv_ext_sv hlt, lkX_osv hlt, upX_osv hlt, hx]
   refine W_region [0, 4, 13, 14, 15] fun R hR => ?_
   simp only [go_sem, ldS_at hd, stX_at hd, ldS_sv hlt, stX_sv hlt, sv_ext hlt, sv_ext_sv hlt, lkX_osv hlt, upX_osv hlt, hx]
   try simp (disch := omega) only [wrapI, wrapU]
   refine hR _ _ ?_; clear hR R
   try simp only [go_sem, ldS_at hd, stX_at hd, ldS_sv hlt, stX_sv hlt, sv_ext hlt, sv_ext_sv hlt, lkX_osv hlt, upX_osv hlt, hx]
   refine ⟨(i + 1, aput (x.matter, x.judge) x.marks kk), ?_, by (try simp only []); omega, ?_⟩
   ·refine Weak.trans (Weak.cutSV 1 0 (by omega) (by omega) hcl (by simp only [go_sem]) (by simp only [go_sem] <;> omega) (by simp only [go_sem] <;> omega)) ?_
    simp only [go_sem]
    exact Weak.eq (by first | rfl | (simp only [go_sem]; done) | (simp only [go_sem]; rfl) | (simp [go_sem]; done) | (simp [go_sem]; omega)) (by first | rfl | (simp only [go_sem]; done) | (simp [go_sem]; done))
   try dsimp only
   refine ⟨hi', hkk.put hne, ?_, ?_⟩
   ·intro e he
    rcases aput_mem he with rfl | he
    ·exact hm x hxl
    exact hkl e he
   simp_all
  try simp only [Bool.not_eq_true', Bool.not_eq_false'] at g1
  have n1 := g1; try simp only [nrm] at n1
  simp only [go_sem, ldS_at hd, stX_at hd, ldS_sv hlt, stX_sv hlt, sv_ext hlt, sv_ext_sv hlt, lkX_osv hlt, upX_osv hlt, hx, g1]
  refine hR _ _ ?_; clear hR R
  try simp only [go_sem, ldS_at hd, stX_at hd, ldS_sv hlt, stX_sv hlt, sv_ext hlt, sv_ext_sv hlt, lkX_osv hlt, upX_osv hlt, hx]
  refine W_cond_false rfl ?_
  refine W_skip (K16 _ _ ?_)
  refine W_region [0, 4, 13, 14, 15] fun R hR => ?_
  simp only [go_sem, ldS_at hd, stX_at hd, ldS_sv hlt, stX_sv hlt, sv_ext hlt, sv_ext_sv hlt, lkX_osv hlt, upX_osv hlt, hx, upKm hne]
  refine hR _ _ (K6 _ _ ?_); clear hR R; try clear K6 Z6
  try simp only [go_sem, ldS_at hd, stX_at hd, ldS_sv hlt, stX_sv hlt, sv_ext hlt, sv_ext_sv hlt, lkX_osv hlt, upX_osv hlt, hx]
  refine W_region [0, 4, 13, 14, 15] fun R hR => ?_
  simp only [go_sem, ldS_at hd, stX_at hd, ldS_sv hlt, stX_sv hlt, sv_ext hlt, sv_ext_sv hlt, lkX_osv hlt, upX_osv hlt, hx]
  try simp (disch := omega) only [wrapI, wrapU]
  refine hR _ _ ?_; clear hR R
  try simp only [go_sem, ldS_at hd, stX_at hd, ldS_sv hlt, stX_sv hlt, sv_ext hlt, sv_ext_sv hlt, lkX_osv hlt, upX_osv hlt, hx]
  refine ⟨(i + 1, aput (x.matter, x.judge) x.marks kk), ?_, by (try simp only []); omega, ?_⟩
  ·refine Weak.trans (Weak.cutSV 1 0 (by omega) (by omega) hcl (by simp only [go_sem]) (by simp only [go_sem] <;> omega) (by simp only [go_sem] <;> omega)) ?_
   simp only [go_sem]
   exact Weak.eq (by first | rfl | (simp only [go_sem]; done) | (simp only [go_sem]; rfl) | (simp [go_sem]; done) | (simp [go_sem]; omega)) (by first | rfl | (simp only [go_sem]; done) | (simp [go_sem]; done))
  try dsimp only
  refine ⟨hi', hkk.put hne, ?_, ?_⟩
  ·intro e he
   rcases aput_mem he with rfl | he
   ·exact hm x hxl
   exact hkl e he
  simp_all
 try simp only [nrm] at c1
 have hdrop : l.drop i = [] := List.drop_eq_nil_of_le (by omega)
 rw [hdrop] at hinv
 simp only [openK] at hinv
 refine W_exit ?_
 simp only [go_sem, ldS_at hd, stX_at hd, ldS_sv hlt, stX_sv hlt, sv_ext hlt, sv_ext_sv hlt, lkX_osv hlt, upX_osv hlt]
 refine K2 _ _ ?_
 refine W_sr [6] fun R hR => ?_
 simp only [go_sem, ldS_at hd, stX_at hd, ldS_sv hlt, stX_sv hlt, sv_ext hlt, sv_ext_sv hlt, lkX_osv hlt, upX_osv hlt]
 refine hR _ _ ?_; clear hR R
 try simp only [go_sem, ldS_at hd, stX_at hd, ldS_sv hlt, stX_sv hlt, sv_ext hlt, sv_ext_sv hlt, lkX_osv hlt, upX_osv hlt]
 refine W_ret ?_
 simp only [go_sem, ldS_at hd, stX_at hd, ldS_sv hlt, stX_sv hlt, sv_ext hlt, sv_ext_sv hlt, lkX_osv hlt, upX_osv hlt]
 refine ⟨.inr (by trivial), ?_⟩
 have hr2 : res.2 = kk := by rw [hinv] <;> first | rfl | (simp [*]; done) | (simp_all; done)
 rw [hr2]
 first | refine Fin_set hcl (by simp only [go_sem]) rfl (Wk_eq ?_ (by simp only [go_sem])) | refine Fin_set0 hcl (by simp only [go_sem]) rfl (Wk_eq ?_ (by simp only [go_sem]))
 try simp only [go_sem]
 all_goals
  first | rfl | (simp_all; done) | (simp_all; omega)
set_option maxHeartbeats 2000000 in
theorem miss_pc (Y : YEnv) (σ : Sg) (id : Nat) (k : Kn) (hd : σ.store[id]? = some (some (.mark :: knE k))) (s : Scale) (l : List (Int × Int)) (hv : s.V) (hl : l.length < 2 ^ 40) :
 PC Tryz.prog Y 34 [.map id, scPV s, sts l] σ (I (missK s l k).1) (σ.setVar id (.mark :: knE (missK s l k).2)) := by
 refine PC_of_W Tryz.func34 rfl (by kernel_rfl) Tryz.ntmps34 (by simp) fun hcl hca => ?_
 have hlt := lt_of_get hd
 obtain ⟨res, hres⟩ : ∃ r, missK s l k = r := ⟨_, rfl⟩
 rw [hres]
 refine W_sr [0, 2, 4] fun R hR => ?_
 simp only [go_sem, ldS_at hd, stX_at hd, ldS_sv hlt, stX_sv hlt, sv_ext hlt, sv_ext_sv hlt, lkX_osv hlt, upX_osv hlt]
 refine hR _ _ ?_; clear hR R
 try simp only [go_sem, ldS_at hd, stX_at hd, ldS_sv hlt, stX_sv hlt, sv_ext hlt, sv_ext_sv hlt, lkX_osv hlt, upX_osv hlt]
 refine W_seq fun Z2 K2 => ?_
 refine W_sr [0, 4, 10, 11, 12] fun R hR => ?_
 simp only [go_sem, ldS_at hd, stX_at hd, ldS_sv hlt, stX_sv hlt, sv_ext hlt, sv_ext_sv hlt, lkX_osv hlt, upX_osv hlt]
 refine hR _ _ ?_; clear hR R
 try simp only [go_sem, ldS_at hd, stX_at hd, ldS_sv hlt, stX_sv hlt, sv_ext hlt, sv_ext_sv hlt, lkX_osv hlt, upX_osv hlt]
 refine W_block ?_
 refine W_loopT (α := Nat × Kn) (fun ⟨i, kk⟩ => [(12, I i)]) (fun ⟨i, kk⟩ => (σ.setVar id (.mark :: knE kk)).ext [some (scCells s)] []) (fun ⟨i, kk⟩ => i ≤ l.length ∧ res = missK s (l.drop i) kk) (fun ⟨i, kk⟩ => l.length - i) ((0, k)) rfl (by simp only [go_sem, sv_self hd]) (⟨Nat.zero_le _, hres.symm⟩) ?_
 rintro ⟨i, kk⟩ ⟨hi, hinv⟩
 refine W_sr [0, 4, 10, 11, 12, 13] fun R hR => ?_
 simp only [go_sem, ldS_at hd, stX_at hd, ldS_sv hlt, stX_sv hlt, sv_ext hlt, sv_ext_sv hlt, lkX_osv hlt, upX_osv hlt]
 refine hR _ _ ?_; clear hR R
 try simp only [go_sem, ldS_at hd, stX_at hd, ldS_sv hlt, stX_sv hlt, sv_ext hlt, sv_ext_sv hlt, lkX_osv hlt, upX_osv hlt]
 refine W_seq fun Z5 K5 => ?_
 refine W_cond rfl (fun c1 => ?_) (fun c1 => ?_)
 ·
  try simp only [nrm] at c1
  have hi' : i < l.length := by first | assumption | omega
  obtain ⟨x, hx⟩ : ∃ x, l[i]? = some x := ⟨l[i], by simp [hi']⟩
  have hdrop : l.drop i = x :: l.drop (i + 1) := by
   rw [List.drop_eq_getElem_cons hi']; congr 1; exact (List.getElem?_eq_some_iff.1 hx).2
  rw [hdrop] at hinv
  simp only [missK] at hinv
  refine W_skip (K5 _ _ ?_)
  refine W_seq fun Z6 K6 => ?_
  refine W_block ?_
  refine W_sr [0, 4, 8, 10, 11, 12] fun R hR => ?_
  simp only [go_sem, ldS_at hd, stX_at hd, ldS_sv hlt, stX_sv hlt, sv_ext hlt, sv_ext_sv hlt, lkX_osv hlt, upX_osv hlt, hx]
  refine hR _ _ ?_; clear hR R
  try simp only [go_sem, ldS_at hd, stX_at hd, ldS_sv hlt, stX_sv hlt, sv_ext hlt, sv_ext_sv hlt, lkX_osv hlt, upX_osv hlt, hx]
  refine W_sr [0, 4, 9, 10, 11, 12] fun R hR => ?_
  simp only [go_sem, ldS_at hd, stX_at hd, ldS_sv hlt, stX_sv hlt, sv_ext hlt, sv_ext_sv hlt, lkX_osv hlt, upX_osv hlt, hx]
  refine hR _ _ ?_; clear hR R
  try simp only [go_sem, ldS_at hd, stX_at hd, ldS_sv hlt, stX_sv hlt, sv_ext hlt, sv_ext_sv hlt, lkX_osv hlt, upX_osv hlt, hx]
  refine W_seq fun Z9 K9 => ?_
  refine W_block ?_
  refine W_sr [0, 4, 9, 10, 11, 12, 21] fun R hR => ?_
  simp only [go_sem, ldS_at hd, stX_at hd, ldS_sv hlt, stX_sv hlt, sv_ext hlt, sv_ext_sv hlt, lkX_osv hlt, upX_osv hlt, hx]
  refine GCall_of (of_pc Y _ s x hv) ?_
  simp only [go_sem, ldS_at hd, stX_at hd, ldS_sv hlt, stX_sv hlt, sv_ext hlt, sv_ext_sv hlt, lkX_osv hlt, upX_osv hlt, hx]
  refine hR _ _ ?_; clear hR R
  try simp only [go_sem, ldS_at hd, stX_at hd, ldS_sv hlt, stX_sv hlt, sv_ext hlt, sv_ext_sv hlt, lkX_osv hlt, upX_osv hlt, hx]
  refine W_cond rfl (fun c2 => ?_) (fun c2 => ?_)
  ·
   try simp only [nrm] at c2
   refine W_sr [6] fun R hR => ?_
   simp only [go_sem, ldS_at hd, stX_at hd, ldS_sv hlt, stX_sv hlt, sv_ext hlt, sv_ext_sv hlt, lkX_osv hlt, upX_osv hlt, hx]
   refine hR _ _ ?_; clear hR R
   try simp only [go_sem, ldS_at hd, stX_at hd, ldS_sv hlt, stX_sv hlt, sv_ext hlt, sv_ext_sv hlt, lkX_osv hlt, upX_osv hlt, hx]
   refine W_ret ?_
   simp only [go_sem, ldS_at hd, stX_at hd, ldS_sv hlt, stX_sv hlt, sv_ext hlt, sv_ext_sv hlt, lkX_osv hlt, upX_osv hlt, hx]
   refine ⟨.inr (by trivial), ?_⟩
   have hr2 : res.2 = kk := by rw [hinv] <;> first | rfl | (simp [*]; done) | (simp_all; done)
   rw [hr2]
   first | refine Fin_set hcl (by simp only [go_sem]) rfl (Wk_eq ?_ (by simp only [go_sem])) | refine Fin_set0 hcl (by simp only [go_sem]) rfl (Wk_eq ?_ (by simp only [go_sem]))
   try simp only [go_sem]
   all_goals
    first | rfl | (simp_all; done) | (simp_all; omega)
  try simp only [nrm] at c2
  refine W_sr [0, 4, 9, 10, 11, 12, 26] fun R hR => ?_
  simp only [go_sem, ldS_at hd, stX_at hd, ldS_sv hlt, stX_sv hlt, sv_ext hlt, sv_ext_sv hlt, lkX_osv hlt, upX_osv hlt, hx]
  refine hR _ _ ?_; clear hR R
  try simp only [go_sem, ldS_at hd, stX_at hd, ldS_sv hlt, stX_sv hlt, sv_ext hlt, sv_ext_sv hlt, lkX_osv hlt, upX_osv hlt, hx]
  refine W_cond rfl (fun c3 => ?_) (fun c3 => ?_)
  ·
   try simp only [nrm] at c3
   refine W_sr [6] fun R hR => ?_
   simp only [go_sem, ldS_at hd, stX_at hd, ldS_sv hlt, stX_sv hlt, sv_ext hlt, sv_ext_sv hlt, lkX_osv hlt, upX_osv hlt, hx]
   refine hR _ _ ?_; clear hR R
   try simp only [go_sem, ldS_at hd, stX_at hd, ldS_sv hlt, stX_sv hlt, sv_ext hlt, sv_ext_sv hlt, lkX_osv hlt, upX_osv hlt, hx]
   refine W_ret ?_
   simp only [go_sem, ldS_at hd, stX_at hd, ldS_sv hlt, stX_sv hlt, sv_ext hlt, sv_ext_sv hlt, lkX_osv hlt, upX_osv hlt, hx]
   refine ⟨.inr (by trivial), ?_⟩
   have hr2 : res.2 = kk := by rw [hinv] <;> first | rfl | (simp [*]; done) | (simp_all; done)
   rw [hr2]
   first | refine Fin_set hcl (by simp only [go_sem]) rfl (Wk_eq ?_ (by simp only [go_sem])) | refine Fin_set0 hcl (by simp only [go_sem]) rfl (Wk_eq ?_ (by simp only [go_sem]))
   try simp only [go_sem]
   all_goals
    first | rfl | (simp_all; done) | (simp_all; omega)
  try simp only [nrm] at c3
  refine W_skip (K9 _ _ ?_)
  refine W_region [0, 4, 10, 11, 12] fun R hR => ?_
  simp only [go_sem, ldS_at hd, stX_at hd, ldS_sv hlt, stX_sv hlt, sv_ext hlt, sv_ext_sv hlt, lkX_osv hlt, upX_osv hlt, hx]
  refine hR _ _ (K6 _ _ ?_); clear hR R; try clear K6 Z6
  try simp only [go_sem, ldS_at hd, stX_at hd, ldS_sv hlt, stX_sv hlt, sv_ext hlt, sv_ext_sv hlt, lkX_osv hlt, upX_osv hlt, hx]
  refine W_region [0, 4, 10, 11, 12] fun R hR => ?_
  simp only [go_sem, ldS_at hd, stX_at hd, ldS_sv hlt, stX_sv hlt, sv_ext hlt, sv_ext_sv hlt, lkX_osv hlt, upX_osv hlt, hx]
  try simp (disch := omega) only [wrapI, wrapU]
  refine hR _ _ ?_; clear hR R
  try simp only [go_sem, ldS_at hd, stX_at hd, ldS_sv hlt, stX_sv hlt, sv_ext hlt, sv_ext_sv hlt, lkX_osv hlt, upX_osv hlt, hx]
  refine ⟨(i + 1, aput x [] kk), ?_, by (try simp only []); omega, ?_⟩
  ·refine Weak.trans (Weak.cutSV 1 0 (by omega) (by omega) hcl (by simp only [go_sem]) (by simp only [go_sem] <;> omega) (by simp only [go_sem] <;> omega)) ?_
   simp only [go_sem]
   exact Weak.eq (by first | rfl | (simp only [go_sem]; done) | (simp only [go_sem]; rfl) | (simp [go_sem]; done) | (simp [go_sem]; omega)) (by first | rfl | (simp only [go_sem]; done) | (simp [go_sem]; done))
  try dsimp only
  refine ⟨hi', ?_⟩
  simp_all
 try simp only [nrm] at c1
 have hdrop : l.drop i = [] := List.drop_eq_nil_of_le (by omega)
 rw [hdrop] at hinv
 simp only [missK] at hinv
 refine W_exit ?_
 simp only [go_sem, ldS_at hd, stX_at hd, ldS_sv hlt, stX_sv hlt, sv_ext hlt, sv_ext_sv hlt, lkX_osv hlt, upX_osv hlt]
 refine K2 _ _ ?_
 refine W_sr [6] fun R hR => ?_
 simp only [go_sem, ldS_at hd, stX_at hd, ldS_sv hlt, stX_sv hlt, sv_ext hlt, sv_ext_sv hlt, lkX_osv hlt, upX_osv hlt]
 refine hR _ _ ?_; clear hR R
 try simp only [go_sem, ldS_at hd, stX_at hd, ldS_sv hlt, stX_sv hlt, sv_ext hlt, sv_ext_sv hlt, lkX_osv hlt, upX_osv hlt]
 refine W_ret ?_
 simp only [go_sem, ldS_at hd, stX_at hd, ldS_sv hlt, stX_sv hlt, sv_ext hlt, sv_ext_sv hlt, lkX_osv hlt, upX_osv hlt]
 refine ⟨.inr (by trivial), ?_⟩
 have hr2 : res.2 = kk := by rw [hinv] <;> first | rfl | (simp [*]; done) | (simp_all; done)
 rw [hr2]
 first | refine Fin_set hcl (by simp only [go_sem]) rfl (Wk_eq ?_ (by simp only [go_sem])) | refine Fin_set0 hcl (by simp only [go_sem]) rfl (Wk_eq ?_ (by simp only [go_sem]))
 try simp only [go_sem]
 all_goals
  first | rfl | (simp_all; done) | (simp_all; omega)
set_option maxHeartbeats 2000000 in
theorem judges_pc (Y : YEnv) (σ : Sg) (s : Scale) :
 PC Tryz.prog Y 35 [scPV s] σ (.func (.func 63) [] [.ptr σ.store.length 0]) (σ.ext [some (scCells s)] []) := by
 refine PC_of_W Tryz.func35 rfl (by kernel_rfl) Tryz.ntmps35 (by simp) fun hcl hca => ?_
 refine W_sr [1] fun R hR => ?_
 simp only [go_sem]
 refine hR _ _ ?_; clear hR R
 try simp only [go_sem]
 refine W_sr [2] fun R hR => ?_
 simp only [go_sem]
 refine hR _ _ ?_; clear hR R
 try simp only [go_sem]
 refine W_ret ?_
 simp only [go_sem]
 refine ⟨.inr (by trivial), ?_⟩
 exact Fin_ext 1 0 hcl rfl (Wk_eq rfl (by simp only [go_sem] <;> omega)) (by show CleanLs _ _ _ _; simp only [go_sem])
 try simp only [go_sem]
 all_goals
  skip
set_option maxHeartbeats 2000000 in
theorem sealed_pc (Y : YEnv) (σ : Sg) (id : Nat) (hid : id < σ.store.length) (s : Scale) :
 PC Tryz.prog Y 18 [.map id, scPV s] σ (.func (.func 39) [] [.ptr (σ.store.length + 1) 0, .ptr σ.store.length 0]) (σ.ext [some [.map id], some (scCells s)] []) := by
 refine PC_of_W Tryz.func18 rfl (by kernel_rfl) Tryz.ntmps18 (by simp) fun hcl hca => ?_
 refine W_sr [2, 3] fun R hR => ?_
 simp only [go_sem]
 refine hR _ _ ?_; clear hR R
 try simp only [go_sem]
 refine W_sr [4] fun R hR => ?_
 simp only [go_sem]
 refine hR _ _ ?_; clear hR R
 try simp only [go_sem]
 refine W_ret ?_
 simp only [go_sem]
 refine ⟨.inr (by trivial), ?_⟩
 refine Fin_ext 2 0 hcl rfl (Wk_eq rfl ?_) ?_
 ·simp only [go_sem] <;> omega
 ·show CleanLs _ _ _ _
  simp only [go_sem] <;> omega
 try simp only [go_sem]
 all_goals
  skip
set_option maxHeartbeats 2000000 in
theorem judges1_pc (Y : YEnv) (σ : Sg) (y id : Nat) (s : Scale) (τ : Nat → Sg) (M J e : Nat) (stop : Bool) (hM : s.matters = M) (hJ : s.judges = J) (hMb : M < 2 ^ 40) (hJb : J < 2 ^ 40)
 (hst : ∀ t, t ≤ e → (τ t).store[id]? = some (some (scCells s))) (he : e ≤ M * J) (hs0 : stop = false → e = M * J) (hs1 : stop = true → 0 < e)
 (hY : ∀ m n, m < M → n < J → m * J + n < e → Y y [.agg [I m, I n]] (τ (m * J + n)) (!(stop && decide (m * J + n + 1 = e))) (τ (m * J + n + 1)))
 (hlen : (τ e).store.length = (τ 0).store.length) (hr : (τ e).rooms.length = (τ 0).rooms.length) (hy : (τ e).ys.length = (τ 0).ys.length) (hcl' : CleanSg (τ 0) → CleanSg (τ e)) :
 PC Tryz.prog Y 63 [.yield y, .ptr id 0] (τ 0) (.tuple []) (τ e) := by
 refine PC_of_W Tryz.func63 rfl (by kernel_rfl) Tryz.ntmps63 (by simp) fun hcl hca => ?_
 have hs00 := hst 0 (Nat.zero_le _)
 refine W_sr [0, 1, 6, 7] fun R hR => ?_
 simp only [go_sem, ldS_at hs00, hM, hJ]
 refine hR _ _ ?_; clear hR R
 try simp only [go_sem, ldS_at hs00, hM, hJ]
 refine W_block ?_
 refine W_loopT (α := Nat) (fun (m : Nat) => [(7, I m)]) (fun (m : Nat) => τ (m * J)) (fun (m : Nat) => m ≤ M ∧ m * J ≤ e ∧ (stop = true → m * J < e)) (fun (m : Nat) => M - m) (0) rfl (by rw [Nat.zero_mul]) (⟨Nat.zero_le _, by simp, by simpa using hs1⟩) ?_
 rintro m ⟨hmi, hme, hms⟩
 have hsm := hst (m * J) hme
 refine W_sr [0, 1, 6, 7, 8] fun R hR => ?_
 simp only [go_sem, ldS_at hs00, hM, hJ]
 refine hR _ _ ?_; clear hR R
 try simp only [go_sem, ldS_at hs00, hM, hJ]
 refine W_seq fun Z3 K3 => ?_
 refine W_cond rfl (fun c1 => ?_) (fun c1 => ?_)
 ·
  try simp only [nrm] at c1
  have hm : m < M := by first | omega | (simp at c1; omega)
  have hmul : m * J + J ≤ M * J := by rw [← Nat.succ_mul]; exact Nat.mul_le_mul_right _ hm
  have hlt : ∀ p, p < M * J → p ≤ e → (stop = true → p < e) → p < e := fun p h1 h2 h3 => by
   cases hst' : stop with
   | true => exact h3 hst'
   | false => rw [hs0 hst']; exact h1
  refine W_skip (K3 _ _ ?_)
  refine W_seq fun Z4 K4 => ?_
  refine W_block ?_
  refine W_sr [0, 1, 3, 6, 7] fun R hR => ?_
  simp only [go_sem, ldS_at hs00, hM, hJ]
  refine hR _ _ ?_; clear hR R
  try simp only [go_sem, ldS_at hs00, hM, hJ]
  refine W_sr [0, 1, 3, 6, 7, 11, 12] fun R hR => ?_
  simp only [go_sem, ldS_at hs00, hM, hJ, ldS_at hsm]
  refine hR _ _ ?_; clear hR R
  try simp only [go_sem, ldS_at hs00, hM, hJ]
  refine W_block ?_
  refine W_loopT (α := Nat) (fun (n : Nat) => [(12, I n)]) (fun (n : Nat) => τ (m * J + n)) (fun (n : Nat) => n ≤ J ∧ m * J + n ≤ e ∧ (stop = true → m * J + n < e)) (fun (n : Nat) => J - n) (0) rfl (by rw [Nat.add_zero]) (⟨Nat.zero_le _, hme, hms⟩) ?_
  rintro n ⟨hni, hne, hns⟩
  refine W_sr [0, 1, 3, 6, 7, 11, 12, 13] fun R hR => ?_
  simp only [go_sem, ldS_at hs00, hM, hJ]
  refine hR _ _ ?_; clear hR R
  try simp only [go_sem, ldS_at hs00, hM, hJ]
  refine W_seq fun Z8 K8 => ?_
  refine W_cond rfl (fun c2 => ?_) (fun c2 => ?_)
  ·
   try simp only [nrm] at c2
   have hn : n < J := by first | omega | (simp at c2; omega)
   have hpe := hlt (m * J + n) (by omega) hne hns
   refine W_skip (K8 _ _ ?_)
   refine W_seq fun Z9 K9 => ?_
   refine W_block ?_
   refine W_sr [0, 1, 3, 4, 6, 7, 11, 12] fun R hR => ?_
   simp only [go_sem, ldS_at hs00, hM, hJ]
   refine hR _ _ ?_; clear hR R
   try simp only [go_sem, ldS_at hs00, hM, hJ]
   refine W_sr [0, 1, 3, 6, 7, 11, 12, 20] fun R hR => ?_
   simp only [go_sem, ldS_at hs00, hM, hJ]
   refine GYield_of (hY m n hm hn hpe) ?_
   simp only [go_sem, ldS_at hs00, hM, hJ]
   refine hR _ _ ?_; clear hR R
   try simp only [go_sem, ldS_at hs00, hM, hJ]
   refine W_cond rfl (fun c3 => ?_) (fun c3 => ?_)
   ·
    try simp only [nrm] at c3
    refine W_ret ?_
    simp only [go_sem, ldS_at hs00, hM, hJ]
    refine ⟨.inr (by trivial), ?_⟩
    have hp2 : m * J + n + 1 = e := by simp at c3; exact c3.2
    subst hp2
    exact Fin_end (rs := []) (hcl' hcl) hlen hr hy rfl (Wk.of_clean (.tuple _ Clean.all_nil))
    try simp only [go_sem]
    all_goals
     skip
   try simp only [nrm] at c3
   refine W_skip (K9 _ _ ?_)
   refine W_region [0, 1, 3, 6, 7, 11, 12] fun R hR => ?_
   simp only [go_sem, ldS_at hs00, hM, hJ]
   try simp (disch := omega) only [wrapI, wrapU]
   refine hR _ _ ?_; clear hR R
   try simp only [go_sem, ldS_at hs00, hM, hJ]
   refine ⟨n + 1, ?_, by (try simp only []); omega, ?_⟩
   ·first | exact Weak.refl | exact Wqq
   try dsimp only
   refine ⟨hn, by omega, fun h => ?_⟩
   have : ¬ (m * J + n + 1 = e) := fun h2 => by simp [h, h2] at c3
   omega
  try simp only [nrm] at c2
  have hnJ : n = J := by first | omega | (simp at c2; omega)
  subst hnJ
  refine W_exit ?_
  simp only [go_sem, ldS_at hs00, hM, hJ]
  refine K4 _ _ ?_
  refine W_region [0, 1, 6, 7] fun R hR => ?_
  simp only [go_sem, ldS_at hs00, hM, hJ]
  try simp (disch := omega) only [wrapI, wrapU]
  refine hR _ _ ?_; clear hR R
  try simp only [go_sem, ldS_at hs00, hM, hJ]
  refine ⟨m + 1, ?_, by (try simp only []); omega, ?_⟩
  ·exact Weak.eq (by first | rfl | (simp only [go_sem]; done)) (by rw [Nat.succ_mul])
  try dsimp only
  rw [Nat.succ_mul]
  exact ⟨hm, hne, hns⟩
 try simp only [nrm] at c1
 have hmM : m = M := by first | omega | (simp at c1; omega)
 subst hmM
 have hsf : stop = false := by cases h : stop with
  | false => rfl
  | true => have := hms h; omega
 have hee : e = m * J := hs0 hsf
 subst hee
 refine W_exit ?_
 simp only [go_sem, ldS_at hs00, hM, hJ]
 try simp only [go_sem, ldS_at hs00, hM, hJ]
 refine ⟨.inl (by trivial), ?_⟩
 exact Fin_end (rs := []) (hcl' hcl) hlen hr hy rfl (Wk.of_clean (.tuple _ Clean.all_nil))
 try simp only [go_sem]
 all_goals
  skip
set_option maxHeartbeats 2000000 in
theorem absent_pc (Y : YEnv) (σ : Sg) (id : Nat) (k : Kn) (hd : σ.store[id]? = some (some (.mark :: knE k))) (j : Int × Int) :
 PC Tryz.prog Y 36 [.map id, stPV j] σ (.bool (absentK k j)) (σ) := by
 refine PC_of_W Tryz.func36 rfl (by kernel_rfl) Tryz.ntmps36 (by simp) fun hcl hca => ?_
 have hlt := lt_of_get hd
 refine W_sr [0, 3] fun R hR => ?_
 simp only [go_sem, lkX, get_extx hd, hd]
 refine hR _ _ ?_; clear hR R
 try simp only [go_sem, lkX, get_extx hd, hd]
 refine W_sr [5, 6] fun R hR => ?_
 simp only [go_sem, lkX, get_extx hd, hd]
 refine hR _ _ ?_; clear hR R
 try simp only [go_sem, lkX, get_extx hd, hd]
 refine W_sr [4] fun R hR => ?_
 simp only [go_sem, lkX, get_extx hd, hd]
 refine GWant_split (fun g1 => ?_) (fun g1 => ?_)
 ·try simp only [Bool.not_eq_true', Bool.not_eq_false'] at g1
  have n1 := g1; try simp only [nrm] at n1
  simp only [go_sem, lkX, get_extx hd, hd, g1]
  refine hR _ _ ?_; clear hR R
  try simp only [go_sem, lkX, get_extx hd, hd]
  refine W_ret ?_
  simp only [go_sem, lkX, get_extx hd, hd]
  refine ⟨.inr (by trivial), ?_⟩
  first | refine Fsa hcl rfl ?_ | refine Fse hcl rfl ?_
  try simp only [go_sem]
  all_goals
   simp only [absentK]; cases hk : aget j k with | none => simp_all | some l => cases l <;> simp_all
 try simp only [Bool.not_eq_true', Bool.not_eq_false'] at g1
 have n1 := g1; try simp only [nrm] at n1
 simp only [go_sem, lkX, get_extx hd, hd, g1]
 refine hR _ _ ?_; clear hR R
 try simp only [go_sem, lkX, get_extx hd, hd]
 refine W_ret ?_
 simp only [go_sem, lkX, get_extx hd, hd]
 refine ⟨.inr (by trivial), ?_⟩
 first | refine Fsa hcl rfl ?_ | refine Fse hcl rfl ?_
 try simp only [go_sem]
 all_goals
  simp only [absentK]; cases hk : aget j k with | none => simp_all | some l => cases l <;> simp_all
set_option maxHeartbeats 2000000 in
theorem fines_pc (Y : YEnv) (σ : Sg) (s : Scale) (l : List (Int × Int)) (h : s.V) (hl : l.length < 2 ^ 40) :
 PC Tryz.prog Y 38 [scPV s, sts l] σ (I (finesE s l)) (σ) := by
 refine PC_of_W Tryz.func38 rfl (by kernel_rfl) Tryz.ntmps38 (by simp) fun hcl hca => ?_
 have h1 := h.sc
 obtain ⟨res, hres⟩ : ∃ r, finesE s l = r := ⟨_, rfl⟩
 rw [hres]
 refine W_sr [1, 2] fun R hR => ?_
 simp only [go_sem]
 refine hR _ _ ?_; clear hR R
 try simp only [go_sem]
 refine W_seq fun Z2 K2 => ?_
 refine W_sr [1, 2, 9] fun R hR => ?_
 simp only [go_sem]
 refine hR _ _ ?_; clear hR R
 try simp only [go_sem]
 refine W_cond rfl (fun c1 => ?_) (fun c1 => ?_)
 ·
  try simp only [nrm] at c1
  refine W_sr [4] fun R hR => ?_
  simp only [go_sem]
  refine hR _ _ ?_; clear hR R
  try simp only [go_sem]
  refine W_ret ?_
  simp only [go_sem]
  refine ⟨.inr (by trivial), ?_⟩
  first | refine Fsa hcl rfl ?_ | refine Fse hcl rfl ?_
  try simp only [go_sem]
  all_goals
   rw [← hres]; simp [finesE, *]; try omega
 try simp only [nrm] at c1
 refine W_skip (K2 _ _ ?_)
 refine W_seq fun Z5 K5 => ?_
 refine W_sr [2, 10, 11, 12] fun R hR => ?_
 simp only [go_sem]
 refine hR _ _ ?_; clear hR R
 try simp only [go_sem]
 refine W_block ?_
 refine W_loopS (α := Nat) (fun (i : Nat) => [(12, I i)]) (fun (i : Nat) => i ≤ l.length ∧ res = finesR s (l.drop i)) (fun (i : Nat) => l.length - i) (0) rfl (⟨Nat.zero_le _, by rw [← hres]; simp [finesE, *] <;> omega⟩) ?_
 rintro i ⟨hi, hinv⟩
 refine W_sr [2, 10, 11, 12, 13] fun R hR => ?_
 simp only [go_sem]
 refine hR _ _ ?_; clear hR R
 try simp only [go_sem]
 refine W_seq fun Z8 K8 => ?_
 refine W_cond rfl (fun c2 => ?_) (fun c2 => ?_)
 ·
  try simp only [nrm] at c2
  have hi' : i < l.length := by first | assumption | omega
  obtain ⟨x, hx⟩ : ∃ x, l[i]? = some x := ⟨l[i], by simp [hi']⟩
  have hdrop : l.drop i = x :: l.drop (i + 1) := by
   rw [List.drop_eq_getElem_cons hi']; congr 1; exact (List.getElem?_eq_some_iff.1 hx).2
  rw [hdrop] at hinv
  simp only [finesR] at hinv
  refine W_skip (K8 _ _ ?_)
  refine W_seq fun Z9 K9 => ?_
  refine W_block ?_
  refine W_sr [2, 6, 10, 11, 12] fun R hR => ?_
  simp only [go_sem, hx]
  refine hR _ _ ?_; clear hR R
  try simp only [go_sem, hx]
  refine W_block ?_
  refine W_sr [2, 6, 10, 11, 12, 16] fun R hR => ?_
  simp only [go_sem, hx]
  try simp (disch := omega) only [wrapI, wrapU]
  refine GCall_of (in_pc Y _ x.1 0 _) ?_
  simp only [go_sem, hx]
  try simp (disch := omega) only [wrapI, wrapU]
  refine hR _ _ ?_; clear hR R
  try simp only [go_sem, hx]
  refine W_cond rfl (fun c3 => ?_) (fun c3 => ?_)
  ·
   try simp only [nrm] at c3
   refine W_sr [4] fun R hR => ?_
   simp only [go_sem, hx]
   refine hR _ _ ?_; clear hR R
   try simp only [go_sem, hx]
   refine W_ret ?_
   simp only [go_sem, hx]
   refine ⟨.inr (by trivial), ?_⟩
   first | refine Fsa hcl rfl ?_ | refine Fse hcl rfl ?_
   try simp only [go_sem]
   all_goals
    first | rfl | (simp_all; done) | (simp_all; omega)
  try simp only [nrm] at c3
  refine W_sr [2, 10, 11, 12, 24] fun R hR => ?_
  simp only [go_sem, hx]
  refine GCall_of (in_pc Y _ x.2 0 1000) ?_
  simp only [go_sem, hx]
  refine hR _ _ ?_; clear hR R
  try simp only [go_sem, hx]
  refine W_cond rfl (fun c4 => ?_) (fun c4 => ?_)
  ·
   try simp only [nrm] at c4
   refine W_sr [4] fun R hR => ?_
   simp only [go_sem, hx]
   refine hR _ _ ?_; clear hR R
   try simp only [go_sem, hx]
   refine W_ret ?_
   simp only [go_sem, hx]
   refine ⟨.inr (by trivial), ?_⟩
   first | refine Fsa hcl rfl ?_ | refine Fse hcl rfl ?_
   try simp only [go_sem]
   all_goals
    first | rfl | (simp_all; done) | (simp_all; omega)
  try simp only [nrm] at c4
  refine W_skip (K9 _ _ ?_)
  refine W_region [2, 10, 11, 12] fun R hR => ?_
  simp only [go_sem, hx]
  try simp (disch := omega) only [wrapI, wrapU]
  refine hR _ _ ?_; clear hR R
  try simp only [go_sem, hx]
  refine ⟨i + 1, ?_, by (try simp only []); omega, ?_⟩
  ·refine Weak.trans (Weak.cutX 1 0 (by omega) (by omega) hcl (by simp only [go_sem] <;> omega) (by simp only [go_sem] <;> omega)) ?_
   simp only [go_sem]
   exact Weak.eq (by first | rfl | (simp only [go_sem]; done) | (simp only [go_sem]; rfl) | (simp [go_sem]; done) | (simp [go_sem]; omega)) (by first | rfl | (simp only [go_sem]; done) | (simp [go_sem]; done))
  try dsimp only
  exact ⟨hi', by simp_all⟩
 try simp only [nrm] at c2
 have hdrop : l.drop i = [] := List.drop_eq_nil_of_le (by omega)
 rw [hdrop] at hinv
 simp only [finesR] at hinv
 refine W_exit ?_
 simp only [go_sem]
 refine K5 _ _ ?_
 refine W_sr [4] fun R hR => ?_
 simp only [go_sem]
 refine hR _ _ ?_; clear hR R
 try simp only [go_sem]
 refine W_ret ?_
 simp only [go_sem]
 refine ⟨.inr (by trivial), ?_⟩
 first | refine Fsa hcl rfl ?_ | refine Fse hcl rfl ?_
 try simp only [go_sem]
 all_goals
  first | rfl | (simp_all; done) | (simp_all; omega)
def jdE (x : Envl) : Int × Int := (x.matter, x.judge)
structure GoodE (s : Scale) (x : Envl) : Prop where
 m : marked s (jdE x) x.marks = 0
 sl : x.sl = sealOf (jdE x) x.marks
def SameE (l : List Envl) : Prop := ∀ x, x ∈ l → ∀ y, y ∈ l → jdE x = jdE y → x.marks = y.marks
/-- The first envelope of a judge. -/
def findE (l : List Envl) (j : Int × Int) : Option (List Int) := (l.find? fun x => decide (jdE x = j)).map (·.marks)
theorem findE_nil (j : Int × Int) : findE [] j = none := rfl
theorem findE_cons (x : Envl) (l : List Envl) (j : Int × Int) : findE (x :: l) j = if jdE x = j then some x.marks else findE l j := by
 unfold findE
 rw [List.find?_cons]
 by_cases h : jdE x = j <;> simp [h]
theorem findE_some {l : List Envl} {j : Int × Int} {v : List Int} (h : findE l j = some v) : ∃ x, x ∈ l ∧ jdE x = j ∧ x.marks = v := by
 induction l with
 | nil => cases h
 | cons x l ih =>
  rw [findE_cons] at h
  split at h
  ·cases h; exact ⟨x, by simp, by assumption, rfl⟩
  obtain ⟨y, h1, h2⟩ := ih h; exact ⟨y, by simp [h1], h2⟩
theorem findE_none {l : List Envl} {j : Int × Int} : findE l j = none ↔ ∀ x, x ∈ l → jdE x ≠ j := by
 induction l with
 | nil => simp [findE_nil]
 | cons x l ih =>
  rw [findE_cons]
  split
  ·constructor
   ·intro h; cases h
   intro h; exact absurd (by assumption) (h x (by simp))
  rw [ih]
  constructor
  ·intro h y hy
   rcases List.mem_cons.1 hy with rfl | hy
   ·assumption
   exact h y hy
  intro h y hy; exact h y (by simp [hy])
theorem findE_mem {l : List Envl} (hs : SameE l) {x : Envl} (hx : x ∈ l) : findE l (jdE x) = some x.marks := by
 cases h : findE l (jdE x) with
 | none => exact absurd rfl (findE_none.1 h x hx)
 | some v =>
  obtain ⟨y, h1, h2, rfl⟩ := findE_some h
  rw [hs y h1 x hx h2]
theorem openK_zero {s : Scale} : ∀ {l : List Envl} {k : Kn}, (openK s l k).1 = 0 ↔ (∀ x, x ∈ l → GoodE s x) ∧ SameE l ∧ ∀ x, x ∈ l → ∀ o, aget (jdE x) k = some o → o = x.marks := by
 intro l
 induction l with
 | nil => intro k; simp [openK, SameE]
 | cons x l ih =>
  intro k
  have hj : (x.matter, x.judge) = jdE x := rfl
  simp only [openK, hj]
  by_cases h1 : marked s (jdE x) x.marks = 0
  ·rw [if_neg (by simp [h1])]
   by_cases h2 : x.sl = sealOf (jdE x) x.marks
   ·rw [if_neg (by simp [h2])]
    cases ho : aget (jdE x) k with
    | none =>
     simp only [Bool.false_eq_true, if_false]
     rw [ih]
     constructor
     ·rintro ⟨a, b, c⟩
      refine ⟨fun y hy => ?_, fun y hy z hz e => ?_, fun y hy o hoo => ?_⟩
      ·rcases List.mem_cons.1 hy with rfl | hy
       ·exact ⟨h1, h2⟩
       exact a y hy
      ·rcases List.mem_cons.1 hy with rfl | hy'
       ·rcases List.mem_cons.1 hz with rfl | hz
        ·rfl
        exact c z hz _ (by rw [aget_put, if_pos e.symm])
       rcases List.mem_cons.1 hz with rfl | hz
       ·exact (c y hy' _ (by rw [aget_put, if_pos e])).symm
       exact b y hy' z hz e
      rcases List.mem_cons.1 hy with rfl | hy
      ·rw [ho] at hoo; cases hoo
      by_cases e : jdE y = jdE x
      ·rw [e, ho] at hoo; cases hoo
      exact c y hy o (by rw [aget_put, if_neg e]; exact hoo)
     rintro ⟨a, b, c⟩
     refine ⟨fun y hy => a y (by simp [hy]), fun y hy z hz e => b y (by simp [hy]) z (by simp [hz]) e, fun y hy o hoo => ?_⟩
     rw [aget_put] at hoo
     split at hoo
     ·cases hoo; exact b x (by simp) y (by simp [hy]) (by symm; assumption)
     exact c y (by simp [hy]) o hoo
    | some old =>
     by_cases h3 : old = x.marks
     ·subst h3
      simp only [ne_eq, not_true_eq_false, decide_false, Bool.false_eq_true, if_false]
      rw [ih]
      constructor
      ·rintro ⟨a, b, c⟩
       refine ⟨fun y hy => ?_, fun y hy z hz e => ?_, fun y hy o hoo => ?_⟩
       ·rcases List.mem_cons.1 hy with rfl | hy
        ·exact ⟨h1, h2⟩
        exact a y hy
       ·rcases List.mem_cons.1 hy with rfl | hy'
        ·rcases List.mem_cons.1 hz with rfl | hz
         ·rfl
         exact c z hz _ (by rw [aget_put, if_pos e.symm])
        rcases List.mem_cons.1 hz with rfl | hz
        ·exact (c y hy' _ (by rw [aget_put, if_pos e])).symm
        exact b y hy' z hz e
       rcases List.mem_cons.1 hy with rfl | hy
       ·rw [ho] at hoo; cases hoo; rfl
       by_cases e : jdE y = jdE x
       ·rw [e, ho] at hoo; cases hoo; exact c y hy _ (by rw [aget_put, if_pos e])
       exact c y hy o (by rw [aget_put, if_neg e]; exact hoo)
      rintro ⟨a, b, c⟩
      refine ⟨fun y hy => a y (by simp [hy]), fun y hy z hz e => b y (by simp [hy]) z (by simp [hz]) e, fun y hy o hoo => ?_⟩
      rw [aget_put] at hoo
      split at hoo
      ·cases hoo; exact b x (by simp) y (by simp [hy]) (by symm; assumption)
      exact c y (by simp [hy]) o hoo
     simp only [ne_eq, h3, not_false_eq_true, decide_true, if_true]
     constructor
     ·intro h; cases h
     rintro ⟨_, _, c⟩; exact absurd (c x (by simp) old ho) h3
   rw [if_pos (by simpa using h2)]
   constructor
   ·intro h; cases h
   rintro ⟨a, _⟩; exact absurd (a x (by simp)).sl h2
  rw [if_pos (by simpa using h1)]
  constructor
  ·intro h; exact absurd h h1
  rintro ⟨a, _⟩; exact absurd (a x (by simp)).m h1
theorem openK_get {s : Scale} : ∀ {l : List Envl} {k : Kn}, (openK s l k).1 = 0 → ∀ j, aget j (openK s l k).2 = match findE l j with | some v => some v | none => aget j k := by
 intro l
 induction l with
 | nil => intro k _ j; rfl
 | cons x l ih =>
  intro k h j
  have hz := openK_zero.1 h
  have hj : (x.matter, x.judge) = jdE x := rfl
  simp only [openK, hj] at h ⊢
  obtain ⟨g1, g2⟩ := hz.1 x (by simp)
  rw [if_neg (by simp [g1]), if_neg (by simp [g2])] at h ⊢
  have key : (openK s l (aput (jdE x) x.marks k)).1 = 0 → aget j (openK s l (aput (jdE x) x.marks k)).2 = match findE (x :: l) j with | some v => some v | none => aget j k := by
   intro h
   rw [ih h j, findE_cons, aget_put]
   by_cases e : jdE x = j
   ·subst e
    rw [if_pos rfl, if_pos rfl]
    cases hf : findE l (jdE x) with
    | none => rfl
    | some v =>
     obtain ⟨y, h1, h2, rfl⟩ := findE_some hf
     show some y.marks = some x.marks
     rw [hz.2.1 y (by simp [h1]) x (by simp) h2]
   rw [if_neg e, if_neg (fun h => e h.symm)]
  cases ho : aget (jdE x) k with
  | none =>
   simp only [ho, Bool.false_eq_true, if_false] at h ⊢
   have := key h
   simpa only [ho] using this
  | some old =>
   have e := hz.2.2 x (by simp) old ho
   subst e
   simp only [ho, ne_eq, not_true_eq_false, decide_false, Bool.false_eq_true, if_false] at h ⊢
   have := key h
   simpa only [ho] using this
theorem missK_zero {s : Scale} : ∀ {l : List (Int × Int)} {k : Kn}, (missK s l k).1 = 0 ↔ ∀ j, j ∈ l → ofSc s j = true ∧ (aget j k).getD [] = [] := by
 intro l
 induction l with
 | nil => intro k; simp [missK]
 | cons x l ih =>
  intro k
  simp only [missK]
  by_cases h1 : ofSc s x = true
  ·rw [h1]
   simp only [Bool.not_true, Bool.false_eq_true, if_false]
   by_cases h2 : (aget x k).getD [] = []
   ·rw [if_neg (by simp [h2]), ih]
    constructor
    ·intro a j hj
     rcases List.mem_cons.1 hj with rfl | hj
     ·exact ⟨h1, h2⟩
     refine ⟨(a j hj).1, ?_⟩
     have := (a j hj).2
     rw [aget_put] at this
     split at this
     ·rename_i e; rw [e]; exact h2
     exact this
    intro a j hj
    refine ⟨(a j (by simp [hj])).1, ?_⟩
    rw [aget_put]
    split
    ·rfl
    exact (a j (by simp [hj])).2
   rw [if_pos h2]
   constructor
   ·intro h; cases h
   intro a; exact absurd (a x (by simp)).2 h2
  have : ofSc s x = false := by simpa using h1
  rw [this]
  constructor
  ·intro h; cases h
  intro a; exact absurd (a x (by simp)).1 h1
theorem missK_get {s : Scale} : ∀ {l : List (Int × Int)} {k : Kn}, (missK s l k).1 = 0 → ∀ j, aget j (missK s l k).2 = if j ∈ l then some [] else aget j k := by
 intro l
 induction l with
 | nil => intro k _ j; simp [missK]
 | cons x l ih =>
  intro k h j
  obtain ⟨g1, g2⟩ := missK_zero.1 h x (by simp)
  simp only [missK] at h ⊢
  rw [g1, if_neg (by simp), if_neg (by simp [g2])] at h ⊢
  rw [ih h j, aget_put]
  by_cases e : j ∈ l
  ·rw [if_pos e, if_pos (by simp [e])]
  rw [if_neg e]
  by_cases e2 : j = x
  ·rw [if_pos e2, if_pos (by simp [e2])]
  rw [if_neg e2, if_neg (by simp [e, e2])]
/-- What a night tells of a judge. -/
def kOf (n : Night) (j : Int × Int) : Option (List Int) := match findE n.opened j with
 | some v => some v
 | none => if j ∈ n.absent then some [] else none
structure NightV (s : Scale) (n : Night) : Prop where
 c : chkSc s = 0
 o60 : n.opened.length ≤ 60
 op : ∀ x, x ∈ n.opened → GoodE s x
 cs : SameE n.opened
 a60 : n.absent.length ≤ 60
 ab : ∀ j, j ∈ n.absent → ofSc s j = true ∧ ∀ x, x ∈ n.opened → jdE x ≠ j
 sh : ∀ m, 0 ≤ m → m < s.matters → ∃ q, (0 ≤ q ∧ q < s.judges) ∧ (m, q) ∉ n.absent
 fi : finesE s n.fines = 0
theorem GoodE.ne {s : Scale} (hv : s.V) {x : Envl} (h : GoodE s x) : x.marks ≠ [] := fun e => by
 obtain ⟨_, h2, _⟩ := marked_ok h.m
 have := hv.sc
 rw [e] at h2
 simp at h2
 omega
theorem mem_toI' {n x : Int} : x ∈ toI n ↔ 0 ≤ x ∧ x < n := by
 unfold toI
 rw [List.mem_map]
 constructor
 ·rintro ⟨i, hi, rfl⟩
  have := List.mem_range.1 hi
  omega
 rintro ⟨h1, h2⟩
 exact ⟨x.toNat, List.mem_range.2 (by omega), by omega⟩
theorem pre_get {s : Scale} {n : Night} (h1 : (openK s n.opened []).1 = 0) (h2 : (missK s n.absent (openK s n.opened []).2).1 = 0) (j : Int × Int) : aget j (knownK s n) = kOf n j := by
 unfold knownK kOf
 rw [missK_get h2, openK_get h1]
 have hm := missK_zero.1 h2
 cases hf : findE n.opened j with
 | none => rfl
 | some v =>
  simp only
  by_cases e : j ∈ n.absent
  ·rw [if_pos e]
   have := (hm j e).2
   rw [openK_get h1, hf] at this
   simp at this
   rw [this]
  rw [if_neg e]
theorem absentK_iff {k : Kn} {j : Int × Int} : absentK k j = true ↔ aget j k = some [] := by
 unfold absentK
 cases aget j k with
 | none => simp
 | some l => cases l <;> simp
theorem kOf_nil {s : Scale} (hv : s.V) {n : Night} (hop : ∀ x, x ∈ n.opened → GoodE s x) (hab : ∀ j, j ∈ n.absent → ∀ x, x ∈ n.opened → jdE x ≠ j) (j : Int × Int) : kOf n j = some [] ↔ j ∈ n.absent := by
 unfold kOf
 cases hf : findE n.opened j with
 | none => simp
 | some v =>
  obtain ⟨x, h1, h2, rfl⟩ := findE_some hf
  simp only [Option.some.injEq]
  constructor
  ·intro e; exact absurd e ((hop x h1).ne hv)
  intro e; exact absurd h2 (hab j e x h1)
theorem nightV_iff {s : Scale} {n : Night} : knownE s n = 0 ↔ NightV s n := by
 unfold knownE
 by_cases c1' : ¬ (chkSc s = 0)
 ·have c1 := c1'
  rw [if_pos c1]
  exact ⟨fun h => absurd h c1, fun h => absurd h.c c1⟩
 have c1 := Classical.not_not.1 c1'
 rw [if_neg (by simp [c1])]
 by_cases c2' : ¬ (n.opened.length ≤ 60)
 ·have c2 := c2'
  rw [if_pos (by omega)]
  exact ⟨fun h => absurd h (by decide), fun h => absurd h.o60 c2⟩
 have c2 := Classical.not_not.1 c2'
 rw [if_neg (by omega)]
 by_cases c3' : ¬ ((openK s n.opened []).1 = 0)
 ·have c3 := c3'
  rw [if_pos c3]
  exact ⟨fun h => absurd h c3, fun h => absurd (openK_zero.2 ⟨h.op, h.cs, fun x _ o ho => by cases ho⟩) c3⟩
 have c3 := Classical.not_not.1 c3'
 rw [if_neg (by simp [c3])]
 by_cases c4' : ¬ (n.absent.length ≤ 60)
 ·have c4 := c4'
  rw [if_pos (by omega)]
  exact ⟨fun h => absurd h (by decide), fun h => absurd h.a60 c4⟩
 have c4 := Classical.not_not.1 c4'
 rw [if_neg (by omega)]
 obtain ⟨o1, o2, _⟩ := openK_zero.1 c3
 have hv := Scale.v c1
 have hmi : (missK s n.absent (openK s n.opened []).2).1 = 0 ↔ ∀ j, j ∈ n.absent → ofSc s j = true ∧ ∀ x, x ∈ n.opened → jdE x ≠ j := by
  rw [missK_zero]
  constructor
  ·intro h j hj
   refine ⟨(h j hj).1, fun x hx e => ?_⟩
   have := (h j hj).2
   rw [openK_get c3, ← e, findE_mem o2 hx] at this
   simp at this
   exact (o1 x hx).ne hv this
  intro h j hj
  refine ⟨(h j hj).1, ?_⟩
  rw [openK_get c3, findE_none.2 (h j hj).2]
  rfl
 by_cases c5' : ¬ ((missK s n.absent (openK s n.opened []).2).1 = 0)
 ·have c5 := c5'
  rw [if_pos c5]
  exact ⟨fun h => absurd h c5, fun h => absurd (hmi.2 h.ab) c5⟩
 have c5 := Classical.not_not.1 c5'
 rw [if_neg (by simp [c5])]
 have hab := hmi.1 c5
 have hk := pre_get c3 c5
 have hkn := kOf_nil hv o1 (fun j hj => (hab j hj).2)
 have hsh : shortK s (knownK s n) = false ↔ ∀ m, 0 ≤ m → m < s.matters → ∃ q, (0 ≤ q ∧ q < s.judges) ∧ (m, q) ∉ n.absent := by
  unfold shortK
  rw [List.any_eq_false]
  constructor
  ·intro h m m0 m1
   have := h m (mem_toI'.2 ⟨m0, m1⟩)
   rw [List.all_eq_true] at this
   obtain ⟨q, hq⟩ := Classical.not_forall.1 this
   obtain ⟨hq1, hq2⟩ := Classical.not_imp.1 hq
   refine ⟨q, mem_toI'.1 hq1, fun e => hq2 ?_⟩
   rw [absentK_iff, hk, hkn]; exact e
  intro h m hm
  obtain ⟨m0, m1⟩ := mem_toI'.1 hm
  obtain ⟨q, hq, hn⟩ := h m m0 m1
  rw [List.all_eq_true]
  intro ha
  have := ha q (mem_toI'.2 hq)
  rw [absentK_iff, hk, hkn] at this
  exact hn this
 by_cases c6 : shortK s (knownK s n) = true
 ·rw [if_pos c6]
  exact ⟨fun h => absurd h (by decide), fun h => absurd (hsh.2 h.sh) (by rw [c6]; simp)⟩
 rw [if_neg c6]
 have c6' := hsh.1 (by simpa using c6)
 exact ⟨fun h => ⟨c1, c2, o1, o2, c4, hab, c6', h⟩, fun h => h.fi⟩
theorem NightV.get {s : Scale} {n : Night} (h : NightV s n) (j : Int × Int) : aget j (knownK s n) = kOf n j :=
 pre_get (openK_zero.2 ⟨h.op, h.cs, fun x _ o ho => by cases ho⟩) (missK_zero.2 fun j hj => ⟨(h.ab j hj).1, by
  rw [openK_get (openK_zero.2 ⟨h.op, h.cs, fun x _ o ho => by cases ho⟩), findE_none.2 (h.ab j hj).2]; rfl⟩) j
/-- What depends on the drum's beat, and the beat behind it. -/
abbrev D (α : Type) := Int → α × Int
def dret {α : Type} (a : α) : D α := fun b => (a, b)
def dbind {α β : Type} (m : D α) (f : α → D β) : D β := fun b => f (m b).1 (m b).2
def Holds {α : Type} (m : D α) (R : α → Prop) : Prop := ∀ b, R (m b).1
theorem Holds.ret {α : Type} {a : α} {R : α → Prop} (h : R a) : Holds (dret a) R := fun _ => h
theorem Holds.bind {α β : Type} {m : D α} {f : α → D β} {R : α → Prop} {S : β → Prop} (h : Holds m R) (k : ∀ a, R a → Holds (f a) S) : Holds (dbind m f) S := fun b => k _ (h b) _
theorem Holds.mono {α : Type} {m : D α} {R S : α → Prop} (h : Holds m R) (k : ∀ a, R a → S a) : Holds m S := fun b => k _ (h b)
def xorU (a b : Int) : Int := match arith .xor .u64 a b with | some (.int _ n) => n | _ => 0
def hitB (b : Int) : Int := IntKind.u64.wrap (IntKind.u64.wrap (b * 15074714826142052245) + 11400714819323198485)
def hitM (x : Int) : Int := IntKind.u64.wrap (xorU x (x.fdiv 4294967296) * 15760922415973212899)
def hitX (b : Int) : Int := xorU (hitM (hitM (hitB b))) ((hitM (hitM (hitB b))).fdiv 4294967296)
theorem wrapU_bd (n : Int) : 0 ≤ IntKind.u64.wrap n ∧ IntKind.u64.wrap n ≤ 18446744073709551615 := by
 have h : IntKind.u64.wrap n = n % 18446744073709551616 := rfl
 rw [h]; omega
theorem hitX_bd (b : Int) : 0 ≤ hitX b ∧ hitX b ≤ 18446744073709551615 := wrapU_bd _
def roll0 (n : Int) : D Int := fun b => if n < 2 then (0, b) else ((hitX b / 2) % n, hitB b)
/-- A number drawn: sealed, so that nobody computes with it. -/
noncomputable def roll : Int → D Int := Classical.choose (⟨roll0, rfl⟩ : ∃ f, f = roll0)
theorem roll_eq : roll = fun n b => if n < 2 then (0, b) else ((hitX b / 2) % n, hitB b) := Classical.choose_spec (⟨roll0, rfl⟩ : ∃ f, f = roll0)
noncomputable def mid (lo hi : Int) : D Int := fun b => (lo + (roll (hi - lo + 1) b).1, (roll (hi - lo + 1) b).2)
noncomputable def anyOf (l : List Int) : D Int := fun b => ((l[(roll l.length b).1.toNat]?).getD 0, (roll l.length b).2)
theorem roll_bd (n : Int) : Holds (roll n) fun r => 0 ≤ r ∧ r < max n 1 := by
 intro b
 rw [roll_eq]
 dsimp only
 have := hitX_bd b
 by_cases h : n < 2
 ·rw [if_pos h]; simp only []; omega
 rw [if_neg h]
 have h1 := Int.emod_nonneg (hitX b / 2) (show n ≠ 0 by omega)
 have h2 := Int.emod_lt_of_pos (hitX b / 2) (show 0 < n by omega)
 simp only []; omega
theorem mid_bd (lo hi : Int) (h : lo ≤ hi) : Holds (mid lo hi) fun r => lo ≤ r ∧ r ≤ hi := by
 intro b
 have := roll_bd (hi - lo + 1) b
 simp only [mid] at *
 omega
theorem anyOf_mem (l : List Int) (h : l ≠ []) : Holds (anyOf l) fun r => r ∈ l := by
 intro b
 have := roll_bd l.length b
 simp only [anyOf] at *
 have hl : 0 < l.length := by cases l with | nil => exact absurd rfl h | cons => simp
 have hlt : (roll (l.length : Int) b).1.toNat < l.length := by omega
 rw [List.getElem?_eq_getElem hlt]
 exact List.getElem_mem hlt
set_option maxHeartbeats 2000000 in
theorem hit_pc (Y : YEnv) (σ : Sg) (d : Nat) (b : Int) (hd : σ.store[d]? = some (some [.int .u64 b])) :
 PC Tryz.prog Y 13 [.ptr d 0] σ (.int .u64 (hitX b)) (σ.setVar d [.int .u64 (hitB b)]) := by
 refine PC_of_W Tryz.func13 rfl (by kernel_rfl) Tryz.ntmps13 (by simp) fun hcl hca => ?_
 have hlt := lt_of_get hd
 refine W_sr [0] fun R hR => ?_
 simp only [go_sem, ldS_at hd, stX_at hd, ldS_sv hlt, stX_sv hlt, sv_ext hlt, sv_ext_sv hlt]
 refine hR _ _ ?_; clear hR R
 try simp only [go_sem, ldS_at hd, stX_at hd, ldS_sv hlt, stX_sv hlt, sv_ext hlt, sv_ext_sv hlt]
 refine W_sr [0] fun R hR => ?_
 simp only [go_sem, ldS_at hd, stX_at hd, ldS_sv hlt, stX_sv hlt, sv_ext hlt, sv_ext_sv hlt]
 try simp (disch := omega) only [wrapI, wrapU]
 refine hR _ _ ?_; clear hR R
 try simp only [go_sem, ldS_at hd, stX_at hd, ldS_sv hlt, stX_sv hlt, sv_ext hlt, sv_ext_sv hlt]
 refine W_sr [3] fun R hR => ?_
 simp only [go_sem, ldS_at hd, stX_at hd, ldS_sv hlt, stX_sv hlt, sv_ext hlt, sv_ext_sv hlt]
 refine hR _ _ ?_; clear hR R
 try simp only [go_sem, ldS_at hd, stX_at hd, ldS_sv hlt, stX_sv hlt, sv_ext hlt, sv_ext_sv hlt]
 refine W_sr [3] fun R hR => ?_
 simp only [go_sem, ldS_at hd, stX_at hd, ldS_sv hlt, stX_sv hlt, sv_ext hlt, sv_ext_sv hlt]
 try simp (disch := omega) only [wrapI, wrapU]
 refine hR _ _ ?_; clear hR R
 try simp only [go_sem, ldS_at hd, stX_at hd, ldS_sv hlt, stX_sv hlt, sv_ext hlt, sv_ext_sv hlt]
 refine W_sr [3] fun R hR => ?_
 simp only [go_sem, ldS_at hd, stX_at hd, ldS_sv hlt, stX_sv hlt, sv_ext hlt, sv_ext_sv hlt]
 try simp (disch := omega) only [wrapI, wrapU]
 refine hR _ _ ?_; clear hR R
 try simp only [go_sem, ldS_at hd, stX_at hd, ldS_sv hlt, stX_sv hlt, sv_ext hlt, sv_ext_sv hlt]
 refine W_sr [2] fun R hR => ?_
 simp only [go_sem, ldS_at hd, stX_at hd, ldS_sv hlt, stX_sv hlt, sv_ext hlt, sv_ext_sv hlt]
 refine hR _ _ ?_; clear hR R
 try simp only [go_sem, ldS_at hd, stX_at hd, ldS_sv hlt, stX_sv hlt, sv_ext hlt, sv_ext_sv hlt]
 refine W_ret ?_
 simp only [go_sem, ldS_at hd, stX_at hd, ldS_sv hlt, stX_sv hlt, sv_ext hlt, sv_ext_sv hlt]
 refine ⟨.inr (by trivial), ?_⟩
 first | refine Fin_set hcl (by simp only [go_sem]) rfl (Wk_eq ?_ (by simp only [go_sem])) | refine Fin_set0 hcl (by simp only [go_sem]) rfl (Wk_eq ?_ (by simp only [go_sem]))
 try simp only [go_sem]
 all_goals
  simp only [hitX, hitM, hitB, xorU, go_sem]; simp (disch := omega) only [wrapU]
set_option maxHeartbeats 2000000 in
theorem Roll_lo (Y : YEnv) (σ : Sg) (d : Nat) (n : Int) (hn : n < 2) :
 PC Tryz.prog Y 15 [.ptr d 0, I n] σ (I 0) (σ) := by
 refine PC_of_W Tryz.func15 rfl (by kernel_rfl) Tryz.ntmps15 (by simp) fun hcl hca => ?_
 refine W_sr [0, 1] fun R hR => ?_
 simp only [go_sem]
 refine hR _ _ ?_; clear hR R
 try simp only [go_sem]
 refine W_seq fun Z2 K2 => ?_
 refine W_sr [0, 1, 6] fun R hR => ?_
 simp only [go_sem]
 refine hR _ _ ?_; clear hR R
 try simp only [go_sem]
 refine W_cond rfl (fun c1 => ?_) (fun c1 => ?_)
 ·
  try simp only [nrm] at c1
  refine W_sr [4] fun R hR => ?_
  simp only [go_sem]
  refine hR _ _ ?_; clear hR R
  try simp only [go_sem]
  refine W_ret ?_
  simp only [go_sem]
  refine ⟨.inr (by trivial), ?_⟩
  first | refine Fsa hcl rfl ?_ | refine Fse hcl rfl ?_
  try simp only [go_sem]
  all_goals
   first | rfl | (simp_all; done) | (simp_all; omega)
 try simp only [nrm] at c1
 exfalso
 omega
set_option maxHeartbeats 2000000 in
theorem Roll_hi (Y : YEnv) (σ : Sg) (d : Nat) (b : Int) (hd : σ.store[d]? = some (some [.int .u64 b])) (n : Int) (hn : 2 ≤ n) (hn2 : n < 2 ^ 62) :
 PC Tryz.prog Y 15 [.ptr d 0, I n] σ (I ((hitX b / 2) % n)) (σ.setVar d [.int .u64 (hitB b)]) := by
 refine PC_of_W Tryz.func15 rfl (by kernel_rfl) Tryz.ntmps15 (by simp) fun hcl hca => ?_
 have hlt := lt_of_get hd
 have hb := hitX_bd b
 have e1 : (hitX b).fdiv 2 = hitX b / 2 := Int.fdiv_eq_ediv_of_nonneg _ (by omega)
 have e2 : (hitX b / 2).tmod n = (hitX b / 2) % n := Int.tmod_eq_emod_of_nonneg (by omega)
 have h1 := Int.emod_nonneg (hitX b / 2) (show n ≠ 0 by omega)
 have h2 := Int.emod_lt_of_pos (hitX b / 2) (show 0 < n by omega)
 have e3 : ¬ n = 0 := by omega
 have e4 : IntKind.u64.wrap n = n := wrapU (by omega) (by omega)
 refine W_sr [0, 1] fun R hR => ?_
 simp only [go_sem, ldS_at hd, stX_at hd, ldS_sv hlt, stX_sv hlt, sv_ext hlt, sv_ext_sv hlt]
 refine hR _ _ ?_; clear hR R
 try simp only [go_sem, ldS_at hd, stX_at hd, ldS_sv hlt, stX_sv hlt, sv_ext hlt, sv_ext_sv hlt]
 refine W_seq fun Z2 K2 => ?_
 refine W_sr [0, 1, 6] fun R hR => ?_
 simp only [go_sem, ldS_at hd, stX_at hd, ldS_sv hlt, stX_sv hlt, sv_ext hlt, sv_ext_sv hlt]
 refine hR _ _ ?_; clear hR R
 try simp only [go_sem, ldS_at hd, stX_at hd, ldS_sv hlt, stX_sv hlt, sv_ext hlt, sv_ext_sv hlt]
 refine W_cond rfl (fun c1 => ?_) (fun c1 => ?_)
 ·
  try simp only [nrm] at c1
  exfalso
  omega
 try simp only [nrm] at c1
 refine W_skip (K2 _ _ ?_)
 refine W_sr [4] fun R hR => ?_
 simp only [go_sem, ldS_at hd, stX_at hd, ldS_sv hlt, stX_sv hlt, sv_ext hlt, sv_ext_sv hlt, e4, e1, e2, e3]
 refine GCall_of (hit_pc Y _ d b hd) ?_
 simp only [go_sem, ldS_at hd, stX_at hd, ldS_sv hlt, stX_sv hlt, sv_ext hlt, sv_ext_sv hlt, e4, e1, e2, e3]
 try simp (disch := omega) only [wrapI, wrapU]
 refine hR _ _ ?_; clear hR R
 try simp only [go_sem, ldS_at hd, stX_at hd, ldS_sv hlt, stX_sv hlt, sv_ext hlt, sv_ext_sv hlt]
 refine W_ret ?_
 simp only [go_sem, ldS_at hd, stX_at hd, ldS_sv hlt, stX_sv hlt, sv_ext hlt, sv_ext_sv hlt]
 refine ⟨.inr (by trivial), ?_⟩
 first | refine Fin_set hcl (by simp only [go_sem]) rfl (Wk_eq ?_ (by simp only [go_sem])) | refine Fin_set0 hcl (by simp only [go_sem]) rfl (Wk_eq ?_ (by simp only [go_sem]))
 try simp only [go_sem]
 all_goals
  first | rfl | (simp_all; done) | (simp_all; omega)
theorem Roll_pc (Y : YEnv) (σ : Sg) (d : Nat) (b : Int) (hd : σ.store[d]? = some (some [.int .u64 b])) (n : Int) (hn2 : n < 2 ^ 62) : PC Tryz.prog Y 15 [.ptr d 0, I n] σ (I (roll n b).1) (σ.setVar d [.int .u64 (roll n b).2]) := by
 rw [roll_eq]
 dsimp only
 by_cases h : n < 2
 ·rw [if_pos h]; simp only []; rw [sv_self hd]; exact Roll_lo Y σ d n h
 rw [if_neg h]; exact Roll_hi Y σ d b hd n (by omega) hn2
set_option maxHeartbeats 2000000 in
theorem Mid_pc (Y : YEnv) (σ : Sg) (d : Nat) (b : Int) (hd : σ.store[d]? = some (some [.int .u64 b])) (lo hi : Int) (h1 : -2 ^ 60 ≤ lo) (h2 : lo ≤ 2 ^ 60) (h3 : -2 ^ 60 ≤ hi) (h4 : hi ≤ 2 ^ 60) :
 PC Tryz.prog Y 6 [.ptr d 0, I lo, I hi] σ (I (mid lo hi b).1) (σ.setVar d [.int .u64 (mid lo hi b).2]) := by
 refine PC_of_W Tryz.func6 rfl (by kernel_rfl) Tryz.ntmps6 (by simp) fun hcl hca => ?_
 have hlt := lt_of_get hd
 have hr := roll_bd (hi - lo + 1) b
 simp only [] at hr
 refine W_sr [0, 1, 2] fun R hR => ?_
 simp only [go_sem, ldS_at hd, stX_at hd, ldS_sv hlt, stX_sv hlt, sv_ext hlt, sv_ext_sv hlt]
 refine hR _ _ ?_; clear hR R
 try simp only [go_sem, ldS_at hd, stX_at hd, ldS_sv hlt, stX_sv hlt, sv_ext hlt, sv_ext_sv hlt]
 refine W_sr [6] fun R hR => ?_
 simp only [go_sem, ldS_at hd, stX_at hd, ldS_sv hlt, stX_sv hlt, sv_ext hlt, sv_ext_sv hlt]
 try simp (disch := omega) only [wrapI, wrapU]
 refine GCall_of (Roll_pc Y _ d b (by first | exact hd | exact sv_get hlt | exact get_svx hlt | exact get_extx hd) _ (by omega)) ?_
 simp only [go_sem, ldS_at hd, stX_at hd, ldS_sv hlt, stX_sv hlt, sv_ext hlt, sv_ext_sv hlt]
 try simp (disch := omega) only [wrapI, wrapU]
 refine hR _ _ ?_; clear hR R
 try simp only [go_sem, ldS_at hd, stX_at hd, ldS_sv hlt, stX_sv hlt, sv_ext hlt, sv_ext_sv hlt]
 refine W_ret ?_
 simp only [go_sem, ldS_at hd, stX_at hd, ldS_sv hlt, stX_sv hlt, sv_ext hlt, sv_ext_sv hlt]
 refine ⟨.inr (by trivial), ?_⟩
 first | refine Fin_set hcl (by simp only [go_sem]) rfl (Wk_eq ?_ (by simp only [go_sem])) | refine Fin_set0 hcl (by simp only [go_sem]) rfl (Wk_eq ?_ (by simp only [go_sem]))
 try simp only [go_sem]
 all_goals
  first | rfl | (simp_all; done) | (simp_all; omega)
set_option maxHeartbeats 2000000 in
theorem Any_pc (Y : YEnv) (σ : Sg) (d : Nat) (b : Int) (hd : σ.store[d]? = some (some [.int .u64 b])) (l : List Int) (hl : l ≠ []) (hl2 : l.length < 2 ^ 50) :
 PC Tryz.prog Y 14 [.ptr d 0, .isl (l.map I) .exact] σ (I (anyOf l b).1) (σ.setVar d [.int .u64 (anyOf l b).2]) := by
 refine PC_of_W Tryz.func14 rfl (by kernel_rfl) Tryz.ntmps14 (by simp) fun hcl hca => ?_
 have hlt := lt_of_get hd
 have hr := roll_bd l.length b
 simp only [] at hr
 have hl0 : 0 < l.length := by cases l with | nil => exact absurd rfl hl | cons => simp
 have hlt2 : (roll (l.length : Int) b).1.toNat < l.length := by omega
 obtain ⟨x, hx⟩ : ∃ x, l[(roll (l.length : Int) b).1.toNat]? = some x := ⟨_, List.getElem?_eq_getElem hlt2⟩
 have hnn := hr.1
 refine W_sr [0, 1] fun R hR => ?_
 simp only [go_sem, ldS_at hd, stX_at hd, ldS_sv hlt, stX_sv hlt, sv_ext hlt, sv_ext_sv hlt]
 refine hR _ _ ?_; clear hR R
 try simp only [go_sem, ldS_at hd, stX_at hd, ldS_sv hlt, stX_sv hlt, sv_ext hlt, sv_ext_sv hlt]
 refine W_seq fun Z2 K2 => ?_
 refine W_sr [0, 1, 7] fun R hR => ?_
 simp only [go_sem, ldS_at hd, stX_at hd, ldS_sv hlt, stX_sv hlt, sv_ext hlt, sv_ext_sv hlt]
 refine hR _ _ ?_; clear hR R
 try simp only [go_sem, ldS_at hd, stX_at hd, ldS_sv hlt, stX_sv hlt, sv_ext hlt, sv_ext_sv hlt]
 refine W_cond rfl (fun c1 => ?_) (fun c1 => ?_)
 ·
  try simp only [nrm] at c1
  exfalso
  omega
 try simp only [nrm] at c1
 refine W_skip (K2 _ _ ?_)
 refine W_sr [4] fun R hR => ?_
 simp only [go_sem, ldS_at hd, stX_at hd, ldS_sv hlt, stX_sv hlt, sv_ext hlt, sv_ext_sv hlt, hnn, hx]
 refine GCall_of (Roll_pc Y _ d b (by first | exact hd | exact sv_get hlt | exact get_svx hlt | exact get_extx hd) _ (by omega)) ?_
 simp only [go_sem, ldS_at hd, stX_at hd, ldS_sv hlt, stX_sv hlt, sv_ext hlt, sv_ext_sv hlt, hnn, hx]
 refine hR _ _ ?_; clear hR R
 try simp only [go_sem, ldS_at hd, stX_at hd, ldS_sv hlt, stX_sv hlt, sv_ext hlt, sv_ext_sv hlt]
 refine W_ret ?_
 simp only [go_sem, ldS_at hd, stX_at hd, ldS_sv hlt, stX_sv hlt, sv_ext hlt, sv_ext_sv hlt]
 refine ⟨.inr (by trivial), ?_⟩
 first | refine Fin_set hcl (by simp only [go_sem]) rfl (Wk_eq ?_ (by simp only [go_sem])) | refine Fin_set0 hcl (by simp only [go_sem]) rfl (Wk_eq ?_ (by simp only [go_sem]))
 try simp only [go_sem]
 all_goals
  simp only [anyOf, hx, Option.getD_some]
def drumB : List Int → Int → Int
 | [], b => b
 | x :: r, b => drumB r (hitB (xorU b (IntKind.u64.wrap x)))
set_option maxHeartbeats 2000000 in
theorem DrumOf_pc (Y : YEnv) (σ : Sg) (nums : List Int) (hl : nums.length < 2 ^ 60) :
 PC Tryz.prog Y 4 [ints nums] σ (.ptr σ.store.length 0) (σ.ext [some [.int .u64 (drumB nums 2685821657736338717)]] []) := by
 refine PC_of_W Tryz.func4 rfl (by kernel_rfl) Tryz.ntmps4 (by simp) fun hcl hca => ?_
 refine W_sr [0] fun R hR => ?_
 simp only [go_sem]
 refine hR _ _ ?_; clear hR R
 try simp only [go_sem]
 refine W_sr [0, 3] fun R hR => ?_
 simp only [go_sem]
 refine hR _ _ ?_; clear hR R
 try simp only [go_sem]
 refine W_seq fun Z3 K3 => ?_
 refine W_sr [0, 3, 4] fun R hR => ?_
 simp only [go_sem]
 refine hR _ _ ?_; clear hR R
 try simp only [go_sem]
 refine W_block ?_
 refine W_loopT (α := Nat × Int) (fun ⟨i, b⟩ => [(4, I i)]) (fun ⟨i, b⟩ => σ.ext [some [.int .u64 b]] []) (fun ⟨i, b⟩ => i ≤ nums.length ∧ drumB nums 2685821657736338717 = drumB (nums.drop i) b) (fun ⟨i, b⟩ => nums.length - i) ((0, 2685821657736338717)) rfl (by first | rfl | (simp only [go_sem]; done) | (simp only [go_sem]; rfl)) (⟨Nat.zero_le _, rfl⟩) ?_
 rintro ⟨i, b⟩ ⟨hi, hb⟩
 refine W_seq fun Z5 K5 => ?_
 refine W_sr [0, 3, 4, 10] fun R hR => ?_
 simp only [go_sem]
 refine hR _ _ ?_; clear hR R
 try simp only [go_sem]
 refine W_cond rfl (fun c1 => ?_) (fun c1 => ?_)
 ·
  try simp only [nrm] at c1
  have hi' : i < nums.length := by first | assumption | omega
  obtain ⟨x, hx⟩ : ∃ x, nums[i]? = some x := ⟨nums[i], by simp [hi']⟩
  have hdrop : nums.drop i = x :: nums.drop (i + 1) := by
   rw [List.drop_eq_getElem_cons hi']; congr 1; exact (List.getElem?_eq_some_iff.1 hx).2
  rw [hdrop] at hb
  simp only [drumB] at hb
  refine W_skip (K5 _ _ ?_)
  refine W_seq fun Z7 K7 => ?_
  refine W_block ?_
  refine W_seq fun Z8 K8 => ?_
  refine W_draw [0, 3, 4] [0, 1, 2, 3, 4, 5, 6, 7, 8, 9, 10, 11, 12, 13] [] [[], [], [1], [1, 2], [1, 2, 3], [], [], [5, 6], [5, 6, 7], [5, 6, 7, 8], [1, 2, 3, 4, 5, 6, 7, 8, 9], [0, 1, 2, 3, 4, 5, 6, 7, 8, 9, 10], [0, 1, 2, 3, 4, 5, 6, 7, 8, 9, 10, 11], [0, 1, 2, 3, 4, 5, 6, 7, 8, 9, 10, 11, 12]] mixed (by kernel_rfl) fun R hR => ?_
  simp only [go_sem, hx]
  try simp (disch := omega) only [wrapI, wrapU]
  try refine And.intro (by repeat' (first | refine And.intro ?_ ?_ | exact GOr_right (fun _ => by simp only [go_sem, hx]))) ?_
  refine hR _ _ (K8 _ _ ?_); clear hR R; try clear K8 Z8
  try simp only [go_sem, hx]
  refine W_region [0, 3, 4] fun R hR => ?_
  simp only [go_sem, hx]
  refine GCall_of (hit_pc Y _ _ _ (Sg.get_ext0 _ _ _ _)) ?_
  simp only [go_sem, hx]
  refine hR _ _ (K7 _ _ ?_); clear hR R; try clear K7 Z7
  try simp only [go_sem, hx]
  refine W_region [0, 3, 4] fun R hR => ?_
  simp only [go_sem, hx]
  try simp (disch := omega) only [wrapI, wrapU]
  refine hR _ _ ?_; clear hR R
  try simp only [go_sem, hx]
  refine ⟨(i + 1, hitB (xorU b (IntKind.u64.wrap x))), ?_, by (try simp only []); omega, ?_⟩
  ·exact Weak.eq (by rfl) (by simp only [xorU, go_sem]; simp (disch := omega) only [wrapU])
  try dsimp only
  exact ⟨hi', hb⟩
 try simp only [nrm] at c1
 have hdrop : nums.drop i = [] := List.drop_eq_nil_of_le (by omega)
 rw [hdrop] at hb
 simp only [drumB] at hb
 refine W_exit ?_
 simp only [go_sem]
 refine K3 _ _ ?_
 refine W_sr [2] fun R hR => ?_
 simp only [go_sem]
 refine hR _ _ ?_; clear hR R
 try simp only [go_sem]
 refine W_ret ?_
 simp only [go_sem]
 refine ⟨.inr (by trivial), ?_⟩
 rw [hb]; exact Fin_ext 1 0 hcl rfl (Wk_eq rfl (by simp only [go_sem] <;> omega)) (by show CleanLs _ _ _ _; simp only [go_sem])
 try simp only [go_sem]
 all_goals
  skip
end Go.Proofs.YtpkkegbiddcodaaGreat.Mk
namespace Go.Proofs.YtpkkegbiddcodaaGreat
open Go Go.RowKit
/-- A slice of numbers that grows in place: nothing yet, or the last of a row of variables (those before it are gone). -/
def glI (n : Nat) (out : List Int) : PV := match out with
 | [] => .gnil
 | _ :: t => .gsl (n + t.length) (t.length + 1) 1
def gsI (out : List Int) : List (Option (List PV)) := match out with
 | [] => []
 | _ :: t => List.replicate t.length none ++ [some (out.map I)]
theorem gsI_len (out : List Int) : (gsI out).length = out.length := by cases out <;> simp [gsI]
theorem glI_cells (n : Nat) (out : List Int) : (glI n out).cells = [glI n out] := by cases out <;> rfl
theorem glI_scalar (n : Nat) (out : List Int) : (glI n out).scalar = true := by cases out <;> rfl
theorem glI_defd (n : Nat) (out : List Int) : defd (glI n out) = true := by cases out <;> rfl
theorem appendAny_gl {P : Program} {σ : Sg} {t t' : TypeId} {n : Nat} {out : List Int} {m : List PV} {o : Own} : appendAny P σ t t' (glI n out) (.isl m o) = appendG P σ t t' (glI n out) (.isl m o) := by cases out <;> rfl
theorem cells_gsl (a b c : Nat) : (PV.gsl a b c).cells = [PV.gsl a b c] := rfl
theorem cells_gnil : PV.gnil.cells = [PV.gnil] := rfl
attribute [go_sem] appendAny_gl cells_gsl cells_gnil
attribute [go_sem high] glI_cells glI_scalar glI_defd
theorem stX_glI {σ : Sg} {l : List (Option (List PV))} {rm : List Nat} {ys : List LState} {j off n : Nat} {out : List Int} : stX 1 (σ.ext l rm ys) (σ.store.length + j) off (glI n out) = match l[j]? with
 | some (some cs) => if off + 1 ≤ cs.length then some (σ.ext (l.set j (some (putCells cs off [glI n out]))) rm ys) else none
 | _ => none := by
 simp only [stX_ext, glI_defd, glI_cells, List.all_cons, List.all_nil, glI_scalar]
 rcases l[j]? with _ | _ | cs <;> simp
attribute [go_sem high] stX_glI
theorem glI_clean {a b c n : Nat} {out : List Int} (h : n + out.length ≤ a) : Clean a b c (glI n out) := by
 cases out with
 | nil => exact .gnil
 | cons x out => exact .gsl _ _ _ (by simp at h; omega)
theorem CleanLs_append {a b c : Nat} {l m : List (Option (List PV))} (h : CleanLs a b c l) (k : CleanLs a b c m) : CleanLs a b c (l ++ m) := fun cs hcs => by
 rcases List.mem_append.1 hcs with h' | h'
 ·exact h cs h'
 exact k cs h'
theorem CleanLs_rep {a b c : Nat} (n : Nat) : CleanLs a b c (List.replicate n none) := fun cs hcs => by
 have := List.eq_of_mem_replicate hcs
 cases this
theorem gsI_clean {a b c : Nat} (out : List Int) : CleanLs a b c (gsI out) := by
 cases out with
 | nil => simp only [gsI, CleanLs_nil]
 | cons x out =>
  refine CleanLs_append (CleanLs_rep _) ?_
  simp only [CleanLs_cons, CleanLs_nil, and_true]
  intro p hp
  obtain ⟨y, _, rfl⟩ := List.mem_map.1 hp
  exact .int _ _
section
variable {σ : Sg} {A : List (Option (List PV))} {rm : List Nat} {ys : List LState} {N : Nat} {lo : Nat × Nat} {E : Env} {out : List Int}
theorem get_mid {α : Type} {A B : List α} {x : α} : (A ++ x :: B)[A.length]? = some x := by simp
theorem set_mid {α : Type} {A B : List α} {x y : α} : (A ++ x :: B).set A.length y = A ++ y :: B := by simp
theorem gsI_get {x : Int} : (A ++ gsI (x :: out))[A.length + out.length]? = some (some ((x :: out).map I)) := by
 have : A.length + out.length = (A ++ List.replicate out.length (none : Option (List PV))).length := by simp
 rw [this, gsI, ← List.append_assoc]
 exact get_mid
theorem gsI_set {x : Int} {y : Option (List PV)} : (A ++ gsI (x :: out)).set (A.length + out.length) y = A ++ (List.replicate out.length none ++ [y]) := by
 have : A.length + out.length = (A ++ List.replicate out.length (none : Option (List PV))).length := by simp
 rw [this, gsI, ← List.append_assoc, ← List.append_assoc]
 exact set_mid
theorem appG_gl (x : Int) (h : (out.length + 1) * 8 ≤ 2 ^ 47) : appG 1 8 (σ.ext (A ++ gsI out) rm ys) (glI (σ.store.length + A.length) out) [I x] = some (glI (σ.store.length + A.length) (out ++ [x]), σ.ext (A ++ gsI (out ++ [x])) rm ys) := by
 cases out with
 | nil =>
  rw [glI, appG_nil (by rfl) (by simp) (by simp)]
  simp [gsI, glI, rowC, Sg.push_ext, Sg.len_ext]
 | cons y out =>
  simp only [glI]
  rw [appG_more (cs := (y :: out).map I) (by rw [Nat.add_assoc, Sg.get_ext]; exact gsI_get) (by simp) (by rfl) (by simp) (by simpa using h)]
  rw [Nat.add_assoc (Sg.store σ).length, Sg.drop_ext, gsI_set]
  simp only [Sg.push_ext, Sg.len_ext, rowC]
  have e : List.replicate (out ++ [x]).length (none : Option (List PV)) = List.replicate out.length none ++ [none] := by simp [List.replicate_succ']
  simp only [List.cons_append, gsI, e]
  simp [Nat.add_assoc]
theorem sortI_nil : sortI [] = [] := by simp [sortI]
theorem glI_sort (n : Nat) : glI n (sortI out) = glI n out := by
 have hl := sortI_len out
 cases h : sortI out with
 | nil =>
  rw [h] at hl
  cases out with
  | nil => rfl
  | cons x out => simp at hl
 | cons y s =>
  rw [h] at hl
  cases out with
  | nil => simp at hl
  | cons x out => simp only [List.length_cons] at hl; simp only [glI]; rw [show s.length = out.length by omega]
theorem sort_gl {P : Program} {Y : YEnv} {f : FuncId} (h : SortsI P f) (hl : out.length < 2 ^ 60) : PC P Y f [glI (σ.store.length + A.length) out] (σ.ext (A ++ gsI out) rm ys) (.tuple []) (σ.ext (A ++ gsI (sortI out)) rm ys) := by
 cases out with
 | nil => rw [sortI_nil]; exact PC_sort0 h
 | cons x out =>
  have h1 := PC_sortI (Y := Y) (σ := σ.ext (A ++ gsI (x :: out)) rm ys) (id := σ.store.length + A.length + out.length) (xs := x :: out) h (by rw [Nat.add_assoc, Sg.get_ext]; exact gsI_get) hl
  rw [Nat.add_assoc, Sg.set_ext, gsI_set] at h1
  have e : A ++ (List.replicate out.length none ++ [some ((sortI (x :: out)).map I)]) = A ++ gsI (sortI (x :: out)) := by
   have hs := sortI_len (x :: out)
   cases hc : sortI (x :: out) with
   | nil => rw [hc] at hs; simp at hs
   | cons y s =>
    rw [hc] at hs
    simp only [List.length_cons] at hs
    simp only [gsI]
    rw [show out.length = s.length by omega]
  rw [e] at h1
  simp only [glI]
  rw [Nat.add_assoc]
  exact h1
/-- Compacted. -/
def glC (n : Nat) (s : List Int) : PV := match s with
 | [] => .gnil
 | _ :: t => .gsl (n + t.length) (Lib.compact s).length 1
theorem glC_cells (n : Nat) (out : List Int) : (glC n out).cells = [glC n out] := by cases out <;> rfl
theorem glC_scalar (n : Nat) (out : List Int) : (glC n out).scalar = true := by cases out <;> rfl
theorem glC_defd (n : Nat) (out : List Int) : defd (glC n out) = true := by cases out <;> rfl
attribute [go_sem high] glC_cells glC_scalar glC_defd
theorem stX_glC {σ : Sg} {l : List (Option (List PV))} {rm : List Nat} {ys : List LState} {j off n : Nat} {out : List Int} : stX 1 (σ.ext l rm ys) (σ.store.length + j) off (glC n out) = match l[j]? with
 | some (some cs) => if off + 1 ≤ cs.length then some (σ.ext (l.set j (some (putCells cs off [glC n out]))) rm ys) else none
 | _ => none := by
 simp only [stX_ext, glC_defd, glC_cells, List.all_cons, List.all_nil, glC_scalar]
 rcases l[j]? with _ | _ | cs <;> simp
attribute [go_sem high] stX_glC
end
end Go.Proofs.YtpkkegbiddcodaaGreat
namespace Go.Proofs.YtpkkegbiddcodaaGreat.Mk
open Go Go.RowKit
set_option maxRecDepth 100000
/-- Two places exchanged. -/
def swapAt (l : List Int) (i k : Nat) : List Int := (l.set i ((l[k]?).getD 0)).set k ((l[i]?).getD 0)
theorem swapAt_len (l : List Int) (i k : Nat) : (swapAt l i k).length = l.length := by simp [swapAt]
theorem swapAt_perm {l : List Int} {i k : Nat} (hi : i < l.length) (hk : k < l.length) : (swapAt l i k).Perm l := by
 unfold swapAt
 rw [List.getElem?_eq_getElem hi, List.getElem?_eq_getElem hk]
 exact List.set_set_perm hi hk
noncomputable def orderA (n : Nat) : Nat → List Int → D (List Int)
 | 0, acc => dret acc
 | j + 1, acc => dbind (roll (((n - (j + 1) : Nat) : Int) + 1)) fun k => orderA n j (swapAt (acc ++ [((n - (j + 1) : Nat) : Int)]) (n - (j + 1)) k.toNat)
noncomputable def orderD (n : Nat) : D (List Int) := orderA n n []
theorem orderA_perm (n : Nat) : ∀ (j : Nat) (acc : List Int), j ≤ n → acc.Perm ((List.range (n - j)).map fun (i : Nat) => (i : Int)) → Holds (orderA n j acc) fun l => l.Perm ((List.range n).map fun (i : Nat) => (i : Int)) := by
 intro j
 induction j with
 | zero => intro acc _ h; exact .ret h
 | succ j ih =>
  intro acc hj h
  refine (roll_bd _).bind fun k hk => ih _ (by omega) ?_
  have hl : acc.length = n - (j + 1) := by rw [h.length_eq]; simp
  have hkl : k.toNat < (acc ++ [((n - (j + 1) : Nat) : Int)]).length := by simp; omega
  refine (swapAt_perm (by simp; omega) hkl).trans ?_
  have e : n - j = (n - (j + 1)) + 1 := by omega
  rw [e, List.range_succ, List.map_append]
  exact h.append_right _
theorem orderD_perm (n : Nat) : Holds (orderD n) fun l => l.Perm ((List.range n).map fun (i : Nat) => (i : Int)) := orderA_perm n n [] (Nat.le_refl _) (by simp)
theorem glI_of {l : List Int} {m : Nat} (h : l.length = m + 1) (n : Nat) : glI n l = .gsl (n + m) (m + 1) 1 := by
 cases l with
 | nil => simp at h
 | cons x l => simp only [List.length_cons] at h; simp only [glI]; rw [show l.length = m by omega]
theorem gsI_of {l : List Int} {m : Nat} (h : l.length = m + 1) : gsI l = List.replicate m none ++ [some (l.map I)] := by
 cases l with
 | nil => simp at h
 | cons x l => simp only [List.length_cons] at h; simp only [gsI]; rw [show l.length = m by omega]
theorem Weak.ungnilT {N : Nat} {lo : Nat × Nat} {E : Env} {σ : Sg} {t : Nat} (ht : E.get t = .gnil) : Weak N lo E σ (E.put (some t) (.isl [] .ro)) σ := by
 intro Ψ0 Ψ D a w hb le hr
 refine ⟨Ψ, le, hr.size, fun t' => ?_, hr.sg, hr.dsub, hr.defs⟩
 rw [get_put1]
 split
 ·rename_i e
  subst e
  have hv := hr.env t'
  rw [ht] at hv
  exact VR.of_gnil hv
 exact hr.env t'
/-- Read at last. -/
theorem Weak.readI {N : Nat} {lo : Nat × Nat} {E : Env} {σ : Sg} {t : Nat} {A : List (Option (List PV))} {rm : List Nat} {ys : List LState} {out : List Int} (ht : E.get t = glI (σ.store.length + A.length) out) :
 Weak N lo E (σ.ext (A ++ gsI out) rm ys) (E.put (some t) (ints out)) (σ.ext (A ++ List.replicate out.length none) rm ys) := by
 cases out with
 | nil =>
  have h := Weak.ungnilT (N := N) (lo := lo) (E := E) (σ := σ.ext A rm ys) (t := t) ht
  simp only [gsI, List.append_nil, List.length_nil, List.replicate_zero]
  exact h
 | cons z zs =>
  have h := Weak.freeze (N := N) (lo := lo) (E := E) (σ := σ.ext (A ++ gsI (z :: zs)) rm ys) (t := t) (id := σ.store.length + (A.length + zs.length)) (len := zs.length + 1) (es := 1) (l := (z :: zs).map I) (by rw [ht]; simp only [glI, Nat.add_assoc]) (by rw [Sg.get_ext, rowC_ints]; exact gsI_get) (by simp) (fun q hq => by obtain ⟨x, _, rfl⟩ := List.mem_map.1 hq; rfl)
  rw [Sg.drop_ext, gsI_set] at h
  have e : List.replicate (z :: zs).length (none : Option (List PV)) = List.replicate zs.length none ++ [none] := by simp [List.replicate_succ']
  rw [e]
  exact h
set_option maxHeartbeats 4000000 in
theorem Order_pc (Y : YEnv) (σ : Sg) (d : Nat) (b : Int) (hd : σ.store[d]? = some (some [.int .u64 b])) (n : Nat) (hn : n < 2 ^ 40) :
 PC Tryz.prog Y 7 [.ptr d 0, I n] σ (ints (orderD n b).1) (σ.setVar d [.int .u64 (orderD n b).2]) := by
 refine PC_of_W Tryz.func7 rfl (by kernel_rfl) Tryz.ntmps7 (by simp) fun hcl hca => ?_
 have hlt := lt_of_get hd
 obtain ⟨res, hres⟩ : ∃ r, orderD n b = r := ⟨_, rfl⟩
 rw [hres]
 refine W_sr [0, 1] fun R hR => ?_
 simp only [go_sem, ldS_at hd, stX_at hd, ldS_sv hlt, stX_sv hlt, sv_ext hlt, sv_ext_sv hlt]
 refine hR _ _ ?_; clear hR R
 try simp only [go_sem, ldS_at hd, stX_at hd, ldS_sv hlt, stX_sv hlt, sv_ext hlt, sv_ext_sv hlt]
 refine W_sr [0, 1, 5] fun R hR => ?_
 simp only [go_sem, ldS_at hd, stX_at hd, ldS_sv hlt, stX_sv hlt, sv_ext hlt, sv_ext_sv hlt]
 refine hR _ _ ?_; clear hR R
 try simp only [go_sem, ldS_at hd, stX_at hd, ldS_sv hlt, stX_sv hlt, sv_ext hlt, sv_ext_sv hlt]
 refine W_seq fun Z3 K3 => ?_
 refine W_sr [0, 1, 5, 6] fun R hR => ?_
 simp only [go_sem, ldS_at hd, stX_at hd, ldS_sv hlt, stX_sv hlt, sv_ext hlt, sv_ext_sv hlt]
 refine hR _ _ ?_; clear hR R
 try simp only [go_sem, ldS_at hd, stX_at hd, ldS_sv hlt, stX_sv hlt, sv_ext hlt, sv_ext_sv hlt]
 refine W_block ?_
 refine W_weak (Weak.gnil (t := 5) rfl) ?_
 refine W_weak (Weak.keep [0, 1, 5, 6]) ?_
 simp only [go_sem]
 refine W_loopT (α := Nat × (List Int) × Int) (fun ⟨i, acc, b⟩ => [(5, glI σ.store.length acc), (6, I i)]) (fun ⟨i, acc, b⟩ => (σ.setVar d [.int .u64 b]).ext (gsI acc) []) (fun ⟨i, acc, b⟩ => i ≤ n ∧ acc.length = i ∧ res = orderA n (n - i) acc b) (fun ⟨i, acc, b⟩ => n - i) ((0, [], b)) rfl (by simp only [gsI, go_sem, sv_self hd]) (⟨Nat.zero_le _, rfl, hres.symm⟩) ?_
 rintro ⟨i, acc, b⟩ ⟨hi, hal, hinv⟩
 refine W_seq fun Z5 K5 => ?_
 refine W_sr [0, 1, 5, 6, 10] fun R hR => ?_
 simp only [go_sem, ldS_at hd, stX_at hd, ldS_sv hlt, stX_sv hlt, sv_ext hlt, sv_ext_sv hlt]
 refine hR _ _ ?_; clear hR R
 try simp only [go_sem, ldS_at hd, stX_at hd, ldS_sv hlt, stX_sv hlt, sv_ext hlt, sv_ext_sv hlt]
 refine W_cond rfl (fun c1 => ?_) (fun c1 => ?_)
 ·
  try simp only [nrm] at c1
  have hin : i < n := by first | omega | (simp at c1; omega)
  rw [show n - i = (n - (i + 1)) + 1 by omega] at hinv
  simp only [orderA, dbind] at hinv
  rw [show (n - (n - (i + 1) + 1) : Nat) = i by omega] at hinv
  have hkb := roll_bd ((i : Int) + 1) b
  obtain ⟨kz, hkz⟩ : ∃ z, (roll ((i : Int) + 1) b).1 = z := ⟨_, rfl⟩
  obtain ⟨b1, hb1⟩ : ∃ z, (roll ((i : Int) + 1) b).2 = z := ⟨_, rfl⟩
  simp only [hkz] at hkb
  obtain ⟨k, rfl⟩ : ∃ k : Nat, kz = k := ⟨kz.toNat, by omega⟩
  rw [hkz, hb1, Int.toNat_natCast] at hinv
  have hki : k < i + 1 := by omega
  have hL : (σ.setVar d [.int .u64 b1]).store.length = σ.store.length := sv_len
  have happ := appG_gl (σ := σ.setVar d [.int .u64 b1]) (A := []) (rm := []) (ys := []) (out := acc) (i : Int) (by omega)
  have hal2 : (acc ++ [(i : Int)]).length = i + 1 := by simp [hal]
  rw [glI_of hal2, gsI_of hal2] at happ
  obtain ⟨ac2, hac2⟩ : ∃ z, acc ++ [(i : Int)] = z := ⟨_, rfl⟩
  rw [hac2] at happ hal2 hinv
  simp only [go_sem, List.length_nil, hL] at happ
  obtain ⟨x, hx⟩ : ∃ z, ac2[i]? = some z := ⟨ac2[i]'(by omega), by simp⟩
  obtain ⟨y, hy⟩ : ∃ z, ac2[k]? = some z := ⟨ac2[k]'(by omega), by simp⟩
  have hsw : swapAt ac2 i k = (ac2.set i y).set k x := by simp only [swapAt, hx, hy, Option.getD_some]
  have hI1 : (i : Int) < ((i + 1 : Nat) : Int) := by omega
  have hI2 : (k : Int) < ((i + 1 : Nat) : Int) := by omega
  have hg1 : ∀ c : Option (List PV), (List.replicate i none ++ [c])[i]? = some c := fun c => by rw [List.getElem?_append_right (by simp)]; simp
  have hg2 : ∀ c c2 : Option (List PV), (List.replicate i none ++ [c]).set i c2 = List.replicate i none ++ [c2] := fun c c2 => by rw [List.set_append_right _ _ (by simp)]; simp
  have hm1 : i + 1 ≤ ac2.length := by omega
  have hm2 : k + 1 ≤ ac2.length := by omega
  have hsl : (swapAt ac2 i k).length = i + 1 := by rw [swapAt_len]; exact hal2
  refine W_skip (K5 _ _ ?_)
  refine W_seq fun Z7 K7 => ?_
  refine W_block ?_
  refine W_sr [0, 1, 5, 6, 7] fun R hR => ?_
  simp only [go_sem, ldS_at hd, stX_at hd, ldS_sv hlt, stX_sv hlt, sv_ext hlt, sv_ext_sv hlt, hkz, hb1, hL]
  try simp (disch := omega) only [wrapI, wrapU]
  refine GCall_of (Roll_pc Y _ d b (by first | exact hd | exact sv_get hlt | exact get_svx hlt | exact get_extx hd) ((i : Int) + 1) (by omega)) ?_
  simp only [go_sem, ldS_at hd, stX_at hd, ldS_sv hlt, stX_sv hlt, sv_ext hlt, sv_ext_sv hlt, hkz, hb1, hL]
  try simp (disch := omega) only [wrapI, wrapU]
  refine hR _ _ ?_; clear hR R
  try simp only [go_sem, ldS_at hd, stX_at hd, ldS_sv hlt, stX_sv hlt, sv_ext hlt, sv_ext_sv hlt, hkz, hb1, hL]
  refine W_sr [0, 1, 5, 6, 7] fun R hR => ?_
  simp only [go_sem, ldS_at hd, stX_at hd, ldS_sv hlt, stX_sv hlt, sv_ext hlt, sv_ext_sv hlt, hkz, hb1, hL, happ]
  try simp (disch := first | omega | (simp only [go_sem] <;> omega)) only [wrapI, wrapU, appX_exact, appX_tok]
  try simp only [go_sem, ldS_at hd, stX_at hd, ldS_sv hlt, stX_sv hlt, sv_ext hlt, sv_ext_sv hlt, hkz, hb1, hL, happ]
  refine hR _ _ ?_; clear hR R
  try simp only [go_sem, ldS_at hd, stX_at hd, ldS_sv hlt, stX_sv hlt, sv_ext hlt, sv_ext_sv hlt, hkz, hb1, hL]
  refine W_draw [0, 1, 5, 6] [0, 1, 2, 3, 4, 5, 6, 7, 8, 9, 10, 11, 12, 13, 14, 15] [(2, 15), (3, 15)] [[], [], [], [], [], [], [4, 5], [4, 5, 6], [], [], [8, 9], [8, 9, 10], [0, 1, 4, 5, 6, 7, 8, 9, 10, 11], [0, 1, 4, 5, 6, 7, 8, 9, 10, 11, 12], [0, 1, 2, 3, 4, 5, 6, 7, 8, 9, 10, 11, 12, 13], [0, 1, 2, 3, 4, 5, 6, 7, 8, 9, 10, 11, 12, 13, 14]] mixed (by kernel_rfl) fun R hR => ?_
  simp only [go_sem, ldS_at hd, stX_at hd, ldS_sv hlt, stX_sv hlt, sv_ext hlt, sv_ext_sv hlt, hkz, hb1, hL, hI1, hI2, iaM_nat (Int.ofNat_lt.1 hI1), iaM_nat (Int.ofNat_lt.1 hI2), Nat.mul_one, Nat.zero_add, hg1, hg2, hx, hy, hm1, hm2, List.getElem?_map, List.length_set]
  try refine And.intro (by repeat' (first | refine And.intro ?_ ?_ | exact GOr_right (fun _ => by simp only [go_sem, ldS_at hd, stX_at hd, ldS_sv hlt, stX_sv hlt, sv_ext hlt, sv_ext_sv hlt, hkz, hb1, hL, hI1, hI2, iaM_nat (Int.ofNat_lt.1 hI1), iaM_nat (Int.ofNat_lt.1 hI2), Nat.mul_one, Nat.zero_add, hg1, hg2, hx, hy, hm1, hm2, List.getElem?_map, List.length_set]))) ?_
  refine hR _ _ (K7 _ _ ?_); clear hR R; try clear K7 Z7
  try simp only [go_sem, ldS_at hd, stX_at hd, ldS_sv hlt, stX_sv hlt, sv_ext hlt, sv_ext_sv hlt, hkz, hb1, hL]
  refine W_region [0, 1, 5, 6] fun R hR => ?_
  simp only [go_sem, ldS_at hd, stX_at hd, ldS_sv hlt, stX_sv hlt, sv_ext hlt, sv_ext_sv hlt, hkz, hb1, hL]
  try simp (disch := omega) only [wrapI, wrapU]
  refine hR _ _ ?_; clear hR R
  try simp only [go_sem, ldS_at hd, stX_at hd, ldS_sv hlt, stX_sv hlt, sv_ext hlt, sv_ext_sv hlt, hkz, hb1, hL]
  refine ⟨(i + 1, swapAt ac2 i k, b1), ?_, by (try simp only []); omega, ?_⟩
  ·refine Weak.eq ?_ ?_
   ·simp only [go_sem, glI_of hsl]
    first | done | rfl | simp
   rw [gsI_of hsl, hsw]
  try dsimp only
  exact ⟨by omega, hsl, by rw [hinv]⟩
 try simp only [nrm] at c1
 have hie : n = i := by first | omega | (simp at c1; omega)
 subst hie
 rw [Nat.sub_self] at hinv
 simp only [orderA, dret] at hinv
 refine W_exit ?_
 simp only [go_sem, ldS_at hd, stX_at hd, ldS_sv hlt, stX_sv hlt, sv_ext hlt, sv_ext_sv hlt]
 refine K3 _ _ ?_
 refine W_seq fun Z10 K10 => ?_
 refine W_weak (Weak.readI (t := 5) (A := []) (out := acc) (by simp only [go_sem, sv_len])) ?_
 refine W_weak (Weak.keep [5]) ?_
 simp only [go_sem]
 refine W_region [4] fun R hR => ?_
 simp only [go_sem, ldS_at hd, stX_at hd, ldS_sv hlt, stX_sv hlt, sv_ext hlt, sv_ext_sv hlt]
 refine hR _ _ (K10 _ _ ?_); clear hR R; try clear K10 Z10
 try simp only [go_sem, ldS_at hd, stX_at hd, ldS_sv hlt, stX_sv hlt, sv_ext hlt, sv_ext_sv hlt]
 refine W_ret ?_
 simp only [go_sem, ldS_at hd, stX_at hd, ldS_sv hlt, stX_sv hlt, sv_ext hlt, sv_ext_sv hlt]
 refine ⟨.inr (by trivial), ?_⟩
 rw [hinv]; refine Fin_set hcl (by simp only [go_sem]) rfl (Wk_eq rfl ?_)
 try simp only [go_sem]
 all_goals
  simp only [go_sem]
def rJudge (s : Scale) (j : Int × Int) : Int := if ofSc s j then 0 else 7
def rMarks (s : Scale) (l : List Int) : Int := if (l.length : Int) ≠ s.schools then 1 else if outMarks s l then 2 else 0
theorem marked_r (s : Scale) (j : Int × Int) (l : List Int) : marked s j l = if rJudge s j ≠ 0 then rJudge s j else rMarks s l := by
 unfold marked rJudge rMarks
 cases ofSc s j <;> simp
theorem has_take {l : List Int} {k : Nat} {z v : Int} (h : l[k]? = some z) : has (l.take (k + 1)) v = (has (l.take k) v || decide (z = v)) := by
 rw [List.take_add_one, h]
 simp [has, List.any_append]
theorem outMarks_cons (s : Scale) (x : Int) (l : List Int) : outMarks s (x :: l) = (!(inR x s.low s.high) || outMarks s l) := rfl
theorem outMarks_nil (s : Scale) : outMarks s [] = false := rfl
set_option maxHeartbeats 2000000 in
theorem rin_pc (Y : YEnv) (σ : Sg) (n lo hi : Int) :
 PC Tryz.prog Y 58 [I n, I lo, I hi] σ (.bool (inR n lo hi)) (σ) := by
 refine PC_of_W Tryz.func58 rfl (by kernel_rfl) Tryz.ntmps58 (by simp) fun hcl hca => ?_
 refine W_sr [0, 1, 2] fun R hR => ?_
 simp only [go_sem]
 refine hR _ _ ?_; clear hR R
 try simp only [go_sem]
 refine W_sr [6] fun R hR => ?_
 simp only [go_sem]
 refine GWant_split (fun g1 => ?_) (fun g1 => ?_)
 ·try simp only [Bool.not_eq_true', Bool.not_eq_false'] at g1
  have n1 := g1; try simp only [nrm] at n1
  simp only [go_sem, g1]
  refine hR _ _ ?_; clear hR R
  try simp only [go_sem]
  refine W_ret ?_
  simp only [go_sem]
  refine ⟨.inr (by trivial), ?_⟩
  first | refine Fsa hcl rfl ?_ | refine Fse hcl rfl ?_
  try simp only [go_sem]
  all_goals
   simp [inR, *]
 try simp only [Bool.not_eq_true', Bool.not_eq_false'] at g1
 have n1 := g1; try simp only [nrm] at n1
 simp only [go_sem, g1]
 refine hR _ _ ?_; clear hR R
 try simp only [go_sem]
 refine W_ret ?_
 simp only [go_sem]
 refine ⟨.inr (by trivial), ?_⟩
 first | refine Fsa hcl rfl ?_ | refine Fse hcl rfl ?_
 try simp only [go_sem]
 all_goals
  simp [inR, *]
set_option maxHeartbeats 4000000 in
theorem rCheck_pc (Y : YEnv) (σ : Sg) (s : Scale) (hs : s.Ok) :
 PC Tryz.prog Y 28 [scPV s] σ (I (chkSc s)) (σ) := by
 refine PC_of_W Tryz.func28 rfl (by kernel_rfl) Tryz.ntmps28 (by simp) fun hcl hca => ?_
 have ho := hs.ho
 obtain ⟨res, hres⟩ : ∃ r, chkSc s = r := ⟨_, rfl⟩
 rw [hres]
 refine W_sr [1] fun R hR => ?_
 simp only [go_sem]
 refine hR _ _ ?_; clear hR R
 try simp only [go_sem]
 refine W_seq fun Z2 K2 => ?_
 refine W_seq fun Z3 K3 => ?_
 refine W_regionJ [1, 41] [(41, .bool (!scRange s))] ?_ fun R hR => ?_
 ·refine K3 _ _ ?_
  simp only [go_sem]
  refine W_cond rfl (fun c1 => ?_) (fun c1 => ?_)
  ·
   try simp only [nrm] at c1
   refine W_sr [2] fun R hR => ?_
   simp only [go_sem]
   refine hR _ _ ?_; clear hR R
   try simp only [go_sem]
   refine W_ret ?_
   simp only [go_sem]
   refine ⟨.inr (by trivial), ?_⟩
   first | refine Fsa hcl rfl ?_ | refine Fse hcl rfl ?_
   try simp only [go_sem]
   all_goals
    first | rfl | (simp_all; done) | (simp_all; omega) | (rw [← hres]; simp only [chkSc]; (repeat' split) <;> ((first | rfl | omega | (simp_all; done) | (simp_all; omega))))
  try simp only [nrm] at c1
  have d2 : scRange s = true := by simpa using c1
  have d4 := d2
  simp only [scRange, Bool.and_eq_true, inR_true] at d4
  refine W_skip (K2 _ _ ?_)
  refine W_seq fun Z5 K5 => ?_
  refine W_sr [1, 46] fun R hR => ?_
  simp only [go_sem]
  refine hR _ _ ?_; clear hR R
  try simp only [go_sem]
  refine W_cond rfl (fun c2 => ?_) (fun c2 => ?_)
  ·
   try simp only [nrm] at c2
   refine W_sr [2] fun R hR => ?_
   simp only [go_sem]
   refine hR _ _ ?_; clear hR R
   try simp only [go_sem]
   refine W_ret ?_
   simp only [go_sem]
   refine ⟨.inr (by trivial), ?_⟩
   first | refine Fsa hcl rfl ?_ | refine Fse hcl rfl ?_
   try simp only [go_sem]
   all_goals
    first | rfl | (simp_all; done) | (simp_all; omega) | (rw [← hres]; simp only [chkSc]; (repeat' split) <;> ((first | rfl | omega | (simp_all; done) | (simp_all; omega))))
  try simp only [nrm] at c2
  refine W_skip (K5 _ _ ?_)
  refine W_seq fun Z8 K8 => ?_
  refine W_sr [1, 52] fun R hR => ?_
  simp only [go_sem]
  refine hR _ _ ?_; clear hR R
  try simp only [go_sem]
  refine W_cond rfl (fun c3 => ?_) (fun c3 => ?_)
  ·
   try simp only [nrm] at c3
   refine W_sr [2] fun R hR => ?_
   simp only [go_sem]
   refine hR _ _ ?_; clear hR R
   try simp only [go_sem]
   refine W_ret ?_
   simp only [go_sem]
   refine ⟨.inr (by trivial), ?_⟩
   first | refine Fsa hcl rfl ?_ | refine Fse hcl rfl ?_
   try simp only [go_sem]
   all_goals
    first | rfl | (simp_all; done) | (simp_all; omega) | (rw [← hres]; simp only [chkSc]; (repeat' split) <;> ((first | rfl | omega | (simp_all; done) | (simp_all; omega))))
  try simp only [nrm] at c3
  refine W_skip (K8 _ _ ?_)
  refine W_seq fun Z11 K11 => ?_
  refine W_sr [1, 3] fun R hR => ?_
  simp only [go_sem]
  refine hR _ _ ?_; clear hR R
  try simp only [go_sem]
  refine W_block ?_
  refine W_loopS (α := Nat) (fun (i : Nat) => [(3, I i)]) (fun (i : Nat) => i ≤ s.order.length ∧ res = chkOrd s.matters (s.order.take i) (s.order.drop i)) (fun (i : Nat) => s.order.length - i) (0) rfl (⟨Nat.zero_le _, by rw [← hres]; simp [chkSc, *] <;> omega⟩) ?_
  rintro i ⟨hi, hinv⟩
  refine W_seq fun Z13 K13 => ?_
  refine W_sr [1, 3, 57] fun R hR => ?_
  simp only [go_sem]
  refine hR _ _ ?_; clear hR R
  try simp only [go_sem]
  refine W_cond rfl (fun c4 => ?_) (fun c4 => ?_)
  ·
   try simp only [nrm] at c4
   have hi' : i < s.order.length := by first | assumption | omega
   obtain ⟨x, hx⟩ : ∃ x, s.order[i]? = some x := ⟨s.order[i], by simp [hi']⟩
   have hdrop : s.order.drop i = x :: s.order.drop (i + 1) := by
    rw [List.drop_eq_getElem_cons hi']; congr 1; exact (List.getElem?_eq_some_iff.1 hx).2
   rw [hdrop] at hinv
   simp only [chkOrd] at hinv
   have htk : s.order.take i ++ [x] = s.order.take (i + 1) := by rw [List.take_add_one, hx]; rfl
   rw [htk] at hinv
   refine W_skip (K13 _ _ ?_)
   refine W_seq fun Z15 K15 => ?_
   refine W_block ?_
   refine W_seq fun Z16 K16 => ?_
   refine W_seq fun Z17 K17 => ?_
   refine W_draw [1, 3, 69] [0, 1, 2, 3, 4, 5, 6, 7, 8, 9] [] [[], [0], [], [0, 1, 2], [0, 1, 2, 3], [], [5], [5, 6], [0, 1, 2, 3, 4, 5, 6, 7], [0, 1, 2, 3, 4, 5, 6, 7, 8]] mixed (by kernel_rfl) fun R hR => ?_
   simp only [go_sem, hx]
   try simp (disch := omega) only [wrapI, wrapU]
   refine GCall_of (rin_pc Y _ x 0 _) ?_
   simp only [go_sem, hx]
   try simp (disch := omega) only [wrapI, wrapU]
   try refine And.intro (by repeat' (first | refine And.intro ?_ ?_ | exact GOr_right (fun _ => by simp only [go_sem, hx]))) ?_
   refine hR _ _ (K17 _ _ ?_); clear hR R; try clear K17 Z17
   try simp only [go_sem, hx]
   refine W_cond rfl (fun c5 => ?_) (fun c5 => ?_)
   ·
    try simp only [nrm] at c5
    refine W_sr [2] fun R hR => ?_
    simp only [go_sem, hx]
    refine hR _ _ ?_; clear hR R
    try simp only [go_sem, hx]
    refine W_ret ?_
    simp only [go_sem, hx]
    refine ⟨.inr (by trivial), ?_⟩
    first | refine Fsa hcl rfl ?_ | refine Fse hcl rfl ?_
    try simp only [go_sem]
    all_goals
     first | rfl | (simp_all; done) | (simp_all; omega) | (rw [← hres]; simp only [chkSc]; (repeat' split) <;> ((first | rfl | omega | (simp_all; done) | (simp_all; omega))))
   try simp only [nrm] at c5
   refine W_skip (K16 _ _ ?_)
   refine W_sr [1, 3, 4] fun R hR => ?_
   simp only [go_sem, hx]
   refine hR _ _ ?_; clear hR R
   try simp only [go_sem, hx]
   refine W_block ?_
   refine W_loopS (α := Nat) (fun (k : Nat) => [(4, I k)]) (fun (k : Nat) => k ≤ i ∧ has (s.order.take k) x = false) (fun (k : Nat) => i - k) (0) rfl (⟨Nat.zero_le _, rfl⟩) ?_
   rintro k ⟨hk, hh⟩
   refine W_seq fun Z20 K20 => ?_
   refine W_sr [1, 3, 4, 72] fun R hR => ?_
   simp only [go_sem, hx]
   refine hR _ _ ?_; clear hR R
   try simp only [go_sem, hx]
   refine W_cond rfl (fun c6 => ?_) (fun c6 => ?_)
   ·
    try simp only [nrm] at c6
    have hk' : k < i := by first | assumption | omega | (simp at c6; omega)
    obtain ⟨z, hz⟩ : ∃ z, s.order[k]? = some z := ⟨s.order[k]'(by omega), by simp⟩
    have hht := has_take hz (v := x)
    refine W_skip (K20 _ _ ?_)
    refine W_seq fun Z22 K22 => ?_
    refine W_block ?_
    refine W_seq fun Z23 K23 => ?_
    refine W_draw [1, 3, 4, 85] [0, 1, 2, 3, 4, 5, 6, 7, 8, 9, 10] [] [[], [0], [], [0, 1, 2], [0, 1, 2, 3], [], [5], [], [5, 6, 7], [5, 6, 7, 8], [0, 1, 2, 3, 4, 5, 6, 7, 8, 9]] mixed (by kernel_rfl) fun R hR => ?_
    simp only [go_sem, hx, hz]
    try refine And.intro (by repeat' (first | refine And.intro ?_ ?_ | exact GOr_right (fun _ => by simp only [go_sem, hx, hz]))) ?_
    refine hR _ _ (K23 _ _ ?_); clear hR R; try clear K23 Z23
    try simp only [go_sem, hx, hz]
    refine W_cond rfl (fun c7 => ?_) (fun c7 => ?_)
    ·
     try simp only [nrm] at c7
     refine W_sr [2] fun R hR => ?_
     simp only [go_sem, hx, hz]
     refine hR _ _ ?_; clear hR R
     try simp only [go_sem, hx, hz]
     refine W_ret ?_
     simp only [go_sem, hx, hz]
     refine ⟨.inr (by trivial), ?_⟩
     first | refine Fsa hcl rfl ?_ | refine Fse hcl rfl ?_
     try simp only [go_sem]
     all_goals
      have hall : has (s.order.take i) x = true := by
       rw [has_iff]
       have h1 : z = x := by first | exact c7 | simpa using c7
       rw [← h1]
       refine List.mem_of_getElem? (i := k) ?_
       rw [List.getElem?_take_of_lt hk']; exact hz
      simp_all
    try simp only [nrm] at c7
    refine W_skip (K22 _ _ ?_)
    refine W_region [1, 3, 4] fun R hR => ?_
    simp only [go_sem, hx, hz]
    try simp (disch := omega) only [wrapI, wrapU]
    refine hR _ _ ?_; clear hR R
    try simp only [go_sem, hx, hz]
    refine ⟨k + 1, ?_, by (try simp only []); omega, ?_⟩
    ·first | exact Weak.refl | exact Wqq
    try dsimp only
    exact ⟨hk', by rw [hht, hh]; simp [*]⟩
   try simp only [nrm] at c6
   have hke : i = k := by first | omega | (simp at c6; omega)
   have hhi : has (s.order.take i) x = false := by rw [hke]; exact hh
   refine W_exit ?_
   simp only [go_sem, hx]
   refine K15 _ _ ?_
   refine W_region [1, 3] fun R hR => ?_
   simp only [go_sem, hx]
   try simp (disch := omega) only [wrapI, wrapU]
   refine hR _ _ ?_; clear hR R
   try simp only [go_sem, hx]
   refine ⟨i + 1, ?_, by (try simp only []); omega, ?_⟩
   ·first | exact Weak.refl | exact Wqq
   try dsimp only
   exact ⟨hi', by simp_all⟩
  try simp only [nrm] at c4
  have hdrop : s.order.drop i = [] := List.drop_eq_nil_of_le (by omega)
  rw [hdrop] at hinv
  simp only [chkOrd] at hinv
  refine W_exit ?_
  simp only [go_sem]
  refine K11 _ _ ?_
  refine W_sr [2] fun R hR => ?_
  simp only [go_sem]
  refine hR _ _ ?_; clear hR R
  try simp only [go_sem]
  refine W_ret ?_
  simp only [go_sem]
  refine ⟨.inr (by trivial), ?_⟩
  first | refine Fsa hcl rfl ?_ | refine Fse hcl rfl ?_
  try simp only [go_sem]
  all_goals
   first | rfl | (simp_all; done) | (simp_all; omega) | (rw [← hres]; simp only [chkSc]; (repeat' split) <;> ((first | rfl | omega | (simp_all; done) | (simp_all; omega))))
 simp only [go_sem]
 refine GCall_of (rin_pc Y _ s.schools 1 8) ?_
 simp only [go_sem]
 refine GWant_split (fun g1 => ?_) (fun g1 => ?_)
 ·try simp only [Bool.not_eq_true', Bool.not_eq_false'] at g1
  have n1 := g1; try simp only [nrm] at n1
  simp only [go_sem, g1]
  refine GCall_of (rin_pc Y _ s.matters 1 6) ?_
  simp only [go_sem, g1]
  refine GWant_split (fun g2 => ?_) (fun g2 => ?_)
  ·try simp only [Bool.not_eq_true', Bool.not_eq_false'] at g2
   have n2 := g2; try simp only [nrm] at n2
   simp only [go_sem, g1, g2]
   refine GCall_of (rin_pc Y _ s.judges 1 5) ?_
   simp only [go_sem, g1, g2]
   refine GWant_split (fun g3 => ?_) (fun g3 => ?_)
   ·try simp only [Bool.not_eq_true', Bool.not_eq_false'] at g3
    have n3 := g3; try simp only [nrm] at n3
    have d3 : inR s.judges 1 5 = true := by simp_all
    simp only [inR_true] at d3
    simp only [go_sem, g1, g2, g3]
    try simp (disch := omega) only [wrapI, wrapU]
    refine GCall_of (rin_pc Y _ s.drop 0 _) ?_
    simp only [go_sem, g1, g2, g3]
    refine GWant_split (fun g4 => ?_) (fun g4 => ?_)
    ·try simp only [Bool.not_eq_true', Bool.not_eq_false'] at g4
     have n4 := g4; try simp only [nrm] at n4
     try simp (disch := omega) only [wrapI, wrapU] at n4
     simp only [go_sem, g1, g2, g3, g4]
     try simp (disch := omega) only [wrapI, wrapU]
     refine GCall_of (rin_pc Y _ s.low 0 100) ?_
     simp only [go_sem, g1, g2, g3, g4]
     refine GWant_split (fun g5 => ?_) (fun g5 => ?_)
     ·try simp only [Bool.not_eq_true', Bool.not_eq_false'] at g5
      have n5 := g5; try simp only [nrm] at n5
      try simp (disch := omega) only [wrapI, wrapU] at n5
      simp only [go_sem, g1, g2, g3, g4, g5]
      try simp (disch := omega) only [wrapI, wrapU]
      refine GCall_of (rin_pc Y _ s.high 0 100) ?_
      simp only [go_sem, g1, g2, g3, g4, g5]
      try simp (disch := omega) only [wrapI, wrapU]
      refine hR _ ?_
      try simp only [go_sem]
      all_goals
       simp [scRange, *]
     try simp only [Bool.not_eq_true', Bool.not_eq_false'] at g5
     have n5 := g5; try simp only [nrm] at n5
     try simp (disch := omega) only [wrapI, wrapU] at n5
     simp only [go_sem, g1, g2, g3, g4, g5]
     try simp (disch := omega) only [wrapI, wrapU]
     refine hR _ ?_
     try simp only [go_sem]
     all_goals
      simp [scRange, *]
    try simp only [Bool.not_eq_true', Bool.not_eq_false'] at g4
    have n4 := g4; try simp only [nrm] at n4
    try simp (disch := omega) only [wrapI, wrapU] at n4
    simp only [go_sem, g1, g2, g3, g4]
    try simp (disch := omega) only [wrapI, wrapU]
    refine hR _ ?_
    try simp only [go_sem]
    all_goals
     simp [scRange, *]
   try simp only [Bool.not_eq_true', Bool.not_eq_false'] at g3
   have n3 := g3; try simp only [nrm] at n3
   simp only [go_sem, g1, g2, g3]
   try simp (disch := omega) only [wrapI, wrapU]
   refine hR _ ?_
   try simp only [go_sem]
   all_goals
    simp [scRange, *]
  try simp only [Bool.not_eq_true', Bool.not_eq_false'] at g2
  have n2 := g2; try simp only [nrm] at n2
  simp only [go_sem, g1, g2]
  try simp (disch := omega) only [wrapI, wrapU]
  refine hR _ ?_
  try simp only [go_sem]
  all_goals
   simp [scRange, *]
 try simp only [Bool.not_eq_true', Bool.not_eq_false'] at g1
 have n1 := g1; try simp only [nrm] at n1
 simp only [go_sem, g1]
 try simp (disch := omega) only [wrapI, wrapU]
 refine hR _ ?_
 try simp only [go_sem]
 all_goals
  simp [scRange, *]
set_option maxHeartbeats 2000000 in
theorem rJudge_pc (Y : YEnv) (σ : Sg) (s : Scale) (a b : Int) (h : s.V) :
 PC Tryz.prog Y 29 [scPV s, I a, I b] σ (I (rJudge s (a, b))) (σ) := by
 refine PC_of_W Tryz.func29 rfl (by kernel_rfl) Tryz.ntmps29 (by simp) fun hcl hca => ?_
 have h1 := h.mt
 have h2 := h.jd
 refine W_sr [1, 2, 3] fun R hR => ?_
 simp only [go_sem]
 refine hR _ _ ?_; clear hR R
 try simp only [go_sem]
 refine W_seq fun Z2 K2 => ?_
 refine W_sr [20] fun R hR => ?_
 simp only [go_sem]
 try simp (disch := omega) only [wrapI, wrapU]
 refine GCall_of (rin_pc Y _ a 0 _) ?_
 simp only [go_sem]
 refine GWant_split (fun g1 => ?_) (fun g1 => ?_)
 ·try simp only [Bool.not_eq_true', Bool.not_eq_false'] at g1
  have n1 := g1; try simp only [nrm] at n1
  try simp (disch := omega) only [wrapI, wrapU] at n1
  simp only [go_sem, g1]
  try simp (disch := omega) only [wrapI, wrapU]
  refine GCall_of (rin_pc Y _ b 0 _) ?_
  simp only [go_sem, g1]
  try simp (disch := omega) only [wrapI, wrapU]
  refine hR _ _ ?_; clear hR R
  try simp only [go_sem]
  refine W_cond rfl (fun c1 => ?_) (fun c1 => ?_)
  ·
   try simp only [nrm] at c1
   refine W_sr [6] fun R hR => ?_
   simp only [go_sem]
   refine hR _ _ ?_; clear hR R
   try simp only [go_sem]
   refine W_ret ?_
   simp only [go_sem]
   refine ⟨.inr (by trivial), ?_⟩
   first | refine Fsa hcl rfl ?_ | refine Fse hcl rfl ?_
   try simp only [go_sem]
   all_goals
    simp [rJudge, ofSc, *]
  try simp only [nrm] at c1
  refine W_skip (K2 _ _ ?_)
  refine W_sr [6] fun R hR => ?_
  simp only [go_sem]
  refine hR _ _ ?_; clear hR R
  try simp only [go_sem]
  refine W_ret ?_
  simp only [go_sem]
  refine ⟨.inr (by trivial), ?_⟩
  first | refine Fsa hcl rfl ?_ | refine Fse hcl rfl ?_
  try simp only [go_sem]
  all_goals
   simp [rJudge, ofSc, *]
 try simp only [Bool.not_eq_true', Bool.not_eq_false'] at g1
 have n1 := g1; try simp only [nrm] at n1
 try simp (disch := omega) only [wrapI, wrapU] at n1
 simp only [go_sem, g1]
 try simp (disch := omega) only [wrapI, wrapU]
 refine hR _ _ ?_; clear hR R
 try simp only [go_sem]
 refine W_cond_true rfl ?_
 refine W_sr [6] fun R hR => ?_
 simp only [go_sem]
 refine hR _ _ ?_; clear hR R
 try simp only [go_sem]
 refine W_ret ?_
 simp only [go_sem]
 refine ⟨.inr (by trivial), ?_⟩
 first | refine Fsa hcl rfl ?_ | refine Fse hcl rfl ?_
 try simp only [go_sem]
 all_goals
  simp [rJudge, ofSc, *]
set_option maxHeartbeats 2000000 in
theorem rMarks_pc (Y : YEnv) (σ : Sg) (s : Scale) (l : List Int) (o : Own) (hl : l.length < 2 ^ 40) :
 PC Tryz.prog Y 30 [scPV s, intsO o l] σ (I (rMarks s l)) (σ) := by
 refine PC_of_W Tryz.func30 rfl (by kernel_rfl) Tryz.ntmps30 (by simp) fun hcl hca => ?_
 obtain ⟨res, hres⟩ : ∃ r, rMarks s l = r := ⟨_, rfl⟩
 rw [hres]
 refine W_sr [1, 2] fun R hR => ?_
 simp only [go_sem]
 refine hR _ _ ?_; clear hR R
 try simp only [go_sem]
 refine W_seq fun Z2 K2 => ?_
 refine W_sr [1, 2, 10] fun R hR => ?_
 simp only [go_sem]
 refine hR _ _ ?_; clear hR R
 try simp only [go_sem]
 refine W_cond rfl (fun c1 => ?_) (fun c1 => ?_)
 ·
  try simp only [nrm] at c1
  refine W_sr [4] fun R hR => ?_
  simp only [go_sem]
  refine hR _ _ ?_; clear hR R
  try simp only [go_sem]
  refine W_ret ?_
  simp only [go_sem]
  refine ⟨.inr (by trivial), ?_⟩
  first | refine Fsa hcl rfl ?_ | refine Fse hcl rfl ?_
  try simp only [go_sem]
  all_goals
   rw [← hres]; simp [rMarks, *]
 try simp only [nrm] at c1
 refine W_skip (K2 _ _ ?_)
 refine W_seq fun Z5 K5 => ?_
 refine W_sr [1, 2, 5] fun R hR => ?_
 simp only [go_sem]
 refine hR _ _ ?_; clear hR R
 try simp only [go_sem]
 refine W_block ?_
 refine W_loopS (α := Nat) (fun (i : Nat) => [(5, I i)]) (fun (i : Nat) => i ≤ l.length ∧ outMarks s l = outMarks s (l.drop i)) (fun (i : Nat) => l.length - i) (0) rfl (⟨Nat.zero_le _, rfl⟩) ?_
 rintro i ⟨hi, hinv⟩
 refine W_seq fun Z7 K7 => ?_
 refine W_sr [1, 2, 5, 14] fun R hR => ?_
 simp only [go_sem]
 refine hR _ _ ?_; clear hR R
 try simp only [go_sem]
 refine W_cond rfl (fun c2 => ?_) (fun c2 => ?_)
 ·
  try simp only [nrm] at c2
  have hi' : i < l.length := by first | assumption | omega
  obtain ⟨x, hx⟩ : ∃ x, l[i]? = some x := ⟨l[i], by simp [hi']⟩
  have hdrop : l.drop i = x :: l.drop (i + 1) := by
   rw [List.drop_eq_getElem_cons hi']; congr 1; exact (List.getElem?_eq_some_iff.1 hx).2
  rw [hdrop, outMarks_cons] at hinv
  refine W_skip (K7 _ _ ?_)
  refine W_seq fun Z9 K9 => ?_
  refine W_block ?_
  refine W_seq fun Z10 K10 => ?_
  refine W_draw [1, 2, 5, 26] [0, 1, 2, 3, 4, 5, 6, 7, 8, 9] [] [[], [], [0, 1], [0, 1, 2], [], [4], [], [6], [0, 1, 2, 3, 4, 5, 6, 7], [0, 1, 2, 3, 4, 5, 6, 7, 8]] mixed (by kernel_rfl) fun R hR => ?_
  simp only [go_sem, hx]
  refine GCall_of (rin_pc Y _ x s.low s.high) ?_
  simp only [go_sem, hx]
  try refine And.intro (by repeat' (first | refine And.intro ?_ ?_ | exact GOr_right (fun _ => by simp only [go_sem, hx]))) ?_
  refine hR _ _ (K10 _ _ ?_); clear hR R; try clear K10 Z10
  try simp only [go_sem, hx]
  refine W_cond rfl (fun c3 => ?_) (fun c3 => ?_)
  ·
   try simp only [nrm] at c3
   refine W_sr [4] fun R hR => ?_
   simp only [go_sem, hx]
   refine hR _ _ ?_; clear hR R
   try simp only [go_sem, hx]
   refine W_ret ?_
   simp only [go_sem, hx]
   refine ⟨.inr (by trivial), ?_⟩
   first | refine Fsa hcl rfl ?_ | refine Fse hcl rfl ?_
   try simp only [go_sem]
   all_goals
    rw [← hres]; simp [rMarks, *]
  try simp only [nrm] at c3
  refine W_skip (K9 _ _ ?_)
  refine W_region [1, 2, 5] fun R hR => ?_
  simp only [go_sem, hx]
  try simp (disch := omega) only [wrapI, wrapU]
  refine hR _ _ ?_; clear hR R
  try simp only [go_sem, hx]
  refine ⟨i + 1, ?_, by (try simp only []); omega, ?_⟩
  ·first | exact Weak.refl | exact Wqq
  try dsimp only
  exact ⟨hi', by simp_all⟩
 try simp only [nrm] at c2
 have hdrop : l.drop i = [] := List.drop_eq_nil_of_le (by omega)
 rw [hdrop, outMarks_nil] at hinv
 refine W_exit ?_
 simp only [go_sem]
 refine K5 _ _ ?_
 refine W_sr [4] fun R hR => ?_
 simp only [go_sem]
 refine hR _ _ ?_; clear hR R
 try simp only [go_sem]
 refine W_ret ?_
 simp only [go_sem]
 refine ⟨.inr (by trivial), ?_⟩
 first | refine Fsa hcl rfl ?_ | refine Fse hcl rfl ?_
 try simp only [go_sem]
 all_goals
  rw [← hres]; simp [rMarks, *]
set_option maxHeartbeats 2000000 in
theorem rseal_pc (Y : YEnv) (σ : Sg) (a b : Int) (l : List Int) (o : Own) (h1 : 0 ≤ a ∧ a ≤ 5) (h2 : 0 ≤ b ∧ b ≤ 4) (h3 : l.length ≤ 8) (h4 : ∀ x, x ∈ l → 0 ≤ x ∧ x ≤ 100) :
 PC Tryz.prog Y 31 [I a, I b, intsO o l] σ (I (sealOf (a, b) l)) (σ) := by
 refine PC_of_W Tryz.func31 rfl (by kernel_rfl) Tryz.ntmps31 (by simp) fun hcl hca => ?_
 obtain ⟨res, hres⟩ : ∃ r, sealOf (a, b) l = r := ⟨_, rfl⟩
 rw [hres]
 have hz : ¬ ((997 : Int) = 0) := by omega
 refine W_sr [0, 1, 2] fun R hR => ?_
 simp only [go_sem, hz]
 refine hR _ _ ?_; clear hR R
 try simp only [go_sem, hz]
 refine W_sr [2, 7] fun R hR => ?_
 simp only [go_sem, hz]
 try simp (disch := omega) only [wrapI, wrapU]
 refine hR _ _ ?_; clear hR R
 try simp only [go_sem, hz]
 refine W_seq fun Z3 K3 => ?_
 refine W_sr [2, 7, 8] fun R hR => ?_
 simp only [go_sem, hz]
 refine hR _ _ ?_; clear hR R
 try simp only [go_sem, hz]
 refine W_block ?_
 refine W_loopS (α := Nat × Int) (fun ⟨i, n⟩ => [(7, I n), (8, I i)]) (fun ⟨i, n⟩ => i ≤ l.length ∧ res = (n + sealSum i (l.drop i)).tmod 997 ∧ 0 ≤ n ∧ n ≤ 10000 + i * 800) (fun ⟨i, n⟩ => l.length - i) ((0, (a + 1) * 101 + (b + 1) * 1009)) rfl (⟨Nat.zero_le _, by rw [← hres]; simp [sealOf], by omega, by simp; omega⟩) ?_
 rintro ⟨i, n⟩ ⟨hi, hinv, hn1, hn2⟩
 have hi8 : i ≤ 8 := by omega
 refine W_seq fun Z5 K5 => ?_
 refine W_sr [2, 7, 8, 19] fun R hR => ?_
 simp only [go_sem, hz]
 refine hR _ _ ?_; clear hR R
 try simp only [go_sem, hz]
 refine W_cond rfl (fun c1 => ?_) (fun c1 => ?_)
 ·
  try simp only [nrm] at c1
  have hi' : i < l.length := by first | assumption | omega
  obtain ⟨x, hx⟩ : ∃ x, l[i]? = some x := ⟨l[i], by simp [hi']⟩
  have hdrop : l.drop i = x :: l.drop (i + 1) := by
   rw [List.drop_eq_getElem_cons hi']; congr 1; exact (List.getElem?_eq_some_iff.1 hx).2
  rw [hdrop] at hinv
  simp only [sealSum] at hinv
  have hxb := h4 x (List.mem_of_getElem? hx)
  have hp1 : 0 ≤ ((i : Int) + 1) * x := Int.mul_nonneg (by omega) hxb.1
  have hp2 : ((i : Int) + 1) * x ≤ ((i : Int) + 1) * 100 := Int.mul_le_mul_of_nonneg_left hxb.2 (by omega)
  refine W_skip (K5 _ _ ?_)
  refine W_seq fun Z7 K7 => ?_
  refine W_block ?_
  refine W_region [2, 7, 8] fun R hR => ?_
  simp only [go_sem, hz, hx]
  try simp (disch := omega) only [wrapI, wrapU]
  refine hR _ _ (K7 _ _ ?_); clear hR R; try clear K7 Z7
  try simp only [go_sem, hz, hx]
  refine W_region [2, 7, 8] fun R hR => ?_
  simp only [go_sem, hz, hx]
  try simp (disch := omega) only [wrapI, wrapU]
  refine hR _ _ ?_; clear hR R
  try simp only [go_sem, hz, hx]
  refine ⟨(i + 1, n + ((i : Int) + 1) * x), ?_, by (try simp only []); omega, ?_⟩
  ·first | exact Weak.refl | exact Wqq
  try dsimp only
  refine ⟨hi', ?_, by omega, by simp; omega⟩
  rw [hinv]; congr 1; omega
 try simp only [nrm] at c1
 have hdrop : l.drop i = [] := List.drop_eq_nil_of_le (by omega)
 rw [hdrop] at hinv
 simp only [sealSum] at hinv
 refine W_exit ?_
 simp only [go_sem, hz]
 refine K3 _ _ ?_
 refine W_sr [6] fun R hR => ?_
 simp only [go_sem, hz]
 try simp (disch := omega) only [wrapI, wrapU]
 refine hR _ _ ?_; clear hR R
 try simp only [go_sem, hz]
 refine W_ret ?_
 simp only [go_sem, hz]
 refine ⟨.inr (by trivial), ?_⟩
 first | refine Fsa hcl rfl ?_ | refine Fse hcl rfl ?_
 try simp only [go_sem]
 all_goals
  rw [hinv, Int.add_zero]
set_option maxHeartbeats 2000000 in
theorem rSeal_pc (Y : YEnv) (σ : Sg) (s : Scale) (a b : Int) (l : List Int) (o : Own) (hl : l.length < 2 ^ 40) (hs : s.Ok) :
 PC Tryz.prog Y 16 [scPV s, I a, I b, intsO o l] σ (.tuple [I (sealAns s (a, b) l).1, I (sealAns s (a, b) l).2]) (σ) := by
 refine PC_of_W Tryz.func16 rfl (by kernel_rfl) Tryz.ntmps16 (by simp) fun hcl hca => ?_
 refine W_sr [1, 2, 3, 4] fun R hR => ?_
 simp only [go_sem]
 refine hR _ _ ?_; clear hR R
 try simp only [go_sem]
 refine W_seq fun Z2 K2 => ?_
 refine W_sr [1, 2, 3, 4, 10] fun R hR => ?_
 simp only [go_sem]
 refine GCall_of (rCheck_pc Y _ s hs) ?_
 simp only [go_sem]
 refine hR _ _ ?_; clear hR R
 try simp only [go_sem]
 refine W_sr [1, 2, 3, 4, 10, 16] fun R hR => ?_
 simp only [go_sem]
 refine hR _ _ ?_; clear hR R
 try simp only [go_sem]
 refine W_cond rfl (fun c1 => ?_) (fun c1 => ?_)
 ·
  try simp only [nrm] at c1
  refine W_sr [8, 9] fun R hR => ?_
  simp only [go_sem]
  refine hR _ _ ?_; clear hR R
  try simp only [go_sem]
  refine W_ret ?_
  simp only [go_sem]
  refine ⟨.inr (by trivial), ?_⟩
  first | refine Fsa hcl rfl ?_ | refine Fse hcl rfl ?_
  try simp only [go_sem]
  all_goals
   simp [sealAns, marked_r, *]
 try simp only [nrm] at c1
 refine W_skip (K2 _ _ ?_)
 refine W_seq fun Z6 K6 => ?_
 refine W_sr [1, 2, 3, 4, 11] fun R hR => ?_
 simp only [go_sem]
 have hv := Scale.v c1
 refine GCall_of (rJudge_pc Y _ s a b hv) ?_
 simp only [go_sem]
 refine hR _ _ ?_; clear hR R
 try simp only [go_sem]
 refine W_sr [1, 2, 3, 4, 11, 23] fun R hR => ?_
 simp only [go_sem]
 refine hR _ _ ?_; clear hR R
 try simp only [go_sem]
 refine W_cond rfl (fun c2 => ?_) (fun c2 => ?_)
 ·
  try simp only [nrm] at c2
  refine W_sr [8, 9] fun R hR => ?_
  simp only [go_sem]
  refine hR _ _ ?_; clear hR R
  try simp only [go_sem]
  refine W_ret ?_
  simp only [go_sem]
  refine ⟨.inr (by trivial), ?_⟩
  first | refine Fsa hcl rfl ?_ | refine Fse hcl rfl ?_
  try simp only [go_sem]
  all_goals
   simp [sealAns, marked_r, *]
 try simp only [nrm] at c2
 refine W_skip (K6 _ _ ?_)
 refine W_seq fun Z10 K10 => ?_
 refine W_sr [1, 2, 3, 12] fun R hR => ?_
 simp only [go_sem]
 refine GCall_of (rMarks_pc Y _ s l o hl) ?_
 simp only [go_sem]
 refine hR _ _ ?_; clear hR R
 try simp only [go_sem]
 refine W_sr [1, 2, 3, 12, 29] fun R hR => ?_
 simp only [go_sem]
 refine hR _ _ ?_; clear hR R
 try simp only [go_sem]
 refine W_cond rfl (fun c3 => ?_) (fun c3 => ?_)
 ·
  try simp only [nrm] at c3
  refine W_sr [8, 9] fun R hR => ?_
  simp only [go_sem]
  refine hR _ _ ?_; clear hR R
  try simp only [go_sem]
  refine W_ret ?_
  simp only [go_sem]
  refine ⟨.inr (by trivial), ?_⟩
  first | refine Fsa hcl rfl ?_ | refine Fse hcl rfl ?_
  try simp only [go_sem]
  all_goals
   simp [sealAns, marked_r, *]
 try simp only [nrm] at c3
 refine W_skip (K10 _ _ ?_)
 refine W_sr [8, 9] fun R hR => ?_
 simp only [go_sem]
 have hmk : marked s (a, b) l = 0 := by rw [marked_r]; simp [*]
 obtain ⟨k1, k2, k3⟩ := marked_ok hmk
 simp only [ofSc_true] at k1
 have q1 := hv.mt
 have q2 := hv.jd
 have q3 := hv.sc
 have q4 := hv.lo
 have q5 := hv.hi
 refine GCall_of (rseal_pc Y _ a b l o (by omega) (by omega) (by omega) (fun x hx => by have := k3 x hx; omega)) ?_
 simp only [go_sem]
 refine hR _ _ ?_; clear hR R
 try simp only [go_sem]
 refine W_ret ?_
 simp only [go_sem]
 refine ⟨.inr (by trivial), ?_⟩
 first | refine Fsa hcl rfl ?_ | refine Fse hcl rfl ?_
 try simp only [go_sem]
 all_goals
  simp [sealAns, marked_r, *]
theorem mem2 {a b r : Int} (h : r ∈ [a, b]) : r = a ∨ r = b := by simpa using h
theorem mem3 {a b c r : Int} (h : r ∈ [a, b, c]) : r = a ∨ r = b ∨ r = c := by simpa using h
noncomputable def scaleD (n : Int) : D Scale := dbind (mid 1 n) fun a => dbind (mid 1 3) fun mt => dbind (mid 1 3) fun jd => dbind (anyOf [0, 70, 98]) fun lo => dbind (roll jd) fun dr => dbind (anyOf [2, 30]) fun e => dbind (mid lo (min 100 (lo + e))) fun hi => dbind (orderD mt.toNat) fun od => dret ⟨a, mt, jd, dr, lo, hi, od⟩
theorem chkOrd_of {m : Int} : ∀ {l p : List Int}, (∀ x, x ∈ l → 0 ≤ x ∧ x ≤ m - 1) → l.Nodup → (∀ x, x ∈ l → x ∉ p) → chkOrd m p l = 0 := by
 intro l
 induction l with
 | nil => intro p _ _ _; rfl
 | cons n l ih =>
  intro p h1 h2 h3
  obtain ⟨a1, a2⟩ := List.nodup_cons.1 h2
  have hn := h1 n (by simp)
  have hin : inR n 0 (m - 1) = true := by rw [inR_true]; exact hn
  have hh : has p n = false := by
   cases h : has p n with
   | false => rfl
   | true => exact absurd (has_iff.1 h) (h3 n (by simp))
  simp only [chkOrd, hin, hh]
  refine ih (fun x hx => h1 x (by simp [hx])) a2 (fun x hx hp => ?_)
  rcases List.mem_append.1 hp with hp | hp
  ·exact h3 x (by simp [hx]) hp
  simp only [List.mem_singleton] at hp
  subst hp
  exact a1 hx
theorem nodup_range (n : Nat) : ((List.range n).map fun (i : Nat) => (i : Int)).Nodup := by
 rw [List.nodup_iff_pairwise_ne, List.pairwise_map]
 refine List.Pairwise.imp ?_ (List.nodup_range (n := n))
 intro a b h e
 exact h (by omega)
theorem order_ok {mt : Int} {od : List Int} (h : od.Perm ((List.range mt.toNat).map fun (i : Nat) => (i : Int))) : chkOrd mt [] od = 0 := by
 refine chkOrd_of (fun x hx => ?_) (h.nodup_iff.2 (nodup_range _)) (fun x _ hx => by cases hx)
 obtain ⟨i, hi, rfl⟩ := List.mem_map.1 (h.mem_iff.1 hx)
 have := List.mem_range.1 hi
 omega
theorem scaleD_ok (n : Int) (h1 : 1 ≤ n) (h2 : n ≤ 8) : Holds (scaleD n) fun s => chkSc s = 0 ∧ s.schools ≤ n ∧ s.matters ≤ 3 ∧ s.judges ≤ 3 := by
 unfold scaleD
 refine (mid_bd 1 n h1).bind fun a ha => (mid_bd 1 3 (by omega)).bind fun mt hmt => (mid_bd 1 3 (by omega)).bind fun jd hjd => (anyOf_mem [0, 70, 98] (by simp)).bind fun lo hlo => (roll_bd jd).bind fun dr hdr => (anyOf_mem [2, 30] (by simp)).bind fun e he => ?_
 have hlo' : 0 ≤ lo ∧ lo ≤ 98 := by rcases mem3 hlo with h | h | h <;> omega
 have he' : 2 ≤ e ∧ e ≤ 30 := by rcases mem2 he with h | h <;> omega
 refine (mid_bd lo (min 100 (lo + e)) (by omega)).bind fun hi hhi => (orderD_perm mt.toNat).bind fun od hod => .ret ⟨?_, by simp only []; omega, by simp only []; omega, by simp only []; omega⟩
 have hl : od.length = mt.toNat := by rw [hod.length_eq]; simp
 have hr : scRange ⟨a, mt, jd, dr, lo, hi, od⟩ = true := by
  simp only [scRange, Bool.and_eq_true, inR_true]
  omega
 unfold chkSc
 rw [hr]
 simp only [Bool.not_true, Bool.false_eq_true, if_false]
 rw [if_neg (by omega), if_neg (by omega)]
 exact order_ok hod
noncomputable def marksC (s : Scale) : Nat → List Int → D (List Int)
 | 0, acc => dret acc
 | k + 1, acc => dbind (mid s.low s.high) fun m => dbind (anyOf [s.low, s.high, m]) fun x => marksC s k (acc ++ [x])
noncomputable def marksD (s : Scale) : D (List Int) := marksC s s.schools.toNat []
theorem marksC_ok {s : Scale} (h : s.low ≤ s.high) : ∀ (k : Nat) (acc : List Int), (∀ x, x ∈ acc → s.low ≤ x ∧ x ≤ s.high) → Holds (marksC s k acc) fun l => l.length = acc.length + k ∧ ∀ x, x ∈ l → s.low ≤ x ∧ x ≤ s.high := by
 intro k
 induction k with
 | zero => intro acc ha; exact .ret ⟨rfl, ha⟩
 | succ k ih =>
  intro acc ha
  refine (mid_bd s.low s.high h).bind fun m hm => (anyOf_mem [s.low, s.high, m] (by simp)).bind fun x hx => (ih (acc ++ [x]) fun y hy => ?_).mono fun l hl => ⟨by rw [hl.1]; simp; omega, hl.2⟩
  rcases List.mem_append.1 hy with hy | hy
  ·exact ha y hy
  simp only [List.mem_singleton] at hy
  subst hy
  rcases mem3 hx with h | h | h <;> omega
theorem marksD_ok {s : Scale} (hv : s.V) : Holds (marksD s) fun l => (l.length : Int) = s.schools ∧ ∀ x, x ∈ l → s.low ≤ x ∧ x ≤ s.high := by
 have q := hv.sc
 exact (marksC_ok hv.lh s.schools.toNat [] (fun x hx => by cases hx)).mono fun l hl => ⟨by rw [hl.1]; simp; omega, hl.2⟩
def sealedE (s : Scale) (m j : Int) (l : List Int) : Envl := ⟨m, j, l, (sealAns s (m, j) l).1⟩
set_option maxHeartbeats 8000000 in
theorem ScaleOf_pc (Y : YEnv) (σ : Sg) (d : Nat) (b : Int) (hd : σ.store[d]? = some (some [.int .u64 b])) (n : Int) (h1 : 1 ≤ n) (h2 : n ≤ 8) :
 PC Tryz.prog Y 5 [.ptr d 0, I n] σ (scPV (scaleD n b).1) (σ.setVar d [.int .u64 (scaleD n b).2]) := by
 refine PC_of_W Tryz.func5 rfl (by kernel_rfl) Tryz.ntmps5 (by simp) fun hcl hca => ?_
 have hlt := lt_of_get hd
 obtain ⟨a, ha⟩ : ∃ zz, (mid 1 n b).1 = zz := ⟨_, rfl⟩
 obtain ⟨b1, hb1⟩ : ∃ zz, (mid 1 n b).2 = zz := ⟨_, rfl⟩
 have da := mid_bd 1 n h1 b
 simp only [ha] at da
 obtain ⟨mt, hmt⟩ : ∃ zz, (mid 1 3 b1).1 = zz := ⟨_, rfl⟩
 obtain ⟨b2, hb2⟩ : ∃ zz, (mid 1 3 b1).2 = zz := ⟨_, rfl⟩
 have dmt := mid_bd 1 3 (by omega) b1
 simp only [hmt] at dmt
 obtain ⟨jd, hjd⟩ : ∃ zz, (mid 1 3 b2).1 = zz := ⟨_, rfl⟩
 obtain ⟨b3, hb3⟩ : ∃ zz, (mid 1 3 b2).2 = zz := ⟨_, rfl⟩
 have djd := mid_bd 1 3 (by omega) b2
 simp only [hjd] at djd
 obtain ⟨lo, hlo⟩ : ∃ zz, (anyOf [0, 70, 98] b3).1 = zz := ⟨_, rfl⟩
 obtain ⟨b4, hb4⟩ : ∃ zz, (anyOf [0, 70, 98] b3).2 = zz := ⟨_, rfl⟩
 have dlo := anyOf_mem [0, 70, 98] (by simp) b3
 simp only [hlo] at dlo
 obtain ⟨dr, hdr⟩ : ∃ zz, (roll jd b4).1 = zz := ⟨_, rfl⟩
 obtain ⟨b5, hb5⟩ : ∃ zz, (roll jd b4).2 = zz := ⟨_, rfl⟩
 have ddr := roll_bd jd b4
 simp only [hdr] at ddr
 obtain ⟨e, he⟩ : ∃ zz, (anyOf [2, 30] b5).1 = zz := ⟨_, rfl⟩
 obtain ⟨b6, hb6⟩ : ∃ zz, (anyOf [2, 30] b5).2 = zz := ⟨_, rfl⟩
 have de := anyOf_mem [2, 30] (by simp) b5
 simp only [he] at de
 have hlo' : 0 ≤ lo ∧ lo ≤ 98 := by rcases mem3 dlo with h | h | h <;> omega
 have he' : 2 ≤ e ∧ e ≤ 30 := by rcases mem2 de with h | h <;> omega
 obtain ⟨mtn, hmtn⟩ : ∃ z : Nat, mt = z := ⟨mt.toNat, by omega⟩
 subst hmtn
 obtain ⟨hi, hhi⟩ : ∃ zz, (mid lo (min 100 (lo + e)) b6).1 = zz := ⟨_, rfl⟩
 obtain ⟨b7, hb7⟩ : ∃ zz, (mid lo (min 100 (lo + e)) b6).2 = zz := ⟨_, rfl⟩
 have dhi := mid_bd lo (min 100 (lo + e)) (by omega) b6
 simp only [hhi] at dhi
 obtain ⟨od, hod⟩ : ∃ zz, (orderD mtn b7).1 = zz := ⟨_, rfl⟩
 obtain ⟨b8, hb8⟩ : ∃ zz, (orderD mtn b7).2 = zz := ⟨_, rfl⟩
 have dod := orderD_perm mtn b7
 simp only [hod] at dod
 have hmin : (if (100 : Int) ≤ lo + e then 100 else lo + e) = min 100 (lo + e) := by split <;> omega
 have hres : scaleD n b = (⟨a, mtn, jd, dr, lo, hi, od⟩, b8) := by
  simp only [scaleD, dbind, ha, hb1, hmt, hb2, hjd, hb3, hlo, hb4, hdr, hb5, he, hb6, hhi, hb7, Int.toNat_natCast, hod, hb8, dret]
 rw [hres]
 refine W_sr [0, 1, 4] fun R hR => ?_
 simp only [go_sem, ldS_at hd, stX_at hd, ldS_sv hlt, stX_sv hlt, sv_ext hlt, sv_ext_sv hlt, ha, hb1, hmt, hb2, hjd, hb3, hlo, hb4, hdr, hb5, he, hb6, hhi, hb7, hod, hb8]
 refine hR _ _ ?_; clear hR R
 try simp only [go_sem, ldS_at hd, stX_at hd, ldS_sv hlt, stX_sv hlt, sv_ext hlt, sv_ext_sv hlt, ha, hb1, hmt, hb2, hjd, hb3, hlo, hb4, hdr, hb5, he, hb6, hhi, hb7, hod, hb8]
 refine W_sr [0, 4, 5] fun R hR => ?_
 simp only [go_sem, ldS_at hd, stX_at hd, ldS_sv hlt, stX_sv hlt, sv_ext hlt, sv_ext_sv hlt, ha, hb1, hmt, hb2, hjd, hb3, hlo, hb4, hdr, hb5, he, hb6, hhi, hb7, hod, hb8]
 refine GCall_of (Mid_pc Y _ d b (by first | exact hd | exact sv_get hlt | exact get_svx hlt | exact get_extx hd) 1 n (by omega) (by omega) (by omega) (by omega)) ?_
 simp only [go_sem, ldS_at hd, stX_at hd, ldS_sv hlt, stX_sv hlt, sv_ext hlt, sv_ext_sv hlt, ha, hb1, hmt, hb2, hjd, hb3, hlo, hb4, hdr, hb5, he, hb6, hhi, hb7, hod, hb8]
 refine GCall_of (Mid_pc Y _ d b1 (by first | exact hd | exact sv_get hlt | exact get_svx hlt | exact get_extx hd) 1 3 (by omega) (by omega) (by omega) (by omega)) ?_
 simp only [go_sem, ldS_at hd, stX_at hd, ldS_sv hlt, stX_sv hlt, sv_ext hlt, sv_ext_sv hlt, ha, hb1, hmt, hb2, hjd, hb3, hlo, hb4, hdr, hb5, he, hb6, hhi, hb7, hod, hb8]
 refine GCall_of (Mid_pc Y _ d b2 (by first | exact hd | exact sv_get hlt | exact get_svx hlt | exact get_extx hd) 1 3 (by omega) (by omega) (by omega) (by omega)) ?_
 simp only [go_sem, ldS_at hd, stX_at hd, ldS_sv hlt, stX_sv hlt, sv_ext hlt, sv_ext_sv hlt, ha, hb1, hmt, hb2, hjd, hb3, hlo, hb4, hdr, hb5, he, hb6, hhi, hb7, hod, hb8]
 refine GCall_of (Any_pc Y _ d b3 (by first | exact hd | exact sv_get hlt | exact get_svx hlt | exact get_extx hd) [0, 70, 98] (by simp) (by simp)) ?_
 simp only [go_sem, ldS_at hd, stX_at hd, ldS_sv hlt, stX_sv hlt, sv_ext hlt, sv_ext_sv hlt, ha, hb1, hmt, hb2, hjd, hb3, hlo, hb4, hdr, hb5, he, hb6, hhi, hb7, hod, hb8]
 refine hR _ _ ?_; clear hR R
 try simp only [go_sem, ldS_at hd, stX_at hd, ldS_sv hlt, stX_sv hlt, sv_ext hlt, sv_ext_sv hlt, ha, hb1, hmt, hb2, hjd, hb3, hlo, hb4, hdr, hb5, he, hb6, hhi, hb7, hod, hb8]
 refine W_seq fun Z3 K3 => ?_
 have hmin2 : min (100 : Int) (lo + e) = min 100 (lo + e) := rfl
 refine W_draw [4, 5] [0, 1, 2, 3, 4, 5, 6, 7, 8, 9, 10, 11, 12, 13, 14, 15, 16, 17, 18, 19, 20, 21, 22, 23, 24] [(4, 3), (4, 14), (5, 3), (5, 14), (6, 3), (6, 14), (7, 3), (7, 14), (8, 3), (8, 14), (9, 3), (10, 3), (15, 3), (15, 11), (15, 14), (16, 3), (16, 11), (16, 14), (17, 3), (17, 11), (17, 14), (19, 11), (19, 14), (19, 18)] [[], [], [1], [0, 1, 2], [], [], [5], [], [7], [], [], [0, 1, 2, 3, 9, 10], [0, 1, 2, 3, 7, 8, 9, 10, 11], [0, 1, 2, 3, 7, 8, 9, 10, 11, 12], [0, 1, 2, 3, 4, 5, 6, 7, 8, 9, 10, 11, 12, 13], [], [], [16], [0, 1, 2, 3, 4, 5, 6, 7, 8, 9, 10, 11, 12, 13, 14, 15, 16, 17], [0, 1, 2, 3, 5, 6, 7, 8, 16, 17], [0, 1, 2, 3, 4, 5, 6, 7, 8, 9, 10, 11, 12, 13, 14, 15, 16, 17, 18, 19], [0, 1, 2, 3, 4, 5, 6, 7, 8, 9, 10, 11, 12, 13, 14, 15, 16, 17, 18, 19, 20], [0, 1, 2, 3, 4, 5, 6, 7, 8, 9, 10, 11, 12, 13, 14, 15, 16, 17, 18, 19, 20, 21], [0, 1, 2, 3, 4, 5, 6, 7, 8, 9, 10, 11, 12, 13, 14, 15, 16, 17, 18, 19, 20, 21, 22], [0, 1, 2, 3, 4, 5, 6, 7, 8, 9, 10, 11, 12, 13, 14, 15, 16, 17, 18, 19, 20, 21, 22, 23]] mixed (by kernel_rfl) fun R hR => ?_
 simp only [go_sem, ldS_at hd, stX_at hd, ldS_sv hlt, stX_sv hlt, sv_ext hlt, sv_ext_sv hlt, ha, hb1, hmt, hb2, hjd, hb3, hlo, hb4, hdr, hb5, he, hb6, hhi, hb7, hod, hb8]
 refine GCall_of (Roll_pc Y _ d b4 (by first | exact hd | exact sv_get hlt | exact get_svx hlt | exact get_extx hd) jd (by omega)) ?_
 simp only [go_sem, ldS_at hd, stX_at hd, ldS_sv hlt, stX_sv hlt, sv_ext hlt, sv_ext_sv hlt, ha, hb1, hmt, hb2, hjd, hb3, hlo, hb4, hdr, hb5, he, hb6, hhi, hb7, hod, hb8]
 refine GCall_of (Any_pc Y _ d b5 (by first | exact hd | exact sv_get hlt | exact get_svx hlt | exact get_extx hd) [2, 30] (by simp) (by simp)) ?_
 simp only [go_sem, ldS_at hd, stX_at hd, ldS_sv hlt, stX_sv hlt, sv_ext hlt, sv_ext_sv hlt, ha, hb1, hmt, hb2, hjd, hb3, hlo, hb4, hdr, hb5, he, hb6, hhi, hb7, hod, hb8]
 try simp (disch := omega) only [wrapI]
 try simp only [hmin, hmin2]
 try simp (disch := omega) only [wrapI, wrapU]
 refine GCall_of (Mid_pc Y _ d b6 (by first | exact hd | exact sv_get hlt | exact get_svx hlt | exact get_extx hd) lo (min 100 (lo + e)) (by omega) (by omega) (by omega) (by omega)) ?_
 simp only [go_sem, ldS_at hd, stX_at hd, ldS_sv hlt, stX_sv hlt, sv_ext hlt, sv_ext_sv hlt, ha, hb1, hmt, hb2, hjd, hb3, hlo, hb4, hdr, hb5, he, hb6, hhi, hb7, hod, hb8]
 try simp (disch := omega) only [wrapI, wrapU]
 refine GCall_of (Order_pc Y _ d b7 (by first | exact hd | exact sv_get hlt | exact get_svx hlt | exact get_extx hd) mtn (by omega)) ?_
 simp only [go_sem, ldS_at hd, stX_at hd, ldS_sv hlt, stX_sv hlt, sv_ext hlt, sv_ext_sv hlt, ha, hb1, hmt, hb2, hjd, hb3, hlo, hb4, hdr, hb5, he, hb6, hhi, hb7, hod, hb8]
 try simp (disch := omega) only [wrapI, wrapU]
 try refine And.intro (by repeat' (first | refine And.intro ?_ ?_ | exact GOr_right (fun _ => by simp only [go_sem, ldS_at hd, stX_at hd, ldS_sv hlt, stX_sv hlt, sv_ext hlt, sv_ext_sv hlt, ha, hb1, hmt, hb2, hjd, hb3, hlo, hb4, hdr, hb5, he, hb6, hhi, hb7, hod, hb8]))) ?_
 refine hR _ _ (K3 _ _ ?_); clear hR R; try clear K3 Z3
 try simp only [go_sem, ldS_at hd, stX_at hd, ldS_sv hlt, stX_sv hlt, sv_ext hlt, sv_ext_sv hlt, ha, hb1, hmt, hb2, hjd, hb3, hlo, hb4, hdr, hb5, he, hb6, hhi, hb7, hod, hb8]
 refine W_sr [4] fun R hR => ?_
 simp only [go_sem, ldS_at hd, stX_at hd, ldS_sv hlt, stX_sv hlt, sv_ext hlt, sv_ext_sv hlt, ha, hb1, hmt, hb2, hjd, hb3, hlo, hb4, hdr, hb5, he, hb6, hhi, hb7, hod, hb8]
 refine hR _ _ ?_; clear hR R
 try simp only [go_sem, ldS_at hd, stX_at hd, ldS_sv hlt, stX_sv hlt, sv_ext hlt, sv_ext_sv hlt, ha, hb1, hmt, hb2, hjd, hb3, hlo, hb4, hdr, hb5, he, hb6, hhi, hb7, hod, hb8]
 refine W_ret ?_
 simp only [go_sem, ldS_at hd, stX_at hd, ldS_sv hlt, stX_sv hlt, sv_ext hlt, sv_ext_sv hlt, ha, hb1, hmt, hb2, hjd, hb3, hlo, hb4, hdr, hb5, he, hb6, hhi, hb7, hod, hb8]
 refine ⟨.inr (by trivial), ?_⟩
 first | refine Fin_set hcl (by simp only [go_sem]) (by show resPV Tryz.prog _ _ [.cell 4 26] = some _; simp only [resPV, go_sem]; rfl) (Wk_eq ?_ (by simp only [go_sem])) | refine Fin_set0 hcl (by simp only [go_sem]) (by show resPV Tryz.prog _ _ [.cell 4 26] = some _; simp only [resPV, go_sem]; rfl) (Wk_eq ?_ (by simp only [go_sem]))
 try simp only [go_sem]
 all_goals
  skip
set_option maxHeartbeats 2000000 in
theorem MarksOf_pc (Y : YEnv) (σ : Sg) (d : Nat) (b : Int) (hd : σ.store[d]? = some (some [.int .u64 b])) (s : Scale) (hv : s.V) :
 PC Tryz.prog Y 9 [.ptr d 0, scPV s] σ (ints (marksD s b).1) (σ.setVar d [.int .u64 (marksD s b).2]) := by
 refine PC_of_W Tryz.func9 rfl (by kernel_rfl) Tryz.ntmps9 (by simp) fun hcl hca => ?_
 have hlt := lt_of_get hd
 have q3 := hv.sc
 have q4 := hv.lo
 have q5 := hv.hi
 have q6 := hv.lh
 obtain ⟨N, hN⟩ : ∃ z : Nat, s.schools = z := ⟨s.schools.toNat, by omega⟩
 have hNi : (s.schools : Int) = (N : Int) := hN
 obtain ⟨res, hres⟩ : ∃ r, marksD s b = r := ⟨_, rfl⟩
 rw [hres]
 unfold marksD at hres
 rw [hN, Int.toNat_natCast] at hres
 refine W_sr [0, 3] fun R hR => ?_
 simp only [go_sem, ldS_at hd, stX_at hd, ldS_sv hlt, stX_sv hlt, sv_ext hlt, sv_ext_sv hlt]
 refine hR _ _ ?_; clear hR R
 try simp only [go_sem, ldS_at hd, stX_at hd, ldS_sv hlt, stX_sv hlt, sv_ext hlt, sv_ext_sv hlt]
 refine W_sr [0, 3, 5] fun R hR => ?_
 simp only [go_sem, ldS_at hd, stX_at hd, ldS_sv hlt, stX_sv hlt, sv_ext hlt, sv_ext_sv hlt]
 refine hR _ _ ?_; clear hR R
 try simp only [go_sem, ldS_at hd, stX_at hd, ldS_sv hlt, stX_sv hlt, sv_ext hlt, sv_ext_sv hlt]
 refine W_seq fun Z3 K3 => ?_
 refine W_sr [0, 3, 5, 6] fun R hR => ?_
 simp only [go_sem, ldS_at hd, stX_at hd, ldS_sv hlt, stX_sv hlt, sv_ext hlt, sv_ext_sv hlt]
 refine hR _ _ ?_; clear hR R
 try simp only [go_sem, ldS_at hd, stX_at hd, ldS_sv hlt, stX_sv hlt, sv_ext hlt, sv_ext_sv hlt]
 refine W_block ?_
 refine W_weak (Weak.room (t := 5) (es := 1) rfl (by simp)) ?_
 refine W_weak (Weak.keep [0, 3, 5, 6]) ?_
 simp only [go_sem, ldS_at hd, stX_at hd, ldS_sv hlt, stX_sv hlt, sv_ext hlt, sv_ext_sv hlt]
 refine W_loopT (α := Nat × (List Int) × Int) (fun ⟨i, acc, b⟩ => [(5, .isl (acc.map I) (.tok σ.rooms.length acc.length 1)), (6, I i)]) (fun ⟨i, acc, b⟩ => (σ.setVar d [.int .u64 b]).ext [some (scCells s)] [acc.length]) (fun ⟨i, acc, b⟩ => i ≤ N ∧ acc.length = i ∧ res = marksC s (N - i) acc b) (fun ⟨i, acc, b⟩ => N - i) ((0, [], b)) rfl (by simp only [go_sem, sv_self hd]) (⟨Nat.zero_le _, rfl, hres.symm⟩) ?_
 rintro ⟨i, acc, b⟩ ⟨hi, hal, hinv⟩
 refine W_seq fun Z5 K5 => ?_
 refine W_sr [0, 3, 5, 6, 10] fun R hR => ?_
 simp only [go_sem, ldS_at hd, stX_at hd, ldS_sv hlt, stX_sv hlt, sv_ext hlt, sv_ext_sv hlt]
 refine hR _ _ ?_; clear hR R
 try simp only [go_sem, ldS_at hd, stX_at hd, ldS_sv hlt, stX_sv hlt, sv_ext hlt, sv_ext_sv hlt]
 refine W_cond rfl (fun c1 => ?_) (fun c1 => ?_)
 ·
  try simp only [nrm] at c1
  have hiN : i < N := by first | omega | (simp at c1; omega)
  rw [show N - i = (N - (i + 1)) + 1 by omega] at hinv
  simp only [marksC, dbind] at hinv
  obtain ⟨m, hm⟩ : ∃ zz, (mid s.low s.high b).1 = zz := ⟨_, rfl⟩
  obtain ⟨b1, hb1⟩ : ∃ zz, (mid s.low s.high b).2 = zz := ⟨_, rfl⟩
  have dm := mid_bd s.low s.high q6 b
  simp only [hm] at dm
  obtain ⟨x, hx⟩ : ∃ zz, (anyOf [s.low, s.high, m] b1).1 = zz := ⟨_, rfl⟩
  obtain ⟨b2, hb2⟩ : ∃ zz, (anyOf [s.low, s.high, m] b1).2 = zz := ⟨_, rfl⟩
  simp only [hm, hb1, hx, hb2] at hinv
  refine W_skip (K5 _ _ ?_)
  refine W_seq fun Z7 K7 => ?_
  refine W_block ?_
  refine W_draw [0, 3, 5, 6] [0, 1, 2, 3, 4, 5, 6, 7, 8, 9, 10, 11, 12, 13, 14, 15, 16] [(0, 13), (0, 15), (1, 13), (2, 13), (3, 13), (4, 13), (5, 13)] [[], [], [], [2], [], [4], [], [], [7], [], [9], [6, 7, 8, 9, 10], [2, 3, 4, 5, 6, 7, 8, 9, 10, 11], [1, 2, 3, 4, 5, 6, 7, 8, 9, 10, 11, 12], [1, 2, 3, 4, 5, 6, 7, 8, 9, 10, 11, 12, 13], [0, 1, 2, 3, 4, 5, 6, 7, 8, 9, 10, 11, 12, 13, 14], [0, 1, 2, 3, 4, 5, 6, 7, 8, 9, 10, 11, 12, 13, 14, 15]] mixed (by kernel_rfl) fun R hR => ?_
  simp only [go_sem, ldS_at hd, stX_at hd, ldS_sv hlt, stX_sv hlt, sv_ext hlt, sv_ext_sv hlt, hm, hb1, hx, hb2]
  refine GCall_of (Mid_pc Y _ d b (by first | exact hd | exact sv_get hlt | exact get_svx hlt | exact get_extx hd) s.low s.high (by omega) (by omega) (by omega) (by omega)) ?_
  simp only [go_sem, ldS_at hd, stX_at hd, ldS_sv hlt, stX_sv hlt, sv_ext hlt, sv_ext_sv hlt, hm, hb1, hx, hb2]
  refine GCall_of (Any_pc Y _ d b1 (by first | exact hd | exact sv_get hlt | exact get_svx hlt | exact get_extx hd) [s.low, s.high, m] (by simp) (by simp)) ?_
  simp only [go_sem, ldS_at hd, stX_at hd, ldS_sv hlt, stX_sv hlt, sv_ext hlt, sv_ext_sv hlt, hm, hb1, hx, hb2]
  try simp (disch := first | omega | (simp only [go_sem] <;> omega)) only [wrapI, wrapU, appX_exact, appX_tok]
  try simp only [go_sem, ldS_at hd, stX_at hd, ldS_sv hlt, stX_sv hlt, sv_ext hlt, sv_ext_sv hlt, hm, hb1, hx, hb2]
  try refine And.intro (by repeat' (first | refine And.intro ?_ ?_ | exact GOr_right (fun _ => by simp only [go_sem, ldS_at hd, stX_at hd, ldS_sv hlt, stX_sv hlt, sv_ext hlt, sv_ext_sv hlt, hm, hb1, hx, hb2]))) ?_
  refine hR _ _ (K7 _ _ ?_); clear hR R; try clear K7 Z7
  try simp only [go_sem, ldS_at hd, stX_at hd, ldS_sv hlt, stX_sv hlt, sv_ext hlt, sv_ext_sv hlt, hm, hb1, hx, hb2]
  refine W_region [0, 3, 5, 6] fun R hR => ?_
  simp only [go_sem, ldS_at hd, stX_at hd, ldS_sv hlt, stX_sv hlt, sv_ext hlt, sv_ext_sv hlt, hm, hb1, hx, hb2]
  try simp (disch := omega) only [wrapI, wrapU]
  refine hR _ _ ?_; clear hR R
  try simp only [go_sem, ldS_at hd, stX_at hd, ldS_sv hlt, stX_sv hlt, sv_ext hlt, sv_ext_sv hlt, hm, hb1, hx, hb2]
  refine ⟨(i + 1, acc ++ [x], b2), ?_, by (try simp only []); omega, ?_⟩
  ·first | exact Weak.refl | exact Wqq
  try dsimp only
  exact ⟨by omega, by simp [hal], hinv⟩
 try simp only [nrm] at c1
 have hie : N = i := by first | omega | (simp at c1; omega)
 subst hie
 rw [Nat.sub_self] at hinv
 simp only [marksC, dret] at hinv
 refine W_exit ?_
 simp only [go_sem, ldS_at hd, stX_at hd, ldS_sv hlt, stX_sv hlt, sv_ext hlt, sv_ext_sv hlt]
 refine K3 _ _ ?_
 refine W_sr [4] fun R hR => ?_
 simp only [go_sem, ldS_at hd, stX_at hd, ldS_sv hlt, stX_sv hlt, sv_ext hlt, sv_ext_sv hlt]
 refine hR _ _ ?_; clear hR R
 try simp only [go_sem, ldS_at hd, stX_at hd, ldS_sv hlt, stX_sv hlt, sv_ext hlt, sv_ext_sv hlt]
 refine W_ret ?_
 simp only [go_sem, ldS_at hd, stX_at hd, ldS_sv hlt, stX_sv hlt, sv_ext hlt, sv_ext_sv hlt]
 refine ⟨.inr (by trivial), ?_⟩
 rw [hinv]; refine Fin_set hcl (by simp only [go_sem]) rfl (Wk.ro (by simp only [go_sem]) ?_)
 try simp only [go_sem]
 all_goals
  simp only [go_sem]
set_option maxHeartbeats 2000000 in
theorem Sealed_pc (Y : YEnv) (σ : Sg) (s : Scale) (m j : Int) (l : List Int) (hl : l.length < 2 ^ 40) (hs : s.Ok) :
 PC Tryz.prog Y 8 [scPV s, I m, I j, ints l] σ (evPV (sealedE s m j l)) (σ) := by
 refine PC_of_W Tryz.func8 rfl (by kernel_rfl) Tryz.ntmps8 (by simp) fun hcl hca => ?_
 refine W_sr [1, 2, 3, 4, 8] fun R hR => ?_
 simp only [go_sem, sealedE]
 refine hR _ _ ?_; clear hR R
 try simp only [go_sem, sealedE]
 refine W_sr [1, 2, 3, 8, 9] fun R hR => ?_
 simp only [go_sem, sealedE]
 refine GCall_of (rSeal_pc Y _ s m j l .ro hl hs) ?_
 simp only [go_sem, sealedE]
 refine hR _ _ ?_; clear hR R
 try simp only [go_sem, sealedE]
 refine W_sr [8] fun R hR => ?_
 simp only [go_sem, sealedE]
 refine hR _ _ ?_; clear hR R
 try simp only [go_sem, sealedE]
 refine W_ret ?_
 simp only [go_sem, sealedE]
 refine ⟨.inr (by trivial), ?_⟩
 first | refine Fin_same hcl (by show resPV Tryz.prog _ _ [.cell 8 42] = some _; simp only [resPV, go_sem]; rfl) (Wk_eq ?_ (by simp only [go_sem])) | refine Fin_same hcl rfl (Wk_eq ?_ (by simp only [go_sem]))
 try simp only [go_sem]
 all_goals
  first | rfl | simp [sealedE]
theorem sealed_good {s : Scale} (hc : chkSc s = 0) {m j : Int} {l : List Int} (hj : ofSc s (m, j) = true) (hl : (l.length : Int) = s.schools ∧ ∀ x, x ∈ l → s.low ≤ x ∧ x ≤ s.high) : GoodE s (sealedE s m j l) := by
 have hm : marked s (m, j) l = 0 := marked_of hj hl.1 hl.2
 refine ⟨hm, ?_⟩
 show (sealAns s (m, j) l).1 = sealOf (m, j) l
 unfold sealAns
 rw [if_neg (by simp [hc]), if_neg (by simp [hm])]
section
variable {s : Scale} {dec : Bool} {m j : Nat} {here : Int} {op : List Envl} {ab : List (Int × Int)}
end
theorem sameE_of_nodup : ∀ {l : List Envl}, (l.map jdE).Nodup → SameE l := by
 intro l
 induction l with
 | nil => intro _ x hx; cases hx
 | cons a l ih =>
  intro h x hx y hy e
  rw [List.map_cons, List.nodup_cons] at h
  rcases List.mem_cons.1 hx with rfl | hx'
  ·rcases List.mem_cons.1 hy with rfl | hy
   ·rfl
   exact absurd (List.mem_map.2 ⟨y, hy, e.symm⟩) h.1
  rcases List.mem_cons.1 hy with rfl | hy
  ·exact absurd (List.mem_map.2 ⟨x, hx', e⟩) h.1
  exact ih h.2 x hx' y hy e
theorem NightV.ok {s : Scale} {n : Night} (h : NightV s n) : n.Ok := by
 have hv := Scale.v h.c
 have hs := hv.sc
 have h1 := h.o60
 have h2 := h.a60
 refine ⟨by omega, by omega, ?_, fun x hx => ?_⟩
 ·have := h.fi
  unfold finesE at this
  split at this
  ·cases this
  omega
 have := (marked_ok (h.op x hx).m).2.1
 omega
def lexlt : List Int → List Int → Prop
 | x :: xs, y :: ys => x < y ∨ (x = y ∧ lexlt xs ys)
 | _, _ => False
theorem lexlt_trans : ∀ {a b c : List Int}, lexlt a b → lexlt b c → lexlt a c := by
 intro a
 induction a with
 | nil => intro b c h; cases b <;> exact h.elim
 | cons x a ih =>
  intro b c h k
  cases b with
  | nil => exact h.elim
  | cons y b =>
   cases c with
   | nil => exact k.elim
   | cons z c =>
    rcases h with h | ⟨rfl, h⟩
    ·rcases k with k | ⟨rfl, k⟩
     ·exact .inl (by omega)
     exact .inl h
    rcases k with k | ⟨rfl, k⟩
    ·exact .inl k
    exact .inr ⟨rfl, ih h k⟩
theorem lexlt_irrefl : ∀ {a : List Int}, ¬ lexlt a a := by
 intro a
 induction a with
 | nil => exact fun h => h
 | cons x a ih =>
  rintro (h | ⟨_, h⟩)
  ·omega
  exact ih h
theorem lexlt_total : ∀ {a b : List Int}, a.length = b.length → lexlt a b ∨ a = b ∨ lexlt b a := by
 intro a
 induction a with
 | nil => intro b h; cases b with | nil => exact .inr (.inl rfl) | cons => simp at h
 | cons x a ih =>
  intro b h
  cases b with
  | nil => simp at h
  | cons y b =>
   rcases Int.lt_trichotomy x y with k | rfl | k
   ·exact .inl (.inl k)
   ·rcases ih (b := b) (by simpa using h) with k | rfl | k
    ·exact .inl (.inr ⟨rfl, k⟩)
    ·exact .inr (.inl rfl)
    exact .inr (.inr (.inr ⟨rfl, k⟩))
   exact .inr (.inr (.inl k))
/-- What is compared, number by number. -/
def keyS (ord : List Int) (x : Stand) : List Int := -x.total :: (ord.map (fun m => -ptAt x m) ++ [x.school])
theorem keyS_len (ord : List Int) (x : Stand) : (keyS ord x).length = ord.length + 2 := by simp [keyS]
theorem firstNZ_lex : ∀ {a b : List Int}, a.length = b.length → (firstNZ (List.zipWith (fun p q => p - q) a b) < 0 ↔ lexlt a b) := by
 intro a
 induction a with
 | nil => intro b h; simp [firstNZ, lexlt]
 | cons x a ih =>
  intro b h
  cases b with
  | nil => simp at h
  | cons y b =>
   simp only [List.zipWith_cons_cons, firstNZ, lexlt]
   split
   ·constructor
    ·intro k; exact .inl (by omega)
    rintro (k | ⟨k, _⟩)
    ·omega
    omega
   rw [ih (by simpa using h)]
   constructor
   ·intro k; exact .inr ⟨by omega, k⟩
   rintro (k | ⟨_, k⟩)
   ·omega
   exact k
theorem cmpRules_zip (ord : List Int) (a b : Stand) : cmpRules ord a b = List.zipWith (fun p q => p - q) (keyS ord a) (keyS ord b) := by
 unfold cmpRules keyS
 rw [List.zipWith_cons_cons]
 congr 1
 ·omega
 induction ord with
 | nil => simp
 | cons m ord ih =>
  simp only [List.map_cons, List.cons_append, List.zipWith_cons_cons]
  rw [ih]
  congr 1
  omega
/-- A stands ahead of b. -/
def Ahd (ord : List Int) (a b : Stand) : Prop := cmpSt ord a b < 0
instance (ord : List Int) (a b : Stand) : Decidable (Ahd ord a b) := inferInstanceAs (Decidable (cmpSt ord a b < 0))
theorem Ahd_lex {ord : List Int} {a b : Stand} : Ahd ord a b ↔ lexlt (keyS ord a) (keyS ord b) := by
 unfold Ahd cmpSt
 rw [cmpRules_zip, firstNZ_lex (by rw [keyS_len, keyS_len])]
theorem Ahd.trans {ord : List Int} {a b c : Stand} (h : Ahd ord a b) (k : Ahd ord b c) : Ahd ord a c := Ahd_lex.2 (lexlt_trans (Ahd_lex.1 h) (Ahd_lex.1 k))
theorem Ahd.irrefl {ord : List Int} {a : Stand} : ¬ Ahd ord a a := fun h => lexlt_irrefl (Ahd_lex.1 h)
theorem Ahd.asymm {ord : List Int} {a b : Stand} (h : Ahd ord a b) : ¬ Ahd ord b a := fun k => Ahd.irrefl (h.trans k)
theorem Ahd.total {ord : List Int} {a b : Stand} (h : a.school ≠ b.school) : Ahd ord a b ∨ Ahd ord b a := by
 rcases lexlt_total (a := keyS ord a) (b := keyS ord b) (by rw [keyS_len, keyS_len]) with k | k | k
 ·exact .inl (Ahd_lex.2 k)
 ·exfalso
  apply h
  unfold keyS at k
  simp only [List.cons.injEq] at k
  have := List.append_inj_right' k.2 rfl
  simpa using this
 exact .inr (Ahd_lex.2 k)
theorem not_ahd {ord : List Int} {a b : Stand} (h : a.school ≠ b.school) (k : ¬ Ahd ord a b) : Ahd ord b a := (Ahd.total h).resolve_left k
def insZ (x : Int) : List Int → List Int
 | [] => [x]
 | y :: l => if x ≤ y then x :: y :: l else y :: insZ x l
def isortZ : List Int → List Int
 | [] => []
 | x :: l => insZ x (isortZ l)
def Asc (l : List Int) : Prop := l.Pairwise (· ≤ ·)
theorem insZ_perm (x : Int) : ∀ l, (insZ x l).Perm (x :: l) := by
 intro l
 induction l with
 | nil => exact .refl _
 | cons y l ih =>
  simp only [insZ]
  split
  ·exact .refl _
  exact (List.Perm.cons y ih).trans (.swap x y l)
theorem isortZ_perm : ∀ l, (isortZ l).Perm l := by
 intro l
 induction l with
 | nil => exact .refl _
 | cons x l ih => exact (insZ_perm x _).trans (.cons x ih)
theorem insZ_asc (x : Int) : ∀ {l : List Int}, Asc l → Asc (insZ x l) := by
 intro l
 induction l with
 | nil => intro _; simp [insZ, Asc]
 | cons y l ih =>
  intro h
  obtain ⟨h1, h2⟩ := List.pairwise_cons.1 h
  simp only [insZ]
  split
  ·exact List.pairwise_cons.2 ⟨fun z hz => by
    rcases List.mem_cons.1 hz with rfl | hz
    ·assumption
    have := h1 z hz; omega, h⟩
  refine List.pairwise_cons.2 ⟨fun z hz => ?_, ih h2⟩
  rcases List.mem_cons.1 ((insZ_perm x l).mem_iff.1 hz) with rfl | hz
  ·omega
  exact h1 z hz
theorem isortZ_asc : ∀ l, Asc (isortZ l) := by
 intro l
 induction l with
 | nil => exact .nil
 | cons x l ih => exact insZ_asc x ih
theorem asc_perm : ∀ {a b : List Int}, a.Perm b → Asc a → Asc b → a = b := by
 intro a
 induction a with
 | nil => intro b h _ _; exact (List.nil_perm.1 h).symm
 | cons x a ih =>
  intro b h ha hb
  cases b with
  | nil => exact absurd h.length_eq (by simp)
  | cons y b =>
   obtain ⟨a1, a2⟩ := List.pairwise_cons.1 ha
   obtain ⟨b1, b2⟩ := List.pairwise_cons.1 hb
   have e : x = y := by
    have hx : x ∈ y :: b := h.mem_iff.1 (by simp)
    have hy : y ∈ x :: a := h.mem_iff.2 (by simp)
    rcases List.mem_cons.1 hx with rfl | hx
    ·rfl
    rcases List.mem_cons.1 hy with rfl | hy
    ·rfl
    have := a1 y hy; have := b1 x hx; omega
   subst e
   rw [ih (List.Perm.cons_inv h) a2 b2]
theorem sortI_isort (l : List Int) : sortI l = isortZ l := by
 refine asc_perm ((List.mergeSort_perm l _).trans (isortZ_perm l).symm) ?_ (isortZ_asc l)
 have := List.pairwise_mergeSort (le := fun x y : Int => decide (x ≤ y)) (by simp; omega) (by simp; omega) l
 exact this.imp (by simp)
section
variable {s : Scale} {k k' : Kn} {sc sc' m u v : Int}
end
section
variable {s : Scale} {k : Kn} {g : Night} {N : Nat}
end
/-- Is somebody there, matter by matter, after so many judges? -/
def thUp (k : Kn) (J M : Nat) : Nat → List Bool
 | 0 => List.replicate M false
 | t + 1 => (thUp k J M t).set (t / J) (((thUp k J M t)[t / J]?).getD false || !(absentK k ((t / J : Nat), (t % J : Nat))))
theorem thUp_len (k : Kn) (J M : Nat) : ∀ t, (thUp k J M t).length = M := by
 intro t
 induction t with
 | zero => simp [thUp]
 | succ t ih => simp [thUp, ih]
theorem idx_div {J m n : Nat} (hn : n < J) : (m * J + n) / J = m ∧ (m * J + n) % J = n := by
 have hJ : 0 < J := by omega
 constructor
 ·rw [Nat.add_comm, Nat.add_mul_div_right _ _ hJ, Nat.div_eq_of_lt hn, Nat.zero_add]
 rw [Nat.add_comm, Nat.add_mul_mod_self_right, Nat.mod_eq_of_lt hn]
theorem thUp_step (k : Kn) {J M m n : Nat} (hn : n < J) {b : Bool} (h : (thUp k J M (m * J + n))[m]? = some b) : thUp k J M (m * J + n + 1) = (thUp k J M (m * J + n)).set m (b || !(absentK k ((m : Int), (n : Int)))) := by
 obtain ⟨e1, e2⟩ := idx_div (m := m) hn
 simp only [thUp]
 rw [e1, e2, h]
 rfl
theorem thUp_get (k : Kn) {J M m : Nat} (hJ : 0 < J) (hm : m < M) : ∀ t, ∃ v, (thUp k J M t)[m]? = some v ∧ (v = true ↔ ∃ n, n < J ∧ m * J + n < t ∧ absentK k ((m : Int), (n : Int)) = false) := by
 intro t
 induction t with
 | zero => exact ⟨false, by simp [thUp, hm], by simp⟩
 | succ t ih =>
  obtain ⟨v, h1, h2⟩ := ih
  have ht : t = (t / J) * J + t % J := by rw [Nat.mul_comm]; exact (Nat.div_add_mod t J).symm
  have hmod : t % J < J := Nat.mod_lt _ hJ
  simp only [thUp]
  by_cases e : t / J = m
  ·rw [e, h1]
   rw [e] at ht
   refine ⟨v || !(absentK k ((m : Int), ((t % J : Nat) : Int))), by rw [List.getElem?_set_self (by rw [thUp_len]; exact hm)]; rfl, ?_⟩
   rw [Bool.or_eq_true, h2]
   constructor
   ·rintro (⟨n, a, b, c⟩ | h)
    ·exact ⟨n, a, by omega, c⟩
    exact ⟨t % J, hmod, by omega, by simpa using h⟩
   rintro ⟨n, a, b, c⟩
   by_cases q : m * J + n < t
   ·exact .inl ⟨n, a, q, c⟩
   have : n = t % J := by omega
   subst this
   exact .inr (by rw [c]; rfl)
  refine ⟨v, by rw [List.getElem?_set_ne e]; exact h1, ?_⟩
  rw [h2]
  constructor
  ·rintro ⟨n, a, b, c⟩
   exact ⟨n, a, by omega, c⟩
  rintro ⟨n, a, b, c⟩
  refine ⟨n, a, ?_, c⟩
  by_cases q : m * J + n = t
  ·have := (idx_div (m := m) a).1
   rw [q] at this
   exact absurd this e
  omega
theorem thUp_short (s : Scale) (k : Kn) {J M : Nat} (hM : s.matters = M) (hJ : s.judges = J) (hJ0 : 0 < J) : ((thUp k J M (M * J)).any fun x => decide (false = x)) = shortK s k := by
 rw [Bool.eq_iff_iff]
 simp only [shortK, toI, hM, hJ, Int.toNat_natCast, List.any_map, List.all_map, List.any_eq_true, List.all_eq_true, Function.comp, List.mem_range, decide_eq_true_eq]
 constructor
 ·rintro ⟨x, hx, rfl⟩
  obtain ⟨m, hm⟩ := List.mem_iff_getElem?.1 hx
  have hlt : m < M := by rw [← thUp_len k J M (M * J)]; exact (List.getElem?_eq_some_iff.1 hm).1
  obtain ⟨v, h1, h2⟩ := thUp_get k hJ0 hlt (M * J)
  rw [h1] at hm
  injection hm with hm
  subst hm
  refine ⟨m, hlt, fun n hn => ?_⟩
  cases ha : absentK k ((m : Int), (n : Int)) with
  | true => rfl
  | false =>
   have : m * J + J ≤ M * J := by rw [← Nat.succ_mul]; exact Nat.mul_le_mul_right _ hlt
   have := h2.2 ⟨n, hn, by omega, ha⟩
   cases this
 rintro ⟨m, hlt, h⟩
 obtain ⟨v, h1, h2⟩ := thUp_get k hJ0 hlt (M * J)
 refine ⟨v, List.mem_of_getElem? h1, ?_⟩
 cases v with
 | false => rfl
 | true =>
  obtain ⟨n, hn, _, ha⟩ := h2.1 rfl
  rw [h n hn] at ha
  cases ha
theorem knPos_nil : KnPos [] := fun e he => by cases he
theorem known_ok {s : Scale} {g : Night} (h : knownE s g = 0) : s.V ∧ ¬ (60 < (g.opened.length : Int)) ∧ (openK s g.opened []).1 = 0 ∧ ¬ (60 < (g.absent.length : Int)) ∧ (missK s g.absent (openK s g.opened []).2).1 = 0 ∧ shortK s (knownK s g) = false ∧ finesE s g.fines = 0 := by
 unfold knownE at h
 split at h
 ·rename_i h1; exact absurd h h1
 rename_i h1
 split at h
 ·cases h
 rename_i h2
 split at h
 ·rename_i h3; exact absurd h h3
 rename_i h3
 split at h
 ·cases h
 rename_i h4
 split at h
 ·rename_i h5; exact absurd h h5
 rename_i h5
 split at h
 ·cases h
 rename_i h6
 exact ⟨Scale.v (by omega), h2, by omega, h4, by omega, by simpa using h6, h⟩
set_option maxHeartbeats 2000000 in
theorem BindexM_pc (Y : YEnv) (σ : Sg) (l : List Bool) (v : Bool) (id n : Nat) (hd : σ.store[id]? = some (some (l.map PV.bool))) (hn : l.length = n) (hl : n < 2 ^ 40) :
 PC Tryz.prog Y 57 [.msl id 0 n, .bool v] σ (I (fIdx (fun x => decide (v = x)) 0 l)) (σ) := by
 refine PC_of_W Tryz.func57 rfl (by kernel_rfl) Tryz.ntmps57 (by simp) fun hcl hca => ?_
 obtain ⟨res, hres⟩ : ∃ r, fIdx (fun x => decide (v = x)) 0 l = r := ⟨_, rfl⟩
 rw [hres]
 refine W_sr [0, 1] fun R hR => ?_
 simp only [go_sem, beqB, ldS_at hd]
 refine hR _ _ ?_; clear hR R
 try simp only [go_sem, beqB, ldS_at hd]
 refine W_seq fun Z2 K2 => ?_
 refine W_sr [0, 1, 7, 8] fun R hR => ?_
 simp only [go_sem, beqB, ldS_at hd]
 refine hR _ _ ?_; clear hR R
 try simp only [go_sem, beqB, ldS_at hd]
 refine W_block ?_
 refine W_loopS (α := Nat) (fun (i : Nat) => [(8, I i)]) (fun (i : Nat) => i ≤ l.length ∧ res = fIdx (fun x => decide (v = x)) i (l.drop i)) (fun (i : Nat) => l.length - i) (0) rfl (⟨Nat.zero_le _, hres.symm⟩) ?_
 rintro i ⟨hi, hinv⟩
 refine W_sr [0, 1, 7, 8, 9] fun R hR => ?_
 simp only [go_sem, beqB, ldS_at hd]
 refine hR _ _ ?_; clear hR R
 try simp only [go_sem, beqB, ldS_at hd]
 refine W_seq fun Z5 K5 => ?_
 refine W_cond rfl (fun c1 => ?_) (fun c1 => ?_)
 ·
  try simp only [nrm] at c1
  have hi' : i < l.length := by first | assumption | omega
  obtain ⟨x, hx⟩ : ∃ x, l[i]? = some x := ⟨l[i], by simp [hi']⟩
  have hdrop : l.drop i = x :: l.drop (i + 1) := by
   rw [List.drop_eq_getElem_cons hi']; congr 1; exact (List.getElem?_eq_some_iff.1 hx).2
  rw [hdrop] at hinv
  simp only [fIdx] at hinv
  have hin : (i : Int) < (n : Int) := by omega
  refine W_skip (K5 _ _ ?_)
  refine W_seq fun Z6 K6 => ?_
  refine W_block ?_
  refine W_sr [0, 1, 5, 7, 8] fun R hR => ?_
  simp only [go_sem, beqB, ldS_at hd, hx]
  refine hR _ _ ?_; clear hR R
  try simp only [go_sem, beqB, ldS_at hd, hx]
  refine W_sr [0, 1, 5, 7, 8, 16] fun R hR => ?_
  simp only [go_sem, beqB, ldS_at hd, hx, hin, iaM_nat (Int.ofNat_lt.1 hin), Nat.mul_one, Nat.zero_add, List.getElem?_map]
  refine hR _ _ ?_; clear hR R
  try simp only [go_sem, beqB, ldS_at hd, hx]
  refine W_cond rfl (fun c2 => ?_) (fun c2 => ?_)
  ·
   try simp only [nrm] at c2
   refine W_sr [4] fun R hR => ?_
   simp only [go_sem, beqB, ldS_at hd, hx]
   refine hR _ _ ?_; clear hR R
   try simp only [go_sem, beqB, ldS_at hd, hx]
   refine W_ret ?_
   simp only [go_sem, beqB, ldS_at hd, hx]
   refine ⟨.inr (by trivial), ?_⟩
   first | refine Fsa hcl rfl ?_ | refine Fse hcl rfl ?_
   try simp only [go_sem]
   all_goals
    first | rfl | (simp_all; done) | (simp_all; omega)
  try simp only [nrm] at c2
  refine W_skip (K6 _ _ ?_)
  refine W_region [0, 1, 7, 8] fun R hR => ?_
  simp only [go_sem, beqB, ldS_at hd, hx]
  try simp (disch := omega) only [wrapI, wrapU]
  refine hR _ _ ?_; clear hR R
  try simp only [go_sem, beqB, ldS_at hd, hx]
  refine ⟨i + 1, ?_, by (try simp only []); omega, ?_⟩
  ·first | exact Weak.refl | exact Wqq
  try dsimp only
  exact ⟨hi', by simp_all⟩
 try simp only [nrm] at c1
 have hdrop : l.drop i = [] := List.drop_eq_nil_of_le (by omega)
 rw [hdrop] at hinv
 simp only [fIdx] at hinv
 refine W_exit ?_
 simp only [go_sem, beqB, ldS_at hd]
 refine K2 _ _ ?_
 refine W_sr [4] fun R hR => ?_
 simp only [go_sem, beqB, ldS_at hd]
 refine hR _ _ ?_; clear hR R
 try simp only [go_sem, beqB, ldS_at hd]
 refine W_ret ?_
 simp only [go_sem, beqB, ldS_at hd]
 refine ⟨.inr (by trivial), ?_⟩
 first | refine Fsa hcl rfl ?_ | refine Fse hcl rfl ?_
 try simp only [go_sem]
 all_goals
  first | rfl | (simp_all; done) | (simp_all; omega)
set_option maxHeartbeats 2000000 in
theorem BcontainsM_pc (Y : YEnv) (σ : Sg) (l : List Bool) (v : Bool) (id n : Nat) (hd : σ.store[id]? = some (some (l.map PV.bool))) (hn : l.length = n) (hl : n < 2 ^ 40) :
 PC Tryz.prog Y 37 [.msl id 0 n, .bool v] σ (.bool (l.any fun x => decide (v = x))) (σ) := by
 refine PC_of_W Tryz.func37 rfl (by kernel_rfl) Tryz.ntmps37 (by simp) fun hcl hca => ?_
 refine W_sr [0, 1] fun R hR => ?_
 simp only [go_sem]
 refine hR _ _ ?_; clear hR R
 try simp only [go_sem]
 refine W_sr [4] fun R hR => ?_
 simp only [go_sem]
 refine GCall_of (BindexM_pc Y _ l v id n hd hn hl) ?_
 simp only [go_sem]
 refine hR _ _ ?_; clear hR R
 try simp only [go_sem]
 refine W_ret ?_
 simp only [go_sem]
 refine ⟨.inr (by trivial), ?_⟩
 first | refine Fsa hcl rfl ?_ | refine Fse hcl rfl ?_
 try simp only [go_sem]
 all_goals
  simp only [fIdx_any, go_sem]
set_option maxHeartbeats 2000000 in
theorem knownOf_ok (Y : YEnv) (σ : Sg) (s : Scale) (g : Night) (hs : s.Ok) (hg : g.Ok) (hE : knownE s g = 0) :
 PC Tryz.prog Y 17 [scPV s, ngPV g] σ (.tuple [.map (σ.store.length + 2), I 0]) (σ.ext [some (scCells s), some (ngCells g), some (.mark :: knE (knownK s g))] []) := by
 refine PC_of_W Tryz.func17 rfl (by kernel_rfl) Tryz.ntmps17 (by simp) fun hcl hca => ?_
 obtain ⟨hv, h1, h2, h3, h4, h5, h6⟩ := known_ok hE
 have hC := hv.c
 have q1 := hv.mt
 have q2 := hv.jd
 obtain ⟨K, hK⟩ : ∃ z, knownK s g = z := ⟨_, rfl⟩
 have hK2 : (missK s g.absent (openK s g.opened []).2).2 = K := hK
 rw [hK] at h5 ⊢
 refine W_sr [2, 3] fun R hR => ?_
 simp only [go_sem, hC, h1, h2, h3, h4, h6, hK2]
 refine hR _ _ ?_; clear hR R
 try simp only [go_sem, hC, h1, h2, h3, h4, h6, hK2]
 refine W_seq fun Z2 K2 => ?_
 refine W_sr [2, 3, 6] fun R hR => ?_
 simp only [go_sem, hC, h1, h2, h3, h4, h6, hK2]
 refine GCall_of (Check_pc Y _ s hs) ?_
 simp only [go_sem, hC, h1, h2, h3, h4, h6, hK2]
 refine hR _ _ ?_; clear hR R
 try simp only [go_sem, hC, h1, h2, h3, h4, h6, hK2]
 refine W_sr [2, 3, 6, 16] fun R hR => ?_
 simp only [go_sem, hC, h1, h2, h3, h4, h6, hK2]
 refine hR _ _ ?_; clear hR R
 try simp only [go_sem, hC, h1, h2, h3, h4, h6, hK2]
 refine W_cond_false rfl ?_
 refine W_skip (K2 _ _ ?_)
 refine W_seq fun Z5 K5 => ?_
 refine W_sr [2, 3, 21] fun R hR => ?_
 simp only [go_sem, hC, h1, h2, h3, h4, h6, hK2]
 refine hR _ _ ?_; clear hR R
 try simp only [go_sem, hC, h1, h2, h3, h4, h6, hK2]
 refine W_cond_false rfl ?_
 refine W_skip (K5 _ _ ?_)
 refine W_sr [2, 3, 7] fun R hR => ?_
 simp only [go_sem, hC, h1, h2, h3, h4, h6, hK2]
 refine hR _ _ ?_; clear hR R
 try simp only [go_sem, hC, h1, h2, h3, h4, h6, hK2]
 refine W_seq fun Z8 K8 => ?_
 refine W_sr [2, 3, 7, 8] fun R hR => ?_
 simp only [go_sem, hC, h1, h2, h3, h4, h6, hK2]
 refine GCall_of (open_pc Y _ (σ.store.length + 2) [] (Sg.get_ext ..) s g.opened hv knPos_nil (fun e he => by cases he) hg.ho hg.hm) ?_
 simp only [go_sem, hC, h1, h2, h3, h4, h6, hK2]
 refine hR _ _ ?_; clear hR R
 try simp only [go_sem, hC, h1, h2, h3, h4, h6, hK2]
 refine W_sr [2, 3, 7, 8, 29] fun R hR => ?_
 simp only [go_sem, hC, h1, h2, h3, h4, h6, hK2]
 refine hR _ _ ?_; clear hR R
 try simp only [go_sem, hC, h1, h2, h3, h4, h6, hK2]
 refine W_cond_false rfl ?_
 refine W_skip (K8 _ _ ?_)
 refine W_seq fun Z11 K11 => ?_
 refine W_sr [2, 3, 7, 34] fun R hR => ?_
 simp only [go_sem, hC, h1, h2, h3, h4, h6, hK2]
 refine hR _ _ ?_; clear hR R
 try simp only [go_sem, hC, h1, h2, h3, h4, h6, hK2]
 refine W_cond_false rfl ?_
 refine W_skip (K11 _ _ ?_)
 refine W_seq fun Z13 K13 => ?_
 refine W_sr [2, 3, 7, 9] fun R hR => ?_
 simp only [go_sem, hC, h1, h2, h3, h4, h6, hK2]
 refine GCall_of (miss_pc Y _ (σ.store.length + 2) (openK s g.opened []).2 (Sg.get_ext ..) s g.absent hv hg.ha) ?_
 simp only [go_sem, hC, h1, h2, h3, h4, h6, hK2]
 refine hR _ _ ?_; clear hR R
 try simp only [go_sem, hC, h1, h2, h3, h4, h6, hK2]
 refine W_sr [2, 3, 7, 9, 41] fun R hR => ?_
 simp only [go_sem, hC, h1, h2, h3, h4, h6, hK2]
 refine hR _ _ ?_; clear hR R
 try simp only [go_sem, hC, h1, h2, h3, h4, h6, hK2]
 refine W_cond_false rfl ?_
 refine W_skip (K13 _ _ ?_)
 refine W_seq fun Z16 K16 => ?_
 obtain ⟨M0, hM0⟩ : ∃ z : Nat, s.matters = z := ⟨s.matters.toNat, by omega⟩
 have mk112h : ∀ {τ : Sg}, makePV Tryz.prog τ 101 (I s.matters) (I s.matters) = some (.msl τ.store.length 0 s.matters.toNat, τ.push ((List.replicate s.matters.toNat false).map PV.bool)) := fun {τ} => by
  rw [hM0]; exact mk101 (by omega)
 refine W_region [2, 3, 7, 10] fun R hR => ?_
 simp only [go_sem, hC, h1, h2, h3, h4, h6, hK2, mk112h]
 refine hR _ _ (K16 _ _ ?_); clear hR R; try clear K16 Z16
 try simp only [go_sem, hC, h1, h2, h3, h4, h6, hK2]
 refine W_seq fun Z17 K17 => ?_
 refine W_sr [2, 3, 7, 10, 47] fun R hR => ?_
 simp only [go_sem, hC, h1, h2, h3, h4, h6, hK2]
 refine GCall_of (judges_pc Y _ s) ?_
 simp only [go_sem, hC, h1, h2, h3, h4, h6, hK2]
 refine hR _ _ ?_; clear hR R
 try simp only [go_sem, hC, h1, h2, h3, h4, h6, hK2]
 refine W_block ?_
 obtain ⟨M, hM⟩ : ∃ z : Nat, s.matters = z := ⟨s.matters.toNat, by omega⟩
 obtain ⟨J, hJ⟩ : ∃ z : Nat, s.judges = z := ⟨s.judges.toNat, by omega⟩
 have hMt : s.matters.toNat = M := by omega
 have hMb : M < 2 ^ 40 := by omega
 have hJb : J < 2 ^ 40 := by omega
 let L : List Bool → List (Option (List PV)) := fun p => [some (scCells s), some (ngCells g), some (.mark :: knE K), some [.map (σ.store.length + 2)], some (p.map PV.bool), some [.msl (σ.store.length + 4) 0 M], some (scCells s)]
 let so : Nat → Sg := fun t => σ.ext (L (thUp K J M t)) [] [.ready]
 have hLc : ∀ p (n r y : Nat), σ.store.length + 7 ≤ n → CleanLs n r y (L p) := fun p n r y h1 => by
  have c1 := cleans_ng (a := n) (b := r) (c := y) g
  have c2 := cleans_sc (a := n) (b := r) (c := y) s
  refine CleanL_cons c2 (CleanL_cons c1 ?_)
  have c3 : CleanAll n r y (knE K) := cA_kn.mpr trivial
  have c4 : CleanAll n r y (p.map PV.bool) := fun q hq => by obtain ⟨x, _, rfl⟩ := List.mem_map.1 hq; exact .bool _
  show CleanLs _ _ _ _
  simp only [CleanLs_cons, CleanLs_nil, CleanAll_cons, CleanAll_nil, Cl_map, Cl_mark, Cl_msl, c3, c4, true_and, and_true]
  refine ⟨by omega, by omega, ?_⟩
  intro q hq
  exact c2 q hq
 try simp only [hMt]
 refine W_rangeFunc (gf := 63) (v := .tuple []) (s := .ready) (σ5 := so (M * J)) rfl (by simp) (fun args τ b' τ' => ∃ m n : Nat, m < M ∧ n < J ∧ args = [.agg [I m, I n]] ∧ b' = true ∧ τ = so (m * J + n) ∧ τ' = so (m * J + n + 1)) ?_ ?_ ?_ ?_ ?_
 ·rintro args τ b τ' ⟨m, n, hm, hn, rfl, rfl, rfl, rfl⟩
  refine ⟨rfl, ?_, ?_⟩
  ·simp only [so, go_sem]
  simp only [so, L, go_sem]
  refine W_region [7, 10, 11] fun R hR => ?_
  simp only [go_sem, hC, h1, h2, h3, h4, h6, hK2, putAll]
  refine hR _ _ ?_; clear hR R
  try simp only [go_sem, hC, h1, h2, h3, h4, h6, hK2, putAll]
  obtain ⟨tt, htt⟩ : ∃ z, thUp K J M (m * J + n) = z := ⟨_, rfl⟩
  have htl : tt.length = M := by rw [← htt]; exact thUp_len _ _ _ _
  obtain ⟨b0, hb0⟩ : ∃ z, tt[m]? = some z := ⟨tt[m]'(by omega), by simp⟩
  have hstep := thUp_step K (J := J) (M := M) (m := m) hn (b := b0) (by rw [htt]; exact hb0)
  rw [htt] at hstep
  try rw [hstep]
  try simp only [htt, hstep]
  have hm1 : m + 1 ≤ tt.length := by omega
  have hmI : (m : Int) < (M : Int) := by omega
  refine W_post_weak ?_
  refine W_block ?_
  refine W_draw [] [0, 1, 2, 3, 4, 5, 6, 7, 8, 9, 10, 11, 12, 13, 14, 15] [(0, 15), (1, 15), (2, 15)] [[], [], [1], [], [], [4], [3, 4, 5], [3, 4, 5, 6], [3, 4, 5, 6, 7], [3, 4, 5, 6, 7, 8], [3, 4, 5, 6, 7, 8], [3, 4, 5, 6, 7, 8, 9, 10], [3, 4, 5, 6, 7, 8, 9, 10, 11], [3, 4, 5, 6, 7, 8, 9, 10, 11, 12], [0, 1, 2, 3, 4, 5, 6, 7, 8, 9, 10, 11, 12, 13], [0, 1, 2, 3, 4, 5, 6, 7, 8, 9, 10, 11, 12, 13, 14]] mixed (by kernel_rfl) fun R hR => ?_
  simp only [go_sem, hC, h1, h2, h3, h4, h6, hK2, putAll, hmI, iaM_nat hm, hb0, Nat.mul_one, Nat.zero_add, hm1, List.getElem?_map]
  refine GWant_split (fun g1 => ?_) (fun g1 => ?_)
  ·try simp only [Bool.not_eq_true', Bool.not_eq_false'] at g1
   have n1 := g1; try simp only [nrm] at n1
   simp only [go_sem, hC, h1, h2, h3, h4, h6, hK2, putAll, hmI, iaM_nat hm, hb0, Nat.mul_one, Nat.zero_add, hm1, List.getElem?_map, g1]
   refine GCall_of (absent_pc Y _ (σ.store.length + 2) K (Sg.get_ext ..) ((m : Int), (n : Int))) ?_
   simp only [go_sem, hC, h1, h2, h3, h4, h6, hK2, putAll, hmI, iaM_nat hm, hb0, Nat.mul_one, Nat.zero_add, hm1, List.getElem?_map, g1]
   try refine And.intro (by repeat' (first | refine And.intro ?_ ?_ | exact GOr_right (fun _ => by simp only [go_sem, hC, h1, h2, h3, h4, h6, hK2, putAll, hmI, iaM_nat hm, hb0, Nat.mul_one, Nat.zero_add, hm1, List.getElem?_map]))) ?_
   refine hR _ _ ?_; clear hR R
   try simp only [go_sem, hC, h1, h2, h3, h4, h6, hK2, putAll]
   refine ⟨[], _, Weak.cutExt 7 0 (Nat.le_refl _) (Nat.le_refl _) hcl ?_ Wk.nil_get, ?_⟩
   ·exact hLc _ _ _ _ (by simp only [L, go_sem] <;> omega)
   simp only [hstep, RoundEnd, go_sem]
   cases b0 <;> simp_all
  try simp only [Bool.not_eq_true', Bool.not_eq_false'] at g1
  have n1 := g1; try simp only [nrm] at n1
  simp only [go_sem, hC, h1, h2, h3, h4, h6, hK2, putAll, hmI, iaM_nat hm, hb0, Nat.mul_one, Nat.zero_add, hm1, List.getElem?_map, g1]
  try refine And.intro (by repeat' (first | refine And.intro ?_ ?_ | exact GOr_right (fun _ => by simp only [go_sem, hC, h1, h2, h3, h4, h6, hK2, putAll, hmI, iaM_nat hm, hb0, Nat.mul_one, Nat.zero_add, hm1, List.getElem?_map]))) ?_
  refine hR _ _ ?_; clear hR R
  try simp only [go_sem, hC, h1, h2, h3, h4, h6, hK2, putAll]
  refine ⟨[], _, Weak.cutExt 7 0 (Nat.le_refl _) (Nat.le_refl _) hcl ?_ Wk.nil_get, ?_⟩
  ·exact hLc _ _ _ _ (by simp only [L, go_sem] <;> omega)
  simp only [hstep, RoundEnd, go_sem]
  cases b0 <;> simp_all
 ·have hst := judges1_pc (Y.at σ.ys.length (fun args τ b' τ' => ∃ m n : Nat, m < M ∧ n < J ∧ args = [.agg [I m, I n]] ∧ b' = true ∧ τ = so (m * J + n) ∧ τ' = so (m * J + n + 1))) σ σ.ys.length (σ.store.length + 6) s so M J (M * J) false hM hJ hMb hJb
   (fun t _ => by simp only [so, L]; exact Sg.get_ext ..) (Nat.le_refl _) (fun _ => rfl) (fun h => by cases h)
   (fun m n h1 h2 _ => by rw [YEnv.at_self]; exact ⟨m, n, h1, h2, rfl, rfl, rfl, rfl⟩) (by simp only [so, L, go_sem]) (by simp only [so, L, go_sem]) (by simp only [so, L, go_sem])
   (fun _ => CleanSg_ext hcl (by refine hLc _ _ _ _ ?_; simp only [L, go_sem] <;> omega))
  have e0 : so 0 = σ.ext (L (List.replicate M false)) [] [.ready] := rfl
  rw [e0] at hst
  simp only [L, go_sem] at hst ⊢
  exact hst
 ·simp only [so, L, go_sem]
 ·simp only [go_sem]
  exact CleanCut_ext hcl (by simp only [so, L, go_sem] <;> omega) (by simp only [so, L, go_sem, Nat.le_add_right]) (by omega) (by refine hLc _ _ _ _ ?_; simp only [so, L, go_sem] <;> omega)
 simp only [AfterLoop, so, L, go_sem]
 have hsh := thUp_short s K hM hJ (by omega)
 have htl := thUp_len K J M (M * J)
 generalize thUp K J M (M * J) = tt at hsh htl ⊢
 refine K17 _ _ ?_
 refine W_seq fun Z19 K19 => ?_
 refine W_sr [2, 3, 7, 65] fun R hR => ?_
 simp only [go_sem, hC, h1, h2, h3, h4, h6, hK2, hsh, h5]
 refine GCall_of (BcontainsM_pc Y _ tt false (σ.store.length + 4) M (Sg.get_ext ..) htl (by omega)) ?_
 simp only [go_sem, hC, h1, h2, h3, h4, h6, hK2, hsh, h5]
 refine hR _ _ ?_; clear hR R
 try simp only [go_sem, hC, h1, h2, h3, h4, h6, hK2]
 refine W_cond_false rfl ?_
 refine W_skip (K19 _ _ ?_)
 refine W_seq fun Z21 K21 => ?_
 refine W_sr [7, 12] fun R hR => ?_
 simp only [go_sem, hC, h1, h2, h3, h4, h6, hK2]
 refine GCall_of (fines_pc Y _ s g.fines hv hg.hf) ?_
 simp only [go_sem, hC, h1, h2, h3, h4, h6, hK2]
 refine hR _ _ ?_; clear hR R
 try simp only [go_sem, hC, h1, h2, h3, h4, h6, hK2]
 refine W_sr [7, 12, 71] fun R hR => ?_
 simp only [go_sem, hC, h1, h2, h3, h4, h6, hK2]
 refine hR _ _ ?_; clear hR R
 try simp only [go_sem, hC, h1, h2, h3, h4, h6, hK2]
 refine W_cond_false rfl ?_
 refine W_skip (K21 _ _ ?_)
 refine W_sr [4, 5] fun R hR => ?_
 simp only [go_sem, hC, h1, h2, h3, h4, h6, hK2]
 refine hR _ _ ?_; clear hR R
 try simp only [go_sem, hC, h1, h2, h3, h4, h6, hK2]
 refine W_ret ?_
 simp only [go_sem, hC, h1, h2, h3, h4, h6, hK2]
 refine ⟨.inr (by trivial), ?_⟩
 exact Fin_ext 3 0 hcl rfl (Wk_eq rfl (by simp only [go_sem] <;> omega)) (by show CleanLs _ _ _ _; simp only [go_sem])
 try simp only [go_sem]
 all_goals
  skip
set_option maxHeartbeats 2000000 in
theorem knownOf_err (Y : YEnv) (σ : Sg) (s : Scale) (g : Night) (hs : s.Ok) (hg : g.Ok) (hE : knownE s g ≠ 0) :
 PC Tryz.prog Y 17 [scPV s, ngPV g] σ (.tuple [.nilmap, I (knownE s g)]) (σ) := by
 refine PC_of_W Tryz.func17 rfl (by kernel_rfl) Tryz.ntmps17 (by simp) fun hcl hca => ?_
 obtain ⟨res, hres⟩ : ∃ r, knownE s g = r := ⟨_, rfl⟩
 rw [hres]
 refine W_sr [2, 3] fun R hR => ?_
 simp only [go_sem]
 refine hR _ _ ?_; clear hR R
 try simp only [go_sem]
 refine W_seq fun Z2 K2 => ?_
 refine W_sr [2, 3, 6] fun R hR => ?_
 simp only [go_sem]
 refine GCall_of (Check_pc Y _ s hs) ?_
 simp only [go_sem]
 refine hR _ _ ?_; clear hR R
 try simp only [go_sem]
 refine W_sr [2, 3, 6, 16] fun R hR => ?_
 simp only [go_sem]
 refine hR _ _ ?_; clear hR R
 try simp only [go_sem]
 refine W_cond rfl (fun c1 => ?_) (fun c1 => ?_)
 ·
  try simp only [nrm] at c1
  refine W_sr [4, 5] fun R hR => ?_
  simp only [go_sem]
  refine hR _ _ ?_; clear hR R
  try simp only [go_sem]
  refine W_ret ?_
  simp only [go_sem]
  refine ⟨.inr (by trivial), ?_⟩
  first | refine Fsa hcl rfl ?_ | refine Fse hcl rfl ?_
  try simp only [go_sem]
  all_goals
   rw [← hres]; clear hres hE; simp [knownE, *]
 try simp only [nrm] at c1
 have hv := Scale.v c1
 have q1 := hv.mt
 have q2 := hv.jd
 obtain ⟨K, hK⟩ : ∃ z, knownK s g = z := ⟨_, rfl⟩
 have hK2 : (missK s g.absent (openK s g.opened []).2).2 = K := hK
 refine W_skip (K2 _ _ ?_)
 refine W_seq fun Z6 K6 => ?_
 refine W_sr [2, 3, 21] fun R hR => ?_
 simp only [go_sem]
 refine hR _ _ ?_; clear hR R
 try simp only [go_sem]
 refine W_cond rfl (fun c2 => ?_) (fun c2 => ?_)
 ·
  try simp only [nrm] at c2
  refine W_sr [4, 5] fun R hR => ?_
  simp only [go_sem]
  refine hR _ _ ?_; clear hR R
  try simp only [go_sem]
  refine W_ret ?_
  simp only [go_sem]
  refine ⟨.inr (by trivial), ?_⟩
  first | refine Fsa hcl rfl ?_ | refine Fse hcl rfl ?_
  try simp only [go_sem]
  all_goals
   rw [← hres]; clear hres hE; simp [knownE, *]
 try simp only [nrm] at c2
 refine W_skip (K6 _ _ ?_)
 refine W_sr [2, 3, 7] fun R hR => ?_
 simp only [go_sem]
 refine hR _ _ ?_; clear hR R
 try simp only [go_sem]
 refine W_seq fun Z10 K10 => ?_
 refine W_sr [2, 3, 7, 8] fun R hR => ?_
 simp only [go_sem]
 refine GCall_of (open_pc Y _ (σ.store.length + 2) [] (Sg.get_ext ..) s g.opened hv knPos_nil (fun e he => by cases he) hg.ho hg.hm) ?_
 simp only [go_sem]
 refine hR _ _ ?_; clear hR R
 try simp only [go_sem]
 refine W_sr [2, 3, 7, 8, 29] fun R hR => ?_
 simp only [go_sem]
 refine hR _ _ ?_; clear hR R
 try simp only [go_sem]
 refine W_cond rfl (fun c3 => ?_) (fun c3 => ?_)
 ·
  try simp only [nrm] at c3
  refine W_sr [4, 5] fun R hR => ?_
  simp only [go_sem]
  refine hR _ _ ?_; clear hR R
  try simp only [go_sem]
  refine W_ret ?_
  simp only [go_sem]
  refine ⟨.inr (by trivial), ?_⟩
  first | refine Fsa hcl rfl ?_ | refine Fse hcl rfl ?_
  try simp only [go_sem]
  all_goals
   rw [← hres]; clear hres hE; simp [knownE, *]
 try simp only [nrm] at c3
 refine W_skip (K10 _ _ ?_)
 refine W_seq fun Z14 K14 => ?_
 refine W_sr [2, 3, 7, 34] fun R hR => ?_
 simp only [go_sem]
 refine hR _ _ ?_; clear hR R
 try simp only [go_sem]
 refine W_cond rfl (fun c4 => ?_) (fun c4 => ?_)
 ·
  try simp only [nrm] at c4
  refine W_sr [4, 5] fun R hR => ?_
  simp only [go_sem]
  refine hR _ _ ?_; clear hR R
  try simp only [go_sem]
  refine W_ret ?_
  simp only [go_sem]
  refine ⟨.inr (by trivial), ?_⟩
  first | refine Fsa hcl rfl ?_ | refine Fse hcl rfl ?_
  try simp only [go_sem]
  all_goals
   rw [← hres]; clear hres hE; simp [knownE, *]
 try simp only [nrm] at c4
 refine W_skip (K14 _ _ ?_)
 refine W_seq fun Z17 K17 => ?_
 refine W_sr [2, 3, 7, 9] fun R hR => ?_
 simp only [go_sem]
 refine GCall_of (miss_pc Y _ (σ.store.length + 2) (openK s g.opened []).2 (Sg.get_ext ..) s g.absent hv hg.ha) ?_
 simp only [go_sem]
 refine hR _ _ ?_; clear hR R
 try simp only [go_sem]
 refine W_sr [2, 3, 7, 9, 41] fun R hR => ?_
 simp only [go_sem]
 refine hR _ _ ?_; clear hR R
 try simp only [go_sem]
 refine W_cond rfl (fun c5 => ?_) (fun c5 => ?_)
 ·
  try simp only [nrm] at c5
  refine W_sr [4, 5] fun R hR => ?_
  simp only [go_sem]
  refine hR _ _ ?_; clear hR R
  try simp only [go_sem]
  refine W_ret ?_
  simp only [go_sem]
  refine ⟨.inr (by trivial), ?_⟩
  first | refine Fsa hcl rfl ?_ | refine Fse hcl rfl ?_
  try simp only [go_sem]
  all_goals
   rw [← hres]; clear hres hE; simp [knownE, *]
 try simp only [nrm] at c5
 simp only [hK2]
 refine W_skip (K17 _ _ ?_)
 refine W_seq fun Z21 K21 => ?_
 obtain ⟨M0, hM0⟩ : ∃ z : Nat, s.matters = z := ⟨s.matters.toNat, by omega⟩
 have mk112h : ∀ {τ : Sg}, makePV Tryz.prog τ 101 (I s.matters) (I s.matters) = some (.msl τ.store.length 0 s.matters.toNat, τ.push ((List.replicate s.matters.toNat false).map PV.bool)) := fun {τ} => by
  rw [hM0]; exact mk101 (by omega)
 refine W_region [2, 3, 7, 10] fun R hR => ?_
 simp only [go_sem, hK2, mk112h]
 refine hR _ _ (K21 _ _ ?_); clear hR R; try clear K21 Z21
 try simp only [go_sem, hK2]
 refine W_seq fun Z22 K22 => ?_
 refine W_sr [2, 3, 7, 10, 47] fun R hR => ?_
 simp only [go_sem, hK2]
 refine GCall_of (judges_pc Y _ s) ?_
 simp only [go_sem, hK2]
 refine hR _ _ ?_; clear hR R
 try simp only [go_sem, hK2]
 refine W_block ?_
 obtain ⟨M, hM⟩ : ∃ z : Nat, s.matters = z := ⟨s.matters.toNat, by omega⟩
 obtain ⟨J, hJ⟩ : ∃ z : Nat, s.judges = z := ⟨s.judges.toNat, by omega⟩
 have hMt : s.matters.toNat = M := by omega
 have hMb : M < 2 ^ 40 := by omega
 have hJb : J < 2 ^ 40 := by omega
 let L : List Bool → List (Option (List PV)) := fun p => [some (scCells s), some (ngCells g), some (.mark :: knE K), some [.map (σ.store.length + 2)], some (p.map PV.bool), some [.msl (σ.store.length + 4) 0 M], some (scCells s)]
 let so : Nat → Sg := fun t => σ.ext (L (thUp K J M t)) [] [.ready]
 have hLc : ∀ p (n r y : Nat), σ.store.length + 7 ≤ n → CleanLs n r y (L p) := fun p n r y h1 => by
  have c1 := cleans_ng (a := n) (b := r) (c := y) g
  have c2 := cleans_sc (a := n) (b := r) (c := y) s
  refine CleanL_cons c2 (CleanL_cons c1 ?_)
  have c3 : CleanAll n r y (knE K) := cA_kn.mpr trivial
  have c4 : CleanAll n r y (p.map PV.bool) := fun q hq => by obtain ⟨x, _, rfl⟩ := List.mem_map.1 hq; exact .bool _
  show CleanLs _ _ _ _
  simp only [CleanLs_cons, CleanLs_nil, CleanAll_cons, CleanAll_nil, Cl_map, Cl_mark, Cl_msl, c3, c4, true_and, and_true]
  refine ⟨by omega, by omega, ?_⟩
  intro q hq
  exact c2 q hq
 try simp only [hMt]
 refine W_rangeFunc (gf := 63) (v := .tuple []) (s := .ready) (σ5 := so (M * J)) rfl (by simp) (fun args τ b' τ' => ∃ m n : Nat, m < M ∧ n < J ∧ args = [.agg [I m, I n]] ∧ b' = true ∧ τ = so (m * J + n) ∧ τ' = so (m * J + n + 1)) ?_ ?_ ?_ ?_ ?_
 ·rintro args τ b τ' ⟨m, n, hm, hn, rfl, rfl, rfl, rfl⟩
  refine ⟨rfl, ?_, ?_⟩
  ·simp only [so, go_sem]
  simp only [so, L, go_sem]
  refine W_region [7, 10, 11] fun R hR => ?_
  simp only [go_sem, hK2, putAll]
  refine hR _ _ ?_; clear hR R
  try simp only [go_sem, hK2, putAll]
  obtain ⟨tt, htt⟩ : ∃ z, thUp K J M (m * J + n) = z := ⟨_, rfl⟩
  have htl : tt.length = M := by rw [← htt]; exact thUp_len _ _ _ _
  obtain ⟨b0, hb0⟩ : ∃ z, tt[m]? = some z := ⟨tt[m]'(by omega), by simp⟩
  have hstep := thUp_step K (J := J) (M := M) (m := m) hn (b := b0) (by rw [htt]; exact hb0)
  rw [htt] at hstep
  try rw [hstep]
  try simp only [htt, hstep]
  have hm1 : m + 1 ≤ tt.length := by omega
  have hmI : (m : Int) < (M : Int) := by omega
  refine W_post_weak ?_
  refine W_block ?_
  refine W_draw [] [0, 1, 2, 3, 4, 5, 6, 7, 8, 9, 10, 11, 12, 13, 14, 15] [(0, 15), (1, 15), (2, 15)] [[], [], [1], [], [], [4], [3, 4, 5], [3, 4, 5, 6], [3, 4, 5, 6, 7], [3, 4, 5, 6, 7, 8], [3, 4, 5, 6, 7, 8], [3, 4, 5, 6, 7, 8, 9, 10], [3, 4, 5, 6, 7, 8, 9, 10, 11], [3, 4, 5, 6, 7, 8, 9, 10, 11, 12], [0, 1, 2, 3, 4, 5, 6, 7, 8, 9, 10, 11, 12, 13], [0, 1, 2, 3, 4, 5, 6, 7, 8, 9, 10, 11, 12, 13, 14]] mixed (by kernel_rfl) fun R hR => ?_
  simp only [go_sem, hK2, putAll, hmI, iaM_nat hm, hb0, Nat.mul_one, Nat.zero_add, hm1, List.getElem?_map]
  refine GWant_split (fun g1 => ?_) (fun g1 => ?_)
  ·try simp only [Bool.not_eq_true', Bool.not_eq_false'] at g1
   have n1 := g1; try simp only [nrm] at n1
   simp only [go_sem, hK2, putAll, hmI, iaM_nat hm, hb0, Nat.mul_one, Nat.zero_add, hm1, List.getElem?_map, g1]
   refine GCall_of (absent_pc Y _ (σ.store.length + 2) K (Sg.get_ext ..) ((m : Int), (n : Int))) ?_
   simp only [go_sem, hK2, putAll, hmI, iaM_nat hm, hb0, Nat.mul_one, Nat.zero_add, hm1, List.getElem?_map, g1]
   try refine And.intro (by repeat' (first | refine And.intro ?_ ?_ | exact GOr_right (fun _ => by simp only [go_sem, hK2, putAll, hmI, iaM_nat hm, hb0, Nat.mul_one, Nat.zero_add, hm1, List.getElem?_map]))) ?_
   refine hR _ _ ?_; clear hR R
   try simp only [go_sem, hK2, putAll]
   refine ⟨[], _, Weak.cutExt 7 0 (Nat.le_refl _) (Nat.le_refl _) hcl ?_ Wk.nil_get, ?_⟩
   ·exact hLc _ _ _ _ (by simp only [L, go_sem] <;> omega)
   simp only [hstep, RoundEnd, go_sem]
   cases b0 <;> simp_all
  try simp only [Bool.not_eq_true', Bool.not_eq_false'] at g1
  have n1 := g1; try simp only [nrm] at n1
  simp only [go_sem, hK2, putAll, hmI, iaM_nat hm, hb0, Nat.mul_one, Nat.zero_add, hm1, List.getElem?_map, g1]
  try refine And.intro (by repeat' (first | refine And.intro ?_ ?_ | exact GOr_right (fun _ => by simp only [go_sem, hK2, putAll, hmI, iaM_nat hm, hb0, Nat.mul_one, Nat.zero_add, hm1, List.getElem?_map]))) ?_
  refine hR _ _ ?_; clear hR R
  try simp only [go_sem, hK2, putAll]
  refine ⟨[], _, Weak.cutExt 7 0 (Nat.le_refl _) (Nat.le_refl _) hcl ?_ Wk.nil_get, ?_⟩
  ·exact hLc _ _ _ _ (by simp only [L, go_sem] <;> omega)
  simp only [hstep, RoundEnd, go_sem]
  cases b0 <;> simp_all
 ·have hst := judges1_pc (Y.at σ.ys.length (fun args τ b' τ' => ∃ m n : Nat, m < M ∧ n < J ∧ args = [.agg [I m, I n]] ∧ b' = true ∧ τ = so (m * J + n) ∧ τ' = so (m * J + n + 1))) σ σ.ys.length (σ.store.length + 6) s so M J (M * J) false hM hJ hMb hJb
   (fun t _ => by simp only [so, L]; exact Sg.get_ext ..) (Nat.le_refl _) (fun _ => rfl) (fun h => by cases h)
   (fun m n h1 h2 _ => by rw [YEnv.at_self]; exact ⟨m, n, h1, h2, rfl, rfl, rfl, rfl⟩) (by simp only [so, L, go_sem]) (by simp only [so, L, go_sem]) (by simp only [so, L, go_sem])
   (fun _ => CleanSg_ext hcl (by refine hLc _ _ _ _ ?_; simp only [L, go_sem] <;> omega))
  have e0 : so 0 = σ.ext (L (List.replicate M false)) [] [.ready] := rfl
  rw [e0] at hst
  simp only [L, go_sem] at hst ⊢
  exact hst
 ·simp only [so, L, go_sem]
 ·simp only [go_sem]
  exact CleanCut_ext hcl (by simp only [so, L, go_sem] <;> omega) (by simp only [so, L, go_sem, Nat.le_add_right]) (by omega) (by refine hLc _ _ _ _ ?_; simp only [so, L, go_sem] <;> omega)
 simp only [AfterLoop, so, L, go_sem]
 have hsh := thUp_short s K hM hJ (by omega)
 have htl := thUp_len K J M (M * J)
 generalize thUp K J M (M * J) = tt at hsh htl ⊢
 refine K22 _ _ ?_
 refine W_seq fun Z24 K24 => ?_
 refine W_sr [2, 3, 7, 65] fun R hR => ?_
 simp only [go_sem, hK2, hsh]
 refine GCall_of (BcontainsM_pc Y _ tt false (σ.store.length + 4) M (Sg.get_ext ..) htl (by omega)) ?_
 simp only [go_sem, hK2, hsh]
 refine hR _ _ ?_; clear hR R
 try simp only [go_sem, hK2]
 refine W_cond rfl (fun c6 => ?_) (fun c6 => ?_)
 ·
  try simp only [nrm] at c6
  refine W_sr [4, 5] fun R hR => ?_
  simp only [go_sem, hK2]
  refine hR _ _ ?_; clear hR R
  try simp only [go_sem, hK2]
  refine W_ret ?_
  simp only [go_sem, hK2]
  refine ⟨.inr (by trivial), ?_⟩
  first | refine Fsa hcl rfl ?_ | refine Fse hcl rfl ?_
  try simp only [go_sem]
  all_goals
   rw [← hres]; clear hres hE; simp [knownE, *]
 try simp only [nrm] at c6
 refine W_skip (K24 _ _ ?_)
 refine W_seq fun Z27 K27 => ?_
 refine W_sr [7, 12] fun R hR => ?_
 simp only [go_sem, hK2]
 refine GCall_of (fines_pc Y _ s g.fines hv hg.hf) ?_
 simp only [go_sem, hK2]
 refine hR _ _ ?_; clear hR R
 try simp only [go_sem, hK2]
 refine W_sr [7, 12, 71] fun R hR => ?_
 simp only [go_sem, hK2]
 refine hR _ _ ?_; clear hR R
 try simp only [go_sem, hK2]
 refine W_cond rfl (fun c7 => ?_) (fun c7 => ?_)
 ·
  try simp only [nrm] at c7
  refine W_sr [4, 5] fun R hR => ?_
  simp only [go_sem, hK2]
  refine hR _ _ ?_; clear hR R
  try simp only [go_sem, hK2]
  refine W_ret ?_
  simp only [go_sem, hK2]
  refine ⟨.inr (by trivial), ?_⟩
  first | refine Fsa hcl rfl ?_ | refine Fse hcl rfl ?_
  try simp only [go_sem]
  all_goals
   rw [← hres]; clear hres hE; simp [knownE, *]
 try simp only [nrm] at c7
 exfalso
 apply hE
 clear hres hE
 simp [knownE, *]
end Go.Proofs.YtpkkegbiddcodaaGreat.Mk
