/-
  Walks: scales, judges, marks, seals (marks).
  Walks: what is known of judges (marks).
  What is known of a night: by its envelopes and its absences. The plain law.
  Numbers that follow from numbers (bateriakit): the drum.
  Walks: drums made of numbers, spans (bateriakit).
  A slice of numbers that grows in place in a variable's cell, is sorted, compacted, and read at last.
  Walks: an order made of numbers (bateriakit).
  Walks: scales and seals, as the document has them.
  Walks: scales, marks, envelopes made of numbers (bateriakit).
-/
import Derived.Test.YtgelnjmddabgpaaPc
import Derived.CallsIn
import Derived.RangeFuncLeaves
import Derived.RangeFuncRecord
import Derived.OrdersIn
import Derived.Below
import Derived.Laws.World
import Derived.Laws.StructEq
import Derived.Laws.Append
import Derived.MapKept
import Derived.ProofKit
import Derived.Carry
import Derived.Handed
import Derived.ChangeCalls
import Derived.RangeFuncIn
import Derived.RangeFuncNested
import Derived.Test.YtgelnjmddabgpaaProg
import Derived.KernelRfl
import Derived.IntWalk
import Derived.Test.YtgelnjmddabgpaaRows
import Derived.Sort.OwnSortedInts
import Derived.Lib.SlicesCompact
import Derived.Shelf.Sort.Plain
import Derived.Shelf.Slices.In.SortNone
import Derived.Shelf.Small.Bits
import Derived.JoinedOf
set_option linter.unusedSimpArgs false
set_option linter.unusedVariables false
namespace Go.Proofs.Ytgelnjmddabgpaa
open Go Go.RowKit
set_option maxRecDepth 100000
theorem ncmp_neq {l : List Int} : nilCmp Try.prog .neq 22 (mkPV l) = some (.bool (!l.isEmpty)) := by simp only [nilCmp, nilmk, Option.map_some]
theorem ncmp_eql {l : List Int} : nilCmp Try.prog .eql 22 (mkPV l) = some (.bool l.isEmpty) := by simp only [nilCmp, nilmk, Option.map_some]
attribute [go_sem] ncmp_neq ncmp_eql
theorem inR_true {n lo hi : Int} : inR n lo hi = true ↔ lo ≤ n ∧ n ≤ hi := by simp [inR]
theorem ofSc_true {s : Scale} {j : Int × Int} : ofSc s j = true ↔ (0 ≤ j.1 ∧ j.1 ≤ s.matters - 1) ∧ (0 ≤ j.2 ∧ j.2 ≤ s.judges - 1) := by simp [ofSc, inR_true]
structure Scale.V (s : Scale) : Prop where
  sc : 1 ≤ s.schools ∧ s.schools ≤ 8
  mt : 1 ≤ s.matters ∧ s.matters ≤ 6
  jd : 1 ≤ s.judges ∧ s.judges ≤ 5
  dr : 0 ≤ s.drop ∧ s.drop ≤ s.judges - 1
  lo : 0 ≤ s.low ∧ s.low ≤ 100
  hi : 0 ≤ s.high ∧ s.high ≤ 100
  lh : s.low ≤ s.high
  ol : (s.order.length : Int) = s.matters
  od : chkOrd s.matters [] s.order = 0
  c : chkSc s = 0
structure Scale.Ok (s : Scale) : Prop where
  ho : s.order.length < 2 ^ 40
theorem Scale.v {s : Scale} (h : chkSc s = 0) : s.V := by
  have h0 := h
  unfold chkSc at h
  by_cases h1 : scRange s = true
  · rw [h1] at h
    simp only [Bool.not_true, Bool.false_eq_true, if_false] at h
    split at h
    · omega
    · split at h
      · omega
      · rename_i h2 h3
        simp only [scRange, Bool.and_eq_true, inR_true] at h1
        exact ⟨h1.1, h1.2.1, h1.2.2.1, h1.2.2.2.1, h1.2.2.2.2.1, h1.2.2.2.2.2, by omega, by simpa using h3, h, h0⟩
  · have : scRange s = false := by simpa using h1
    rw [this] at h
    simp at h
theorem marked_ok {s : Scale} {j : Int × Int} {l : List Int} (h : marked s j l = 0) : ofSc s j = true ∧ (l.length : Int) = s.schools ∧ ∀ x, x ∈ l → s.low ≤ x ∧ x ≤ s.high := by
  unfold marked at h
  by_cases h1 : ofSc s j = true
  · rw [h1] at h
    simp only [Bool.not_true, Bool.false_eq_true, if_false] at h
    split at h
    · omega
    · split at h
      · omega
      · rename_i h2 h3
        refine ⟨h1, by simpa using h2, fun x hx => ?_⟩
        simp only [outMarks, List.any_eq_true, not_exists, not_and, Bool.not_eq_true', Bool.not_eq_false] at h3
        exact inR_true.1 (h3 x hx)
  · have : ofSc s j = false := by simpa using h1
    rw [this] at h
    simp at h
theorem marked_of {s : Scale} {j : Int × Int} {l : List Int} (h1 : ofSc s j = true) (h2 : (l.length : Int) = s.schools) (h3 : ∀ x, x ∈ l → s.low ≤ x ∧ x ≤ s.high) : marked s j l = 0 := by
  unfold marked
  rw [h1, if_neg (by simp), if_neg (by omega), if_neg]
  simp only [outMarks, List.any_eq_true, not_exists, not_and, Bool.not_eq_true', Bool.not_eq_false]
  exact fun x hx => inR_true.2 (h3 x hx)
/-- The first place of a number, or -1. -/
def fIdx {α : Type} (q : α → Bool) : Nat → List α → Int
  | _, [] => -1
  | i, x :: l => if q x then (i : Int) else fIdx q (i + 1) l
theorem fIdx_anyi {α : Type} (q : α → Bool) : ∀ (l : List α) (i : Nat), decide (0 ≤ fIdx q i l) = l.any q := by
  intro l
  induction l with
  | nil => intro i; simp [fIdx]
  | cons x l ih =>
    intro i
    by_cases h : q x = true
    · have e : fIdx q i (x :: l) = (i : Int) := by simp only [fIdx]; rw [if_pos h]
      rw [e]; simp [h]
    · have e : fIdx q i (x :: l) = fIdx q (i + 1) l := by simp only [fIdx]; rw [if_neg h]
      rw [e, ih (i + 1), List.any_cons]
      have h' : q x = false := by simpa using h
      rw [h', Bool.false_or]
theorem has_comm (l : List Int) (v : Int) : (l.any fun x => decide (v = x)) = has l v := by
  unfold has
  congr 1
  funext x
  rw [Bool.eq_iff_iff]
  simp [eq_comm]
theorem fIdx_any {α : Type} (q : α → Bool) (l : List α) : decide (0 ≤ fIdx q 0 l) = l.any q := fIdx_anyi q l 0
theorem beqB {a b : Bool} : eqPV Try.prog 4 (.bool a) (.bool b) = some (decide (a = b)) := by cases a <;> cases b <;> kernel_rfl
set_option maxHeartbeats 2000000 in
theorem in_pc (Y : YEnv) (σ : Sg) (n lo hi : Int) :
    PC Try.prog Y 40 [I n, I lo, I hi] σ (.bool (inR n lo hi)) (σ) := by
  refine PC_of_W Try.func40 rfl (by kernel_rfl) Try.ntmps40 (by simp) fun hcl hca => ?_
  refine W_seq fun kz1 kq1 => ?_
  refine W_region [0, 1, 2] fun R hR => ?_   -- r0
  simp only [go_sem]
  refine hR _ _ (kq1 _ _ ?_); clear hR R; try clear kq1 kz1
  try simp only [go_sem]
  refine W_seq fun kz2 kq2 => ?_
  refine W_region [6] fun R hR => ?_   -- r1
  simp only [go_sem]
  refine GWant_split (fun g1 => ?_) (fun g1 => ?_)
  · try simp only [Bool.not_eq_true', Bool.not_eq_false'] at g1
    have n1 := g1; try simp only [nrm] at n1
    simp only [go_sem, g1]
    refine hR _ _ (kq2 _ _ ?_); clear hR R; try clear kq2 kz2
    try simp only [go_sem]
    refine W_ret ?_
    simp only [go_sem]
    refine ⟨.inr (by trivial), ?_⟩
    first | refine Fin_same hcl rfl (Wk_eq ?_ (by simp only [go_sem])) | refine Fin_self hcl rfl (Wk_eq ?_ (by simp only [go_sem]))
    try simp only [go_sem]
    all_goals
      simp [inR, *]
  · try simp only [Bool.not_eq_true', Bool.not_eq_false'] at g1
    have n1 := g1; try simp only [nrm] at n1
    simp only [go_sem, g1]
    refine hR _ _ (kq2 _ _ ?_); clear hR R; try clear kq2 kz2
    try simp only [go_sem]
    refine W_ret ?_
    simp only [go_sem]
    refine ⟨.inr (by trivial), ?_⟩
    first | refine Fin_same hcl rfl (Wk_eq ?_ (by simp only [go_sem])) | refine Fin_self hcl rfl (Wk_eq ?_ (by simp only [go_sem]))
    try simp only [go_sem]
    all_goals
      simp [inR, *]
set_option maxHeartbeats 2000000 in
theorem index_pc (Y : YEnv) (σ : Sg) (l : List Int) (o : Own) (v : Int) (hl : l.length < 2 ^ 62) :
    PC Try.prog Y 92 [intsO o l, I v] σ (I (fIdx (fun x => decide (v = x)) 0 l)) (σ) := by
  refine PC_of_W Try.func92 rfl (by kernel_rfl) Try.ntmps92 (by simp) fun hcl hca => ?_
  refine W_seq fun kz1 kq1 => ?_
  refine W_region [0, 1] fun R hR => ?_   -- r0
  simp only [go_sem]
  refine hR _ _ (kq1 _ _ ?_); clear hR R; try clear kq1 kz1
  try simp only [go_sem]
  refine W_seq fun kz2 kq2 => ?_
  refine W_seq fun kz3 kq3 => ?_
  refine W_region [0, 1, 7, 8] fun R hR => ?_   -- r1
  simp only [go_sem]
  refine hR _ _ (kq3 _ _ ?_); clear hR R; try clear kq3 kz3
  try simp only [go_sem]
  refine W_block ?_
  refine W_loopS (α := Nat) (fun (i : Nat) => [(8, I i)]) (fun (i : Nat) => i ≤ l.length ∧ fIdx (fun x => decide (v = x)) i (l.drop i) = fIdx (fun x => decide (v = x)) 0 l) (fun (i : Nat) => l.length - i) (0) rfl (⟨Nat.zero_le _, rfl⟩) ?_
  rintro i ⟨hi, hinv⟩
  refine W_seq fun kz4 kq4 => ?_
  refine W_region [0, 1, 7, 8, 9] fun R hR => ?_   -- r2
  simp only [go_sem]
  refine hR _ _ (kq4 _ _ ?_); clear hR R; try clear kq4 kz4
  try simp only [go_sem]
  refine W_seq fun kz5 kq5 => ?_
  refine W_cond rfl (fun c1 => ?_) (fun c1 => ?_)
  · -- c1 true
    try simp only [nrm] at c1
    have hi' : i < l.length := by first | assumption | omega
    obtain ⟨x, hx⟩ : ∃ x, l[i]? = some x := ⟨l[i], by simp [hi']⟩
    have hdrop : l.drop i = x :: l.drop (i + 1) := by
      rw [List.drop_eq_getElem_cons hi']; congr 1; exact (List.getElem?_eq_some_iff.1 hx).2
    rw [hdrop] at hinv
    simp only [fIdx] at hinv
    refine W_skip (kq5 _ _ ?_)
    refine W_seq fun kz6 kq6 => ?_
    refine W_block ?_
    refine W_seq fun kz7 kq7 => ?_
    refine W_region [0, 1, 5, 7, 8] fun R hR => ?_   -- r3
    simp only [go_sem, hx]
    refine hR _ _ (kq7 _ _ ?_); clear hR R; try clear kq7 kz7
    try simp only [go_sem, hx]
    refine W_seq fun kz8 kq8 => ?_
    refine W_region [0, 1, 5, 7, 8, 16] fun R hR => ?_   -- r4
    simp only [go_sem, hx]
    refine hR _ _ (kq8 _ _ ?_); clear hR R; try clear kq8 kz8
    try simp only [go_sem, hx]
    refine W_cond rfl (fun c2 => ?_) (fun c2 => ?_)
    · -- c2 true
      try simp only [nrm] at c2
      refine W_seq fun kz9 kq9 => ?_
      refine W_region [4] fun R hR => ?_   -- r5
      simp only [go_sem, hx]
      refine hR _ _ (kq9 _ _ ?_); clear hR R; try clear kq9 kz9
      try simp only [go_sem, hx]
      refine W_ret ?_
      simp only [go_sem, hx]
      refine ⟨.inr (by trivial), ?_⟩
      first | refine Fin_same hcl rfl (Wk_eq ?_ (by simp only [go_sem])) | refine Fin_self hcl rfl (Wk_eq ?_ (by simp only [go_sem]))
      try simp only [go_sem]
      all_goals
        first | rfl | (simp_all; done) | (simp_all; omega)
    · -- c2 false
      try simp only [nrm] at c2
      refine W_skip (kq6 _ _ ?_)
      refine W_region [0, 1, 7, 8] fun R hR => ?_   -- r6
      simp only [go_sem, hx]
      try simp (disch := omega) only [wrapI, wrapU]
      refine hR _ _ ?_; clear hR R
      try simp only [go_sem, hx]
      refine ⟨i + 1, ?_, by (try simp only []); omega, ?_⟩
      · first | exact Weak.refl | exact Weak.eq (by first | rfl | (simp only [go_sem]; done) | (simp only [go_sem]; rfl) | (simp [go_sem]; done) | (simp [go_sem]; omega)) (by first | rfl | (simp only [go_sem]; done) | (simp [go_sem]; done))
      · try dsimp only
        exact ⟨hi', by simp_all⟩
  · -- c1 false
    try simp only [nrm] at c1
    have hdrop : l.drop i = [] := List.drop_eq_nil_of_le (by omega)
    rw [hdrop] at hinv
    simp only [fIdx] at hinv
    refine W_exit ?_
    simp only [go_sem]
    refine kq2 _ _ ?_
    refine W_seq fun kz10 kq10 => ?_
    refine W_region [4] fun R hR => ?_   -- r7
    simp only [go_sem]
    refine hR _ _ (kq10 _ _ ?_); clear hR R; try clear kq10 kz10
    try simp only [go_sem]
    refine W_ret ?_
    simp only [go_sem]
    refine ⟨.inr (by trivial), ?_⟩
    first | refine Fin_same hcl rfl (Wk_eq ?_ (by simp only [go_sem])) | refine Fin_self hcl rfl (Wk_eq ?_ (by simp only [go_sem]))
    try simp only [go_sem]
    all_goals
      first | rfl | (simp_all; done) | (simp_all; omega)
set_option maxHeartbeats 2000000 in
theorem contains_pc (Y : YEnv) (σ : Sg) (l : List Int) (o : Own) (v : Int) (hl : l.length < 2 ^ 62) :
    PC Try.prog Y 73 [intsO o l, I v] σ (.bool (has l v)) (σ) := by
  refine PC_of_W Try.func73 rfl (by kernel_rfl) Try.ntmps73 (by simp) fun hcl hca => ?_
  refine W_seq fun kz1 kq1 => ?_
  refine W_region [0, 1] fun R hR => ?_   -- r0
  simp only [go_sem]
  refine hR _ _ (kq1 _ _ ?_); clear hR R; try clear kq1 kz1
  try simp only [go_sem]
  refine W_seq fun kz2 kq2 => ?_
  refine W_region [4] fun R hR => ?_   -- r1
  simp only [go_sem]
  refine GCall_of (index_pc Y _ l o v hl) ?_   -- t7
  simp only [go_sem]
  refine hR _ _ (kq2 _ _ ?_); clear hR R; try clear kq2 kz2
  try simp only [go_sem]
  refine W_ret ?_
  simp only [go_sem]
  refine ⟨.inr (by trivial), ?_⟩
  first | refine Fin_same hcl rfl (Wk_eq ?_ (by simp only [go_sem])) | refine Fin_self hcl rfl (Wk_eq ?_ (by simp only [go_sem]))
  try simp only [go_sem]
  all_goals
    simp only [fIdx_any, has_comm, go_sem]
set_option maxHeartbeats 4000000 in
theorem Check_pc (Y : YEnv) (σ : Sg) (s : Scale) (hs : s.Ok) :
    PC Try.prog Y 50 [scPV s] σ (I (chkSc s)) (σ) := by
  refine PC_of_W Try.func50 rfl (by kernel_rfl) Try.ntmps50 (by simp) fun hcl hca => ?_
  have ho := hs.ho
  obtain ⟨res, hres⟩ : ∃ r, chkSc s = r := ⟨_, rfl⟩
  rw [hres]
  refine W_seq fun kz1 kq1 => ?_
  refine W_region [1] fun R hR => ?_   -- r0
  simp only [go_sem]
  refine hR _ _ (kq1 _ _ ?_); clear hR R; try clear kq1 kz1
  try simp only [go_sem]
  refine W_seq fun kz2 kq2 => ?_
  refine W_block ?_
  refine W_seq fun kz3 kq3 => ?_
  refine W_seq fun kz4 kq4 => ?_
  refine W_region [1, 5] fun R hR => ?_   -- r1
  simp only [go_sem]
  refine GCall_of (in_pc Y _ s.schools 1 8) ?_   -- t8
  simp only [go_sem]
  refine hR _ _ (kq4 _ _ ?_); clear hR R; try clear kq4 kz4
  try simp only [go_sem]
  refine W_cond rfl (fun c1 => ?_) (fun c1 => ?_)
  · -- c1 true
    try simp only [nrm] at c1
    refine W_skip (kq3 _ _ ?_)
    refine W_cond_true (by first | rfl | (simp only [go_sem]; simp [c1])) ?_
    refine W_seq fun kz5 kq5 => ?_
    refine W_region [2] fun R hR => ?_   -- r7
    simp only [go_sem]
    refine hR _ _ (kq5 _ _ ?_); clear hR R; try clear kq5 kz5
    try simp only [go_sem]
    refine W_ret ?_
    simp only [go_sem]
    refine ⟨.inr (by trivial), ?_⟩
    first | refine Fin_same hcl rfl (Wk_eq ?_ (by simp only [go_sem])) | refine Fin_self hcl rfl (Wk_eq ?_ (by simp only [go_sem]))
    try simp only [go_sem]
    all_goals
      first | rfl | (simp_all; done) | (rw [← hres]; simp [chkSc, scRange, *]; done) | (rw [← hres]; simp [chkSc, scRange, *]; omega) | (simp_all; omega)
  · -- c1 false
    try simp only [nrm] at c1
    refine W_seq fun kz6 kq6 => ?_
    refine W_region [1, 5] fun R hR => ?_   -- r2
    simp only [go_sem]
    refine GCall_of (in_pc Y _ s.matters 1 6) ?_   -- t12
    simp only [go_sem]
    refine hR _ _ (kq6 _ _ ?_); clear hR R; try clear kq6 kz6
    try simp only [go_sem]
    refine W_cond rfl (fun c2 => ?_) (fun c2 => ?_)
    · -- c2 true
      try simp only [nrm] at c2
      refine W_skip (kq3 _ _ ?_)
      refine W_cond_true (by first | rfl | (simp only [go_sem]; simp [c2])) ?_
      refine W_seq fun kz7 kq7 => ?_
      refine W_region [2] fun R hR => ?_   -- r7
      simp only [go_sem]
      refine hR _ _ (kq7 _ _ ?_); clear hR R; try clear kq7 kz7
      try simp only [go_sem]
      refine W_ret ?_
      simp only [go_sem]
      refine ⟨.inr (by trivial), ?_⟩
      first | refine Fin_same hcl rfl (Wk_eq ?_ (by simp only [go_sem])) | refine Fin_self hcl rfl (Wk_eq ?_ (by simp only [go_sem]))
      try simp only [go_sem]
      all_goals
        first | rfl | (simp_all; done) | (rw [← hres]; simp [chkSc, scRange, *]; done) | (rw [← hres]; simp [chkSc, scRange, *]; omega) | (simp_all; omega)
    · -- c2 false
      try simp only [nrm] at c2
      refine W_seq fun kz8 kq8 => ?_
      refine W_region [1, 5] fun R hR => ?_   -- r3
      simp only [go_sem]
      refine GCall_of (in_pc Y _ s.judges 1 5) ?_   -- t16
      simp only [go_sem]
      refine hR _ _ (kq8 _ _ ?_); clear hR R; try clear kq8 kz8
      try simp only [go_sem]
      refine W_cond rfl (fun c3 => ?_) (fun c3 => ?_)
      · -- c3 true
        try simp only [nrm] at c3
        refine W_skip (kq3 _ _ ?_)
        refine W_cond_true (by first | rfl | (simp only [go_sem]; simp [c3])) ?_
        refine W_seq fun kz9 kq9 => ?_
        refine W_region [2] fun R hR => ?_   -- r7
        simp only [go_sem]
        refine hR _ _ (kq9 _ _ ?_); clear hR R; try clear kq9 kz9
        try simp only [go_sem]
        refine W_ret ?_
        simp only [go_sem]
        refine ⟨.inr (by trivial), ?_⟩
        first | refine Fin_same hcl rfl (Wk_eq ?_ (by simp only [go_sem])) | refine Fin_self hcl rfl (Wk_eq ?_ (by simp only [go_sem]))
        try simp only [go_sem]
        all_goals
          first | rfl | (simp_all; done) | (rw [← hres]; simp [chkSc, scRange, *]; done) | (rw [← hres]; simp [chkSc, scRange, *]; omega) | (simp_all; omega)
      · -- c3 false
        try simp only [nrm] at c3
        have d3 : inR s.judges 1 5 = true := by simp_all
        simp only [inR_true] at d3
        refine W_seq fun kz10 kq10 => ?_
        refine W_region [1, 5] fun R hR => ?_   -- r4
        simp only [go_sem]
        skip
        try simp (disch := omega) only [wrapI, wrapU]
        refine GCall_of (in_pc Y _ s.drop 0 _) ?_   -- t23
        simp only [go_sem]
        try simp (disch := omega) only [wrapI, wrapU]
        refine hR _ _ (kq10 _ _ ?_); clear hR R; try clear kq10 kz10
        try simp only [go_sem]
        refine W_cond rfl (fun c4 => ?_) (fun c4 => ?_)
        · -- c4 true
          try simp only [nrm] at c4
          refine W_skip (kq3 _ _ ?_)
          refine W_cond_true (by first | rfl | (simp only [go_sem]; simp [c4])) ?_
          refine W_seq fun kz11 kq11 => ?_
          refine W_region [2] fun R hR => ?_   -- r7
          simp only [go_sem]
          refine hR _ _ (kq11 _ _ ?_); clear hR R; try clear kq11 kz11
          try simp only [go_sem]
          refine W_ret ?_
          simp only [go_sem]
          refine ⟨.inr (by trivial), ?_⟩
          first | refine Fin_same hcl rfl (Wk_eq ?_ (by simp only [go_sem])) | refine Fin_self hcl rfl (Wk_eq ?_ (by simp only [go_sem]))
          try simp only [go_sem]
          all_goals
            first | rfl | (simp_all; done) | (rw [← hres]; simp [chkSc, scRange, *]; done) | (rw [← hres]; simp [chkSc, scRange, *]; omega) | (simp_all; omega)
        · -- c4 false
          try simp only [nrm] at c4
          refine W_seq fun kz12 kq12 => ?_
          refine W_region [1, 5] fun R hR => ?_   -- r5
          simp only [go_sem]
          refine GCall_of (in_pc Y _ s.low 0 100) ?_   -- t27
          simp only [go_sem]
          refine hR _ _ (kq12 _ _ ?_); clear hR R; try clear kq12 kz12
          try simp only [go_sem]
          refine W_cond rfl (fun c5 => ?_) (fun c5 => ?_)
          · -- c5 true
            try simp only [nrm] at c5
            refine W_skip (kq3 _ _ ?_)
            refine W_cond_true (by first | rfl | (simp only [go_sem]; simp [c5])) ?_
            refine W_seq fun kz13 kq13 => ?_
            refine W_region [2] fun R hR => ?_   -- r7
            simp only [go_sem]
            refine hR _ _ (kq13 _ _ ?_); clear hR R; try clear kq13 kz13
            try simp only [go_sem]
            refine W_ret ?_
            simp only [go_sem]
            refine ⟨.inr (by trivial), ?_⟩
            first | refine Fin_same hcl rfl (Wk_eq ?_ (by simp only [go_sem])) | refine Fin_self hcl rfl (Wk_eq ?_ (by simp only [go_sem]))
            try simp only [go_sem]
            all_goals
              first | rfl | (simp_all; done) | (rw [← hres]; simp [chkSc, scRange, *]; done) | (rw [← hres]; simp [chkSc, scRange, *]; omega) | (simp_all; omega)
          · -- c5 false
            try simp only [nrm] at c5
            refine W_region [1, 5] fun R hR => ?_   -- r6
            simp only [go_sem]
            refine GCall_of (in_pc Y _ s.high 0 100) ?_   -- t31
            simp only [go_sem]
            refine hR _ _ (kq3 _ _ ?_); clear hR R; try clear kq3 kz3
            try simp only [go_sem]
            refine W_cond rfl (fun c6 => ?_) (fun c6 => ?_)
            · -- c6 true
              try simp only [nrm] at c6
              refine W_seq fun kz14 kq14 => ?_
              refine W_region [2] fun R hR => ?_   -- r7
              simp only [go_sem]
              refine hR _ _ (kq14 _ _ ?_); clear hR R; try clear kq14 kz14
              try simp only [go_sem]
              refine W_ret ?_
              simp only [go_sem]
              refine ⟨.inr (by trivial), ?_⟩
              first | refine Fin_same hcl rfl (Wk_eq ?_ (by simp only [go_sem])) | refine Fin_self hcl rfl (Wk_eq ?_ (by simp only [go_sem]))
              try simp only [go_sem]
              all_goals
                first | rfl | (simp_all; done) | (rw [← hres]; simp [chkSc, scRange, *]; done) | (rw [← hres]; simp [chkSc, scRange, *]; omega) | (simp_all; omega)
            · -- c6 false
              try simp only [nrm] at c6
              refine W_seq fun kz15 kq15 => ?_
              refine W_region [1, 33] fun R hR => ?_   -- r8
              simp only [go_sem]
              refine hR _ _ (kq15 _ _ ?_); clear hR R; try clear kq15 kz15
              try simp only [go_sem]
              refine W_cond rfl (fun c7 => ?_) (fun c7 => ?_)
              · -- c7 true
                try simp only [nrm] at c7
                refine W_seq fun kz16 kq16 => ?_
                refine W_region [2] fun R hR => ?_   -- r9
                simp only [go_sem]
                refine hR _ _ (kq16 _ _ ?_); clear hR R; try clear kq16 kz16
                try simp only [go_sem]
                refine W_ret ?_
                simp only [go_sem]
                refine ⟨.inr (by trivial), ?_⟩
                first | refine Fin_same hcl rfl (Wk_eq ?_ (by simp only [go_sem])) | refine Fin_self hcl rfl (Wk_eq ?_ (by simp only [go_sem]))
                try simp only [go_sem]
                all_goals
                  first | rfl | (simp_all; done) | (rw [← hres]; simp [chkSc, scRange, *]; done) | (rw [← hres]; simp [chkSc, scRange, *]; omega) | (simp_all; omega)
              · -- c7 false
                try simp only [nrm] at c7
                refine W_seq fun kz17 kq17 => ?_
                refine W_region [1, 39] fun R hR => ?_   -- r10
                simp only [go_sem]
                refine hR _ _ (kq17 _ _ ?_); clear hR R; try clear kq17 kz17
                try simp only [go_sem]
                refine W_cond rfl (fun c8 => ?_) (fun c8 => ?_)
                · -- c8 true
                  try simp only [nrm] at c8
                  refine W_seq fun kz18 kq18 => ?_
                  refine W_region [2] fun R hR => ?_   -- r11
                  simp only [go_sem]
                  refine hR _ _ (kq18 _ _ ?_); clear hR R; try clear kq18 kz18
                  try simp only [go_sem]
                  refine W_ret ?_
                  simp only [go_sem]
                  refine ⟨.inr (by trivial), ?_⟩
                  first | refine Fin_same hcl rfl (Wk_eq ?_ (by simp only [go_sem])) | refine Fin_self hcl rfl (Wk_eq ?_ (by simp only [go_sem]))
                  try simp only [go_sem]
                  all_goals
                    first | rfl | (simp_all; done) | (rw [← hres]; simp [chkSc, scRange, *]; done) | (rw [← hres]; simp [chkSc, scRange, *]; omega) | (simp_all; omega)
                · -- c8 false
                  try simp only [nrm] at c8
                  refine W_skip (kq2 _ _ ?_)
                  refine W_seq fun kz19 kq19 => ?_
                  refine W_seq fun kz20 kq20 => ?_
                  refine W_region [1, 47, 48, 49] fun R hR => ?_   -- r12
                  simp only [go_sem]
                  refine hR _ _ (kq20 _ _ ?_); clear hR R; try clear kq20 kz20
                  try simp only [go_sem]
                  refine W_block ?_
                  refine W_loopS (α := Nat) (fun (i : Nat) => [(49, I i)]) (fun (i : Nat) => i ≤ s.order.length ∧ res = chkOrd s.matters (s.order.take i) (s.order.drop i)) (fun (i : Nat) => s.order.length - i) (0) rfl (⟨Nat.zero_le _, by rw [← hres]; simp [chkSc, scRange, *] <;> omega⟩) ?_
                  rintro i ⟨hi, hinv⟩
                  refine W_seq fun kz21 kq21 => ?_
                  refine W_region [1, 47, 48, 49, 50] fun R hR => ?_   -- r13
                  simp only [go_sem]
                  refine hR _ _ (kq21 _ _ ?_); clear hR R; try clear kq21 kz21
                  try simp only [go_sem]
                  refine W_seq fun kz22 kq22 => ?_
                  refine W_cond rfl (fun c9 => ?_) (fun c9 => ?_)
                  · -- c9 true
                    try simp only [nrm] at c9
                    have hi' : i < s.order.length := by first | assumption | omega
                    obtain ⟨x, hx⟩ : ∃ x, s.order[i]? = some x := ⟨s.order[i], by simp [hi']⟩
                    have hdrop : s.order.drop i = x :: s.order.drop (i + 1) := by
                      rw [List.drop_eq_getElem_cons hi']; congr 1; exact (List.getElem?_eq_some_iff.1 hx).2
                    rw [hdrop] at hinv
                    simp only [chkOrd] at hinv
                    have htk : s.order.take i ++ [x] = s.order.take (i + 1) := by rw [List.take_add_one, hx]; rfl
                    rw [htk] at hinv
                    refine W_skip (kq22 _ _ ?_)
                    refine W_seq fun kz23 kq23 => ?_
                    refine W_block ?_
                    refine W_seq fun kz24 kq24 => ?_
                    refine W_region [1, 3, 4, 47, 48, 49] fun R hR => ?_   -- r14
                    simp only [go_sem, hx]
                    refine hR _ _ (kq24 _ _ ?_); clear hR R; try clear kq24 kz24
                    try simp only [go_sem, hx]
                    refine W_block ?_
                    refine W_seq fun kz25 kq25 => ?_
                    refine W_region [1, 3, 4, 47, 48, 49, 54] fun R hR => ?_   -- r15
                    simp only [go_sem, hx]
                    try simp (disch := omega) only [wrapI, wrapU]
                    refine GCall_of (in_pc Y _ x 0 _) ?_   -- t59
                    simp only [go_sem, hx]
                    try simp (disch := omega) only [wrapI, wrapU]
                    refine hR _ _ (kq25 _ _ ?_); clear hR R; try clear kq25 kz25
                    try simp only [go_sem, hx]
                    refine W_cond rfl (fun c10 => ?_) (fun c10 => ?_)
                    · -- c10 true
                      try simp only [nrm] at c10
                      refine W_seq fun kz26 kq26 => ?_
                      refine W_region [2] fun R hR => ?_   -- r16
                      simp only [go_sem, hx]
                      refine hR _ _ (kq26 _ _ ?_); clear hR R; try clear kq26 kz26
                      try simp only [go_sem, hx]
                      refine W_ret ?_
                      simp only [go_sem, hx]
                      refine ⟨.inr (by trivial), ?_⟩
                      first | refine Fin_same hcl rfl (Wk_eq ?_ (by simp only [go_sem])) | refine Fin_self hcl rfl (Wk_eq ?_ (by simp only [go_sem]))
                      try simp only [go_sem]
                      all_goals
                        first | rfl | (simp_all; done) | (rw [← hres]; simp [chkSc, scRange, *]; done) | (rw [← hres]; simp [chkSc, scRange, *]; omega) | (simp_all; omega)
                    · -- c10 false
                      try simp only [nrm] at c10
                      refine W_seq fun kz27 kq27 => ?_
                      refine W_region [1, 47, 48, 49, 61] fun R hR => ?_   -- r17
                      simp only [go_sem, hx, hi, ← List.map_take]
                      refine GCall_of (contains_pc Y _ (s.order.take i) _ x (by rw [List.length_take]; omega)) ?_   -- t67
                      simp only [go_sem, hx, hi, ← List.map_take]
                      refine hR _ _ (kq27 _ _ ?_); clear hR R; try clear kq27 kz27
                      try simp only [go_sem, hx]
                      refine W_cond rfl (fun c11 => ?_) (fun c11 => ?_)
                      · -- c11 true
                        try simp only [nrm] at c11
                        refine W_seq fun kz28 kq28 => ?_
                        refine W_region [2] fun R hR => ?_   -- r18
                        simp only [go_sem, hx]
                        refine hR _ _ (kq28 _ _ ?_); clear hR R; try clear kq28 kz28
                        try simp only [go_sem, hx]
                        refine W_ret ?_
                        simp only [go_sem, hx]
                        refine ⟨.inr (by trivial), ?_⟩
                        first | refine Fin_same hcl rfl (Wk_eq ?_ (by simp only [go_sem])) | refine Fin_self hcl rfl (Wk_eq ?_ (by simp only [go_sem]))
                        try simp only [go_sem]
                        all_goals
                          first | rfl | (simp_all; done) | (rw [← hres]; simp [chkSc, scRange, *]; done) | (rw [← hres]; simp [chkSc, scRange, *]; omega) | (simp_all; omega)
                      · -- c11 false
                        try simp only [nrm] at c11
                        refine W_skip (kq23 _ _ ?_)
                        refine W_region [1, 47, 48, 49] fun R hR => ?_   -- r19
                        simp only [go_sem, hx]
                        try simp (disch := omega) only [wrapI, wrapU]
                        refine hR _ _ ?_; clear hR R
                        try simp only [go_sem, hx]
                        refine ⟨i + 1, ?_, by (try simp only []); omega, ?_⟩
                        · first | exact Weak.refl | exact Weak.eq (by first | rfl | (simp only [go_sem]; done) | (simp only [go_sem]; rfl) | (simp [go_sem]; done) | (simp [go_sem]; omega)) (by first | rfl | (simp only [go_sem]; done) | (simp [go_sem]; done))
                        · try dsimp only
                          exact ⟨hi', by simp_all⟩
                  · -- c9 false
                    try simp only [nrm] at c9
                    have hdrop : s.order.drop i = [] := List.drop_eq_nil_of_le (by omega)
                    rw [hdrop] at hinv
                    simp only [chkOrd] at hinv
                    refine W_exit ?_
                    simp only [go_sem]
                    refine kq19 _ _ ?_
                    refine W_seq fun kz29 kq29 => ?_
                    refine W_region [2] fun R hR => ?_   -- r20
                    simp only [go_sem]
                    refine hR _ _ (kq29 _ _ ?_); clear hR R; try clear kq29 kz29
                    try simp only [go_sem]
                    refine W_ret ?_
                    simp only [go_sem]
                    refine ⟨.inr (by trivial), ?_⟩
                    first | refine Fin_same hcl rfl (Wk_eq ?_ (by simp only [go_sem])) | refine Fin_self hcl rfl (Wk_eq ?_ (by simp only [go_sem]))
                    try simp only [go_sem]
                    all_goals
                      first | rfl | (simp_all; done) | (rw [← hres]; simp [chkSc, scRange, *]; done) | (rw [← hres]; simp [chkSc, scRange, *]; omega) | (simp_all; omega)
set_option maxHeartbeats 2000000 in
theorem of_pc (Y : YEnv) (σ : Sg) (s : Scale) (j : Int × Int) (h : s.V) :
    PC Try.prog Y 74 [stPV j, scPV s] σ (.bool (ofSc s j)) (σ) := by
  refine PC_of_W Try.func74 rfl (by kernel_rfl) Try.ntmps74 (by simp) fun hcl hca => ?_
  have h1 := h.mt
  have h2 := h.jd
  refine W_seq fun kz1 kq1 => ?_
  refine W_region [2, 3] fun R hR => ?_   -- r0
  simp only [go_sem]
  refine hR _ _ (kq1 _ _ ?_); clear hR R; try clear kq1 kz1
  try simp only [go_sem]
  refine W_seq fun kz2 kq2 => ?_
  refine W_region [4] fun R hR => ?_   -- r1
  simp only [go_sem]
  try simp (disch := omega) only [wrapI, wrapU]
  refine GCall_of (in_pc Y _ j.1 0 _) ?_   -- t10
  simp only [go_sem]
  refine GWant_split (fun g1 => ?_) (fun g1 => ?_)
  · try simp only [Bool.not_eq_true', Bool.not_eq_false'] at g1
    have n1 := g1; try simp only [nrm] at n1
    try simp (disch := omega) only [wrapI, wrapU] at n1
    simp only [go_sem, g1]
    try simp (disch := omega) only [wrapI, wrapU]
    refine GCall_of (in_pc Y _ j.2 0 _) ?_   -- t17
    simp only [go_sem, g1]
    try simp (disch := omega) only [wrapI, wrapU]
    refine hR _ _ (kq2 _ _ ?_); clear hR R; try clear kq2 kz2
    try simp only [go_sem]
    refine W_ret ?_
    simp only [go_sem]
    refine ⟨.inr (by trivial), ?_⟩
    first | refine Fin_same hcl rfl (Wk_eq ?_ (by simp only [go_sem])) | refine Fin_self hcl rfl (Wk_eq ?_ (by simp only [go_sem]))
    try simp only [go_sem]
    all_goals
      simp [ofSc, *]
  · try simp only [Bool.not_eq_true', Bool.not_eq_false'] at g1
    have n1 := g1; try simp only [nrm] at n1
    try simp (disch := omega) only [wrapI, wrapU] at n1
    simp only [go_sem, g1]
    try simp (disch := omega) only [wrapI, wrapU]
    refine hR _ _ (kq2 _ _ ?_); clear hR R; try clear kq2 kz2
    try simp only [go_sem]
    refine W_ret ?_
    simp only [go_sem]
    refine ⟨.inr (by trivial), ?_⟩
    first | refine Fin_same hcl rfl (Wk_eq ?_ (by simp only [go_sem])) | refine Fin_self hcl rfl (Wk_eq ?_ (by simp only [go_sem]))
    try simp only [go_sem]
    all_goals
      simp [ofSc, *]
set_option maxHeartbeats 2000000 in
theorem indexF_pc (Y : YEnv) (σ : Sg) (l : List Int) (o : Own) (hl : l.length < 2 ^ 62) (g : FuncId) (p : PV) (q : Int → Bool) (hq : ∀ (x : Int), PC Try.prog Y g [I x, p] σ (.bool (q x)) σ) :
    PC Try.prog Y 93 [intsO o l, .func (.func g) [] [p]] σ (I (fIdx q 0 l)) (σ) := by
  refine PC_of_W Try.func93 rfl (by kernel_rfl) Try.ntmps93 (by simp) fun hcl hca => ?_
  refine W_seq fun kz1 kq1 => ?_
  refine W_region [0, 1] fun R hR => ?_   -- r0
  simp only [go_sem]
  refine hR _ _ (kq1 _ _ ?_); clear hR R; try clear kq1 kz1
  try simp only [go_sem]
  refine W_seq fun kz2 kq2 => ?_
  refine W_seq fun kz3 kq3 => ?_
  refine W_region [0, 1, 7, 8] fun R hR => ?_   -- r1
  simp only [go_sem]
  refine hR _ _ (kq3 _ _ ?_); clear hR R; try clear kq3 kz3
  try simp only [go_sem]
  refine W_block ?_
  refine W_loopS (α := Nat) (fun (i : Nat) => [(8, I i)]) (fun (i : Nat) => i ≤ l.length ∧ fIdx q i (l.drop i) = fIdx q 0 l) (fun (i : Nat) => l.length - i) (0) rfl (⟨Nat.zero_le _, rfl⟩) ?_
  rintro i ⟨hi, hinv⟩
  refine W_seq fun kz4 kq4 => ?_
  refine W_region [0, 1, 7, 8, 9] fun R hR => ?_   -- r2
  simp only [go_sem]
  refine hR _ _ (kq4 _ _ ?_); clear hR R; try clear kq4 kz4
  try simp only [go_sem]
  refine W_seq fun kz5 kq5 => ?_
  refine W_cond rfl (fun c1 => ?_) (fun c1 => ?_)
  · -- c1 true
    try simp only [nrm] at c1
    have hi' : i < l.length := by first | assumption | omega
    obtain ⟨x, hx⟩ : ∃ x, l[i]? = some x := ⟨l[i], by simp [hi']⟩
    have hdrop : l.drop i = x :: l.drop (i + 1) := by
      rw [List.drop_eq_getElem_cons hi']; congr 1; exact (List.getElem?_eq_some_iff.1 hx).2
    rw [hdrop] at hinv
    simp only [fIdx] at hinv
    refine W_skip (kq5 _ _ ?_)
    refine W_seq fun kz6 kq6 => ?_
    refine W_block ?_
    refine W_seq fun kz7 kq7 => ?_
    refine W_region [0, 1, 5, 7, 8] fun R hR => ?_   -- r3
    simp only [go_sem, hx]
    refine hR _ _ (kq7 _ _ ?_); clear hR R; try clear kq7 kz7
    try simp only [go_sem, hx]
    refine W_seq fun kz8 kq8 => ?_
    refine W_region [0, 1, 5, 7, 8, 16] fun R hR => ?_   -- r4
    simp only [go_sem, hx]
    refine GCall_of (hq x) ?_   -- t16
    simp only [go_sem, hx]
    refine hR _ _ (kq8 _ _ ?_); clear hR R; try clear kq8 kz8
    try simp only [go_sem, hx]
    refine W_cond rfl (fun c2 => ?_) (fun c2 => ?_)
    · -- c2 true
      try simp only [nrm] at c2
      refine W_seq fun kz9 kq9 => ?_
      refine W_region [4] fun R hR => ?_   -- r5
      simp only [go_sem, hx]
      refine hR _ _ (kq9 _ _ ?_); clear hR R; try clear kq9 kz9
      try simp only [go_sem, hx]
      refine W_ret ?_
      simp only [go_sem, hx]
      refine ⟨.inr (by trivial), ?_⟩
      first | refine Fin_same hcl rfl (Wk_eq ?_ (by simp only [go_sem])) | refine Fin_self hcl rfl (Wk_eq ?_ (by simp only [go_sem]))
      try simp only [go_sem]
      all_goals
        first | rfl | (simp_all; done) | (simp_all; omega)
    · -- c2 false
      try simp only [nrm] at c2
      refine W_skip (kq6 _ _ ?_)
      refine W_region [0, 1, 7, 8] fun R hR => ?_   -- r6
      simp only [go_sem, hx]
      try simp (disch := omega) only [wrapI, wrapU]
      refine hR _ _ ?_; clear hR R
      try simp only [go_sem, hx]
      refine ⟨i + 1, ?_, by (try simp only []); omega, ?_⟩
      · first | exact Weak.refl | exact Weak.eq (by first | rfl | (simp only [go_sem]; done) | (simp only [go_sem]; rfl) | (simp [go_sem]; done) | (simp [go_sem]; omega)) (by first | rfl | (simp only [go_sem]; done) | (simp [go_sem]; done))
      · try dsimp only
        exact ⟨hi', by simp_all⟩
  · -- c1 false
    try simp only [nrm] at c1
    have hdrop : l.drop i = [] := List.drop_eq_nil_of_le (by omega)
    rw [hdrop] at hinv
    simp only [fIdx] at hinv
    refine W_exit ?_
    simp only [go_sem]
    refine kq2 _ _ ?_
    refine W_seq fun kz10 kq10 => ?_
    refine W_region [4] fun R hR => ?_   -- r7
    simp only [go_sem]
    refine hR _ _ (kq10 _ _ ?_); clear hR R; try clear kq10 kz10
    try simp only [go_sem]
    refine W_ret ?_
    simp only [go_sem]
    refine ⟨.inr (by trivial), ?_⟩
    first | refine Fin_same hcl rfl (Wk_eq ?_ (by simp only [go_sem])) | refine Fin_self hcl rfl (Wk_eq ?_ (by simp only [go_sem]))
    try simp only [go_sem]
    all_goals
      first | rfl | (simp_all; done) | (simp_all; omega)
set_option maxHeartbeats 2000000 in
theorem containsF_pc (Y : YEnv) (σ : Sg) (l : List Int) (o : Own) (hl : l.length < 2 ^ 62) (g : FuncId) (p : PV) (q : Int → Bool) (hq : ∀ (x : Int), PC Try.prog Y g [I x, p] σ (.bool (q x)) σ) :
    PC Try.prog Y 75 [intsO o l, .func (.func g) [] [p]] σ (.bool (l.any q)) (σ) := by
  refine PC_of_W Try.func75 rfl (by kernel_rfl) Try.ntmps75 (by simp) fun hcl hca => ?_
  refine W_seq fun kz1 kq1 => ?_
  refine W_region [0, 1] fun R hR => ?_   -- r0
  simp only [go_sem]
  refine hR _ _ (kq1 _ _ ?_); clear hR R; try clear kq1 kz1
  try simp only [go_sem]
  refine W_seq fun kz2 kq2 => ?_
  refine W_region [4] fun R hR => ?_   -- r1
  simp only [go_sem]
  refine GCall_of (indexF_pc Y _ l o hl g p q hq) ?_   -- t7
  simp only [go_sem]
  refine hR _ _ (kq2 _ _ ?_); clear hR R; try clear kq2 kz2
  try simp only [go_sem]
  refine W_ret ?_
  simp only [go_sem]
  refine ⟨.inr (by trivial), ?_⟩
  first | refine Fin_same hcl rfl (Wk_eq ?_ (by simp only [go_sem])) | refine Fin_self hcl rfl (Wk_eq ?_ (by simp only [go_sem]))
  try simp only [go_sem]
  all_goals
    simp only [fIdx_any, go_sem]
set_option maxHeartbeats 2000000 in
theorem marked1_pc (Y : YEnv) (σ : Sg) (id : Nat) (s : Scale) (hd : σ.store[id]? = some (some (scCells s))) (n : Int) :
    PC Try.prog Y 76 [I n, .ptr id 0] σ (.bool (!(inR n s.low s.high))) (σ) := by
  refine PC_of_W Try.func76 rfl (by kernel_rfl) Try.ntmps76 (by simp) fun hcl hca => ?_
  refine W_seq fun kz1 kq1 => ?_
  refine W_region [0, 1] fun R hR => ?_   -- r0
  simp only [go_sem, ldS_at hd]
  refine hR _ _ (kq1 _ _ ?_); clear hR R; try clear kq1 kz1
  try simp only [go_sem, ldS_at hd]
  refine W_seq fun kz2 kq2 => ?_
  refine W_region [3] fun R hR => ?_   -- r1
  simp only [go_sem, ldS_at hd]
  refine GCall_of (in_pc Y _ n s.low s.high) ?_   -- t9
  simp only [go_sem, ldS_at hd]
  refine hR _ _ (kq2 _ _ ?_); clear hR R; try clear kq2 kz2
  try simp only [go_sem, ldS_at hd]
  refine W_ret ?_
  simp only [go_sem, ldS_at hd]
  refine ⟨.inr (by trivial), ?_⟩
  first | refine Fin_same hcl rfl (Wk_eq ?_ (by simp only [go_sem])) | refine Fin_self hcl rfl (Wk_eq ?_ (by simp only [go_sem]))
  try simp only [go_sem]
  all_goals
    first | rfl | (simp_all; done) | (simp_all; omega)
set_option maxHeartbeats 2000000 in
theorem marked_pc (Y : YEnv) (σ : Sg) (s : Scale) (j : Int × Int) (l : List Int) (o : Own) (hl : l.length < 2 ^ 40) (h : s.V) :
    PC Try.prog Y 51 [scPV s, stPV j, intsO o l] σ (I (marked s j l)) (σ) := by
  refine PC_of_W Try.func51 rfl (by kernel_rfl) Try.ntmps51 (by simp) fun hcl hca => ?_
  refine W_seq fun kz1 kq1 => ?_
  refine W_region [2, 3, 4] fun R hR => ?_   -- r0
  simp only [go_sem]
  refine hR _ _ (kq1 _ _ ?_); clear hR R; try clear kq1 kz1
  try simp only [go_sem]
  refine W_seq fun kz2 kq2 => ?_
  refine W_block ?_
  refine W_seq fun kz3 kq3 => ?_
  refine W_region [2, 3, 7] fun R hR => ?_   -- r1
  simp only [go_sem]
  refine GCall_of (of_pc Y _ s j h) ?_   -- t10
  simp only [go_sem]
  refine hR _ _ (kq3 _ _ ?_); clear hR R; try clear kq3 kz3
  try simp only [go_sem]
  refine W_cond rfl (fun c1 => ?_) (fun c1 => ?_)
  · -- c1 true
    try simp only [nrm] at c1
    refine W_seq fun kz4 kq4 => ?_
    refine W_region [6] fun R hR => ?_   -- r2
    simp only [go_sem]
    refine hR _ _ (kq4 _ _ ?_); clear hR R; try clear kq4 kz4
    try simp only [go_sem]
    refine W_ret ?_
    simp only [go_sem]
    refine ⟨.inr (by trivial), ?_⟩
    first | refine Fin_same hcl rfl (Wk_eq ?_ (by simp only [go_sem])) | refine Fin_self hcl rfl (Wk_eq ?_ (by simp only [go_sem]))
    try simp only [go_sem]
    all_goals
      simp [marked, outMarks, *]
  · -- c1 false
    try simp only [nrm] at c1
    refine W_seq fun kz5 kq5 => ?_
    refine W_region [2, 3, 12] fun R hR => ?_   -- r3
    simp only [go_sem]
    refine hR _ _ (kq5 _ _ ?_); clear hR R; try clear kq5 kz5
    try simp only [go_sem]
    refine W_cond rfl (fun c2 => ?_) (fun c2 => ?_)
    · -- c2 true
      try simp only [nrm] at c2
      refine W_seq fun kz6 kq6 => ?_
      refine W_region [6] fun R hR => ?_   -- r4
      simp only [go_sem]
      refine hR _ _ (kq6 _ _ ?_); clear hR R; try clear kq6 kz6
      try simp only [go_sem]
      refine W_ret ?_
      simp only [go_sem]
      refine ⟨.inr (by trivial), ?_⟩
      first | refine Fin_same hcl rfl (Wk_eq ?_ (by simp only [go_sem])) | refine Fin_self hcl rfl (Wk_eq ?_ (by simp only [go_sem]))
      try simp only [go_sem]
      all_goals
        simp [marked, outMarks, *]
    · -- c2 false
      try simp only [nrm] at c2
      refine W_seq fun kz7 kq7 => ?_
      refine W_region [18] fun R hR => ?_   -- r5
      simp only [go_sem]
      refine GCall_of (containsF_pc Y _ l o (by omega) 76 (.ptr σ.store.length 0) (fun n => !(inR n s.low s.high)) (fun x => marked1_pc Y _ σ.store.length s (Sg.get_ext0 ..) x)) ?_   -- t21
      simp only [go_sem]
      refine hR _ _ (kq7 _ _ ?_); clear hR R; try clear kq7 kz7
      try simp only [go_sem]
      refine W_cond rfl (fun c3 => ?_) (fun c3 => ?_)
      · -- c3 true
        try simp only [nrm] at c3
        refine W_seq fun kz8 kq8 => ?_
        refine W_region [6] fun R hR => ?_   -- r6
        simp only [go_sem]
        refine hR _ _ (kq8 _ _ ?_); clear hR R; try clear kq8 kz8
        try simp only [go_sem]
        refine W_ret ?_
        simp only [go_sem]
        refine ⟨.inr (by trivial), ?_⟩
        first | refine Fin_same hcl rfl (Wk_eq ?_ (by simp only [go_sem])) | refine Fin_self hcl rfl (Wk_eq ?_ (by simp only [go_sem]))
        try simp only [go_sem]
        all_goals
          simp [marked, outMarks, *]
      · -- c3 false
        try simp only [nrm] at c3
        refine W_skip (kq2 _ _ ?_)
        refine W_seq fun kz9 kq9 => ?_
        refine W_region [6] fun R hR => ?_   -- r7
        simp only [go_sem]
        refine hR _ _ (kq9 _ _ ?_); clear hR R; try clear kq9 kz9
        try simp only [go_sem]
        refine W_ret ?_
        simp only [go_sem]
        refine ⟨.inr (by trivial), ?_⟩
        first | refine Fin_same hcl rfl (Wk_eq ?_ (by simp only [go_sem])) | refine Fin_self hcl rfl (Wk_eq ?_ (by simp only [go_sem]))
        try simp only [go_sem]
        all_goals
          simp [marked, outMarks, *]
set_option maxHeartbeats 2000000 in
theorem seal_pc (Y : YEnv) (σ : Sg) (j : Int × Int) (l : List Int) (o : Own) (h1 : 0 ≤ j.1 ∧ j.1 ≤ 5) (h2 : 0 ≤ j.2 ∧ j.2 ≤ 4) (h3 : l.length ≤ 8) (h4 : ∀ x, x ∈ l → 0 ≤ x ∧ x ≤ 100) :
    PC Try.prog Y 52 [stPV j, intsO o l] σ (I (sealOf j l)) (σ) := by
  refine PC_of_W Try.func52 rfl (by kernel_rfl) Try.ntmps52 (by simp) fun hcl hca => ?_
  obtain ⟨res, hres⟩ : ∃ r, sealOf j l = r := ⟨_, rfl⟩
  rw [hres]
  have hz : ¬ ((997 : Int) = 0) := by omega
  refine W_seq fun kz1 kq1 => ?_
  refine W_region [1, 2] fun R hR => ?_   -- r0
  simp only [go_sem, hz]
  refine hR _ _ (kq1 _ _ ?_); clear hR R; try clear kq1 kz1
  try simp only [go_sem, hz]
  refine W_seq fun kz2 kq2 => ?_
  refine W_region [1, 5] fun R hR => ?_   -- r1
  simp only [go_sem, hz]
  try simp (disch := omega) only [wrapI, wrapU]
  refine hR _ _ (kq2 _ _ ?_); clear hR R; try clear kq2 kz2
  try simp only [go_sem, hz]
  refine W_seq fun kz3 kq3 => ?_
  refine W_seq fun kz4 kq4 => ?_
  refine W_region [5, 17, 18, 19] fun R hR => ?_   -- r2
  simp only [go_sem, hz]
  refine hR _ _ (kq4 _ _ ?_); clear hR R; try clear kq4 kz4
  try simp only [go_sem, hz]
  refine W_block ?_
  refine W_loopS (α := Nat × Int) (fun ⟨i, n⟩ => [(5, I n), (19, I i)]) (fun ⟨i, n⟩ => i ≤ l.length ∧ res = (n + sealSum i (l.drop i)).tmod 997 ∧ 0 ≤ n ∧ n ≤ 10000 + i * 800) (fun ⟨i, n⟩ => l.length - i) ((0, (j.1 + 1) * 101 + (j.2 + 1) * 1009)) rfl (⟨Nat.zero_le _, by rw [← hres]; simp [sealOf], by omega, by simp; omega⟩) ?_
  rintro ⟨i, n⟩ ⟨hi, hinv, hn1, hn2⟩
  have hi8 : i ≤ 8 := by omega
  refine W_seq fun kz5 kq5 => ?_
  refine W_region [5, 17, 18, 19, 20] fun R hR => ?_   -- r3
  simp only [go_sem, hz]
  refine hR _ _ (kq5 _ _ ?_); clear hR R; try clear kq5 kz5
  try simp only [go_sem, hz]
  refine W_seq fun kz6 kq6 => ?_
  refine W_cond rfl (fun c1 => ?_) (fun c1 => ?_)
  · -- c1 true
    try simp only [nrm] at c1
    have hi' : i < l.length := by first | assumption | omega
    obtain ⟨x, hx⟩ : ∃ x, l[i]? = some x := ⟨l[i], by simp [hi']⟩
    have hdrop : l.drop i = x :: l.drop (i + 1) := by
      rw [List.drop_eq_getElem_cons hi']; congr 1; exact (List.getElem?_eq_some_iff.1 hx).2
    rw [hdrop] at hinv
    simp only [sealSum] at hinv
    have hxb := h4 x (List.mem_of_getElem? hx)
    have hp1 : 0 ≤ ((i : Int) + 1) * x := Int.mul_nonneg (by omega) hxb.1
    have hp2 : ((i : Int) + 1) * x ≤ ((i : Int) + 1) * 100 := Int.mul_le_mul_of_nonneg_left hxb.2 (by omega)
    refine W_skip (kq6 _ _ ?_)
    refine W_seq fun kz7 kq7 => ?_
    refine W_block ?_
    refine W_seq fun kz8 kq8 => ?_
    refine W_region [5, 6, 7, 17, 18, 19] fun R hR => ?_   -- r4
    simp only [go_sem, hz, hx]
    refine hR _ _ (kq8 _ _ ?_); clear hR R; try clear kq8 kz8
    try simp only [go_sem, hz, hx]
    refine W_region [5, 17, 18, 19] fun R hR => ?_   -- r5
    simp only [go_sem, hz, hx]
    try simp (disch := omega) only [wrapI, wrapU]
    refine hR _ _ (kq7 _ _ ?_); clear hR R; try clear kq7 kz7
    try simp only [go_sem, hz, hx]
    refine W_region [5, 17, 18, 19] fun R hR => ?_   -- r6
    simp only [go_sem, hz, hx]
    try simp (disch := omega) only [wrapI, wrapU]
    refine hR _ _ ?_; clear hR R
    try simp only [go_sem, hz, hx]
    refine ⟨(i + 1, n + ((i : Int) + 1) * x), ?_, by (try simp only []); omega, ?_⟩
    · first | exact Weak.refl | exact Weak.eq (by first | rfl | (simp only [go_sem]; done) | (simp only [go_sem]; rfl) | (simp [go_sem]; done) | (simp [go_sem]; omega)) (by first | rfl | (simp only [go_sem]; done) | (simp [go_sem]; done))
    · try dsimp only
      refine ⟨hi', ?_, by omega, by simp; omega⟩
      rw [hinv]; congr 1; omega
  · -- c1 false
    try simp only [nrm] at c1
    have hdrop : l.drop i = [] := List.drop_eq_nil_of_le (by omega)
    rw [hdrop] at hinv
    simp only [sealSum] at hinv
    refine W_exit ?_
    simp only [go_sem, hz]
    refine kq3 _ _ ?_
    refine W_seq fun kz9 kq9 => ?_
    refine W_region [4] fun R hR => ?_   -- r7
    simp only [go_sem, hz]
    try simp (disch := omega) only [wrapI, wrapU]
    refine hR _ _ (kq9 _ _ ?_); clear hR R; try clear kq9 kz9
    try simp only [go_sem, hz]
    refine W_ret ?_
    simp only [go_sem, hz]
    refine ⟨.inr (by trivial), ?_⟩
    first | refine Fin_same hcl rfl (Wk_eq ?_ (by simp only [go_sem])) | refine Fin_self hcl rfl (Wk_eq ?_ (by simp only [go_sem]))
    try simp only [go_sem]
    all_goals
      rw [hinv, Int.add_zero]
set_option maxHeartbeats 2000000 in
theorem Equal_pc (Y : YEnv) (σ : Sg) (xs ys : List Int) (o o2 : Own) (hx : xs.length < 2 ^ 50) :
    PC Try.prog Y 77 [intsO o xs, intsO o2 ys] σ (.bool (decide (xs = ys))) (σ) := by
  refine PC_of_W Try.func77 rfl (by kernel_rfl) Try.ntmps77 (by simp) fun hcl hca => ?_
  obtain ⟨res, hres⟩ : ∃ r, decide (xs = ys) = r := ⟨_, rfl⟩
  rw [hres]
  refine W_seq fun kz1 kq1 => ?_
  refine W_region [0, 1] fun R hR => ?_   -- r0
  simp only [go_sem]
  refine hR _ _ (kq1 _ _ ?_); clear hR R; try clear kq1 kz1
  try simp only [go_sem]
  refine W_seq fun kz2 kq2 => ?_
  refine W_seq fun kz3 kq3 => ?_
  refine W_region [0, 1, 10] fun R hR => ?_   -- r1
  simp only [go_sem]
  refine hR _ _ (kq3 _ _ ?_); clear hR R; try clear kq3 kz3
  try simp only [go_sem]
  refine W_cond rfl (fun c1 => ?_) (fun c1 => ?_)
  · -- c1 true
    try simp only [nrm] at c1
    refine W_seq fun kz4 kq4 => ?_
    refine W_region [4] fun R hR => ?_   -- r2
    simp only [go_sem]
    refine hR _ _ (kq4 _ _ ?_); clear hR R; try clear kq4 kz4
    try simp only [go_sem]
    refine W_ret ?_
    simp only [go_sem]
    refine ⟨.inr (by trivial), ?_⟩
    first | refine Fin_same hcl rfl (Wk_eq ?_ (by simp only [go_sem])) | refine Fin_self hcl rfl (Wk_eq ?_ (by simp only [go_sem]))
    try simp only [go_sem]
    all_goals
      rw [← hres]; congr 1; symm; rw [decide_eq_false_iff_not]; intro e; subst e; simp_all
  · -- c1 false
    try simp only [nrm] at c1
    have hll : xs.length = ys.length := by first | omega | simpa using c1
    refine W_skip (kq2 _ _ ?_)
    refine W_seq fun kz5 kq5 => ?_
    refine W_seq fun kz6 kq6 => ?_
    refine W_region [0, 1, 12, 13] fun R hR => ?_   -- r3
    simp only [go_sem]
    refine hR _ _ (kq6 _ _ ?_); clear hR R; try clear kq6 kz6
    try simp only [go_sem]
    refine W_block ?_
    refine W_loopS (α := Nat) (fun (i : Nat) => [(13, I i)]) (fun (i : Nat) => i ≤ xs.length ∧ res = decide (xs.drop i = ys.drop i)) (fun (i : Nat) => xs.length - i) (0) rfl (⟨Nat.zero_le _, by rw [← hres]; rfl⟩) ?_
    rintro i ⟨hi, hinv⟩
    refine W_seq fun kz7 kq7 => ?_
    refine W_region [0, 1, 12, 13, 14] fun R hR => ?_   -- r4
    simp only [go_sem]
    refine hR _ _ (kq7 _ _ ?_); clear hR R; try clear kq7 kz7
    try simp only [go_sem]
    refine W_seq fun kz8 kq8 => ?_
    refine W_cond rfl (fun c2 => ?_) (fun c2 => ?_)
    · -- c2 true
      try simp only [nrm] at c2
      have hi' : i < xs.length := by first | assumption | omega
      obtain ⟨x, hx⟩ : ∃ x, xs[i]? = some x := ⟨xs[i], by simp [hi']⟩
      obtain ⟨y, hy⟩ : ∃ y, ys[i]? = some y := ⟨ys[i]'(by omega), by simp⟩
      have d1 : xs.drop i = x :: xs.drop (i + 1) := by
        rw [List.drop_eq_getElem_cons hi']; congr 1; exact (List.getElem?_eq_some_iff.1 hx).2
      have d2 : ys.drop i = y :: ys.drop (i + 1) := by
        rw [List.drop_eq_getElem_cons (by omega)]; congr 1; exact (List.getElem?_eq_some_iff.1 hy).2
      rw [d1, d2] at hinv
      refine W_skip (kq8 _ _ ?_)
      refine W_seq fun kz9 kq9 => ?_
      refine W_block ?_
      refine W_seq fun kz10 kq10 => ?_
      refine W_region [0, 1, 5, 12, 13] fun R hR => ?_   -- r5
      simp only [go_sem, hx, hy]
      refine hR _ _ (kq10 _ _ ?_); clear hR R; try clear kq10 kz10
      try simp only [go_sem, hx, hy]
      refine W_seq fun kz11 kq11 => ?_
      refine W_draw [0, 1, 12, 13, 24] [0, 1, 2, 3, 4, 5, 6, 7, 8] [] [[], [], [0, 1], [0, 1, 2], [], [], [4, 5], [4, 5, 6], [0, 1, 2, 3, 4, 5, 6, 7]] mixed (by kernel_rfl) fun R hR => ?_   -- r6
      simp only [go_sem, hx, hy]
      try refine And.intro (by repeat' (first | refine And.intro ?_ ?_ | exact GOr_right (fun _ => by simp only [go_sem, hx, hy]))) ?_
      refine hR _ _ (kq11 _ _ ?_); clear hR R; try clear kq11 kz11
      try simp only [go_sem, hx, hy]
      refine W_cond rfl (fun c3 => ?_) (fun c3 => ?_)
      · -- c3 true
        try simp only [nrm] at c3
        refine W_seq fun kz12 kq12 => ?_
        refine W_region [4] fun R hR => ?_   -- r7
        simp only [go_sem, hx, hy]
        refine hR _ _ (kq12 _ _ ?_); clear hR R; try clear kq12 kz12
        try simp only [go_sem, hx, hy]
        refine W_ret ?_
        simp only [go_sem, hx, hy]
        refine ⟨.inr (by trivial), ?_⟩
        first | refine Fin_same hcl rfl (Wk_eq ?_ (by simp only [go_sem])) | refine Fin_self hcl rfl (Wk_eq ?_ (by simp only [go_sem]))
        try simp only [go_sem]
        all_goals
          rw [hinv]; simp_all
      · -- c3 false
        try simp only [nrm] at c3
        refine W_skip (kq9 _ _ ?_)
        refine W_region [0, 1, 12, 13] fun R hR => ?_   -- r8
        simp only [go_sem, hx, hy]
        try simp (disch := omega) only [wrapI, wrapU]
        refine hR _ _ ?_; clear hR R
        try simp only [go_sem, hx, hy]
        refine ⟨i + 1, ?_, by (try simp only []); omega, ?_⟩
        · first | exact Weak.refl | exact Weak.eq (by first | rfl | (simp only [go_sem]; done) | (simp only [go_sem]; rfl) | (simp [go_sem]; done) | (simp [go_sem]; omega)) (by first | rfl | (simp only [go_sem]; done) | (simp [go_sem]; done))
        · try dsimp only
          refine ⟨hi', ?_⟩
          rw [hinv]; simp_all
    · -- c2 false
      try simp only [nrm] at c2
      have d1 : xs.drop i = [] := List.drop_eq_nil_of_le (by omega)
      have d2 : ys.drop i = [] := List.drop_eq_nil_of_le (by omega)
      rw [d1, d2] at hinv
      refine W_exit ?_
      simp only [go_sem]
      refine kq5 _ _ ?_
      refine W_seq fun kz13 kq13 => ?_
      refine W_region [4] fun R hR => ?_   -- r9
      simp only [go_sem]
      refine hR _ _ (kq13 _ _ ?_); clear hR R; try clear kq13 kz13
      try simp only [go_sem]
      refine W_ret ?_
      simp only [go_sem]
      refine ⟨.inr (by trivial), ?_⟩
      first | refine Fin_same hcl rfl (Wk_eq ?_ (by simp only [go_sem])) | refine Fin_self hcl rfl (Wk_eq ?_ (by simp only [go_sem]))
      try simp only [go_sem]
      all_goals
        rw [hinv]; simp_all
end Go.Proofs.Ytgelnjmddabgpaa
namespace Go.Proofs.Ytgelnjmddabgpaa
open Go Go.RowKit
set_option maxRecDepth 100000
theorem cells_map {a : Nat} : (PV.map a).cells = [PV.map a] := rfl
theorem cells_nilmap : PV.nilmap.cells = [PV.nilmap] := rfl
theorem cells_yield {a : Nat} : (PV.yield a).cells = [PV.yield a] := rfl
theorem cells_msl {a b c : Nat} : (PV.msl a b c).cells = [PV.msl a b c] := rfl
attribute [go_sem] cells_map cells_nilmap cells_yield cells_msl
theorem lkX_osv {P : Program} {kt : TypeId} {z : PV} {σ : Sg} {l : List (Option (List PV))} {rm : List Nat} {ys : List LState} {d : Nat} {cs : List PV} {k : PV} {ok : Bool} (h : d < σ.store.length) : lkX P kt z ((σ.setVar d cs).ext l rm ys) d k ok = lkM P kt z (some (some cs)) k ok := by
  simp only [lkX, get_svx h]
theorem upX_osv {P : Program} {kt : TypeId} {σ : Sg} {l : List (Option (List PV))} {rm : List Nat} {ys : List LState} {d : Nat} {cs : List PV} {k v : PV} (h : d < σ.store.length) : upX P kt ((σ.setVar d cs).ext l rm ys) d k v = (upM P kt (some (some cs)) k v).map fun cs' => (σ.setVar d cs').ext l rm ys := by
  simp only [upX, get_svx h]
  cases upM P kt (some (some cs)) k v with
  | none => rfl
  | some x => simp only [Option.map_some, sv_ext_sv h]
theorem upKm {k : Kn} {a b : Int} {v : List Int} (h : v ≠ []) : upM Try.prog 104 (some (some (.mark :: knE k))) (.agg [.int .i64 a, .int .i64 b]) (.isl (v.map I) .ro) = some (.mark :: knE (aput (a, b) v k)) := by
  cases v with
  | nil => exact absurd rfl h
  | cons x v => exact upKs
/-- No envelope without marks. -/
def KnPos (k : Kn) : Prop := ∀ e, e ∈ k → e.2 ≠ []
theorem KnPos.get {k : Kn} (h : KnPos k) {j : Int × Int} {l : List Int} (e : aget j k = some l) : l ≠ [] := h _ (aget_mem e)
theorem aput_mem {κ ν : Type} [DecidableEq κ] {j : κ} {v : ν} : ∀ {k : List (κ × ν)} {e : κ × ν}, e ∈ aput j v k → e = (j, v) ∨ e ∈ k := by
  intro k
  induction k with
  | nil => intro e h; simp [aput] at h; exact .inl h
  | cons x k ih =>
    intro e h
    simp only [aput] at h
    split at h
    · rcases List.mem_cons.1 h with h | h
      · exact .inl h
      · exact .inr (List.mem_cons_of_mem _ h)
    · rcases List.mem_cons.1 h with h | h
      · exact .inr (h ▸ List.mem_cons_self ..)
      · rcases ih h with h | h
        · exact .inl h
        · exact .inr (List.mem_cons_of_mem _ h)
theorem KnPos.put {k : Kn} (h : KnPos k) {j : Int × Int} {l : List Int} (hl : l ≠ []) : KnPos (aput j l k) := fun e he => by
  rcases aput_mem he with rfl | he
  · exact hl
  · exact h e he
structure Night.Ok (n : Night) : Prop where
  ho : n.opened.length < 2 ^ 40
  ha : n.absent.length < 2 ^ 40
  hf : n.fines.length < 2 ^ 40
  hm : ∀ x, x ∈ n.opened → x.marks.length < 2 ^ 40
set_option maxHeartbeats 2000000 in
theorem open_pc (Y : YEnv) (σ : Sg) (id : Nat) (k : Kn) (hd : σ.store[id]? = some (some (.mark :: knE k))) (s : Scale) (l : List Envl) (hv : s.V) (hk : KnPos k) (hk2 : ∀ e, e ∈ k → e.2.length < 2 ^ 40) (hl : l.length < 2 ^ 40) (hm : ∀ x, x ∈ l → x.marks.length < 2 ^ 40) :
    PC Try.prog Y 56 [.map id, scPV s, evs l] σ (I (openK s l k).1) (σ.setVar id (.mark :: knE (openK s l k).2)) := by
  refine PC_of_W Try.func56 rfl (by kernel_rfl) Try.ntmps56 (by simp) fun hcl hca => ?_
  have hlt := lt_of_get hd
  have q1 := hv.mt
  have q2 := hv.jd
  have q3 := hv.sc
  have q4 := hv.lo
  have q5 := hv.hi
  obtain ⟨res, hres⟩ : ∃ r, openK s l k = r := ⟨_, rfl⟩
  rw [hres]
  refine W_seq fun kz1 kq1 => ?_
  refine W_region [0, 2, 4] fun R hR => ?_   -- r0
  simp only [go_sem, ldS_at hd, stX_at hd, ldS_sv hlt, stX_sv hlt, sv_ext hlt, sv_ext_sv hlt, lkX_osv hlt, upX_osv hlt]
  refine hR _ _ (kq1 _ _ ?_); clear hR R; try clear kq1 kz1
  try simp only [go_sem, ldS_at hd, stX_at hd, ldS_sv hlt, stX_sv hlt, sv_ext hlt, sv_ext_sv hlt, lkX_osv hlt, upX_osv hlt]
  refine W_seq fun kz2 kq2 => ?_
  refine W_seq fun kz3 kq3 => ?_
  refine W_region [0, 4, 13, 14, 15] fun R hR => ?_   -- r1
  simp only [go_sem, ldS_at hd, stX_at hd, ldS_sv hlt, stX_sv hlt, sv_ext hlt, sv_ext_sv hlt, lkX_osv hlt, upX_osv hlt]
  refine hR _ _ (kq3 _ _ ?_); clear hR R; try clear kq3 kz3
  try simp only [go_sem, ldS_at hd, stX_at hd, ldS_sv hlt, stX_sv hlt, sv_ext hlt, sv_ext_sv hlt, lkX_osv hlt, upX_osv hlt]
  refine W_block ?_
  refine W_loopT (α := Nat × Kn) (fun ⟨i, kk⟩ => [(15, I i)]) (fun ⟨i, kk⟩ => (σ.setVar id (.mark :: knE kk)).ext [some (scCells s)] []) (fun ⟨i, kk⟩ => i ≤ l.length ∧ KnPos kk ∧ (∀ e, e ∈ kk → e.2.length < 2 ^ 40) ∧ res = openK s (l.drop i) kk) (fun ⟨i, kk⟩ => l.length - i) ((0, k)) rfl (by simp only [go_sem, sv_self hd]) (⟨Nat.zero_le _, hk, hk2, hres.symm⟩) ?_
  rintro ⟨i, kk⟩ ⟨hi, hkk, hkl, hinv⟩
  refine W_seq fun kz4 kq4 => ?_
  refine W_region [0, 4, 13, 14, 15, 16] fun R hR => ?_   -- r2
  simp only [go_sem, ldS_at hd, stX_at hd, ldS_sv hlt, stX_sv hlt, sv_ext hlt, sv_ext_sv hlt, lkX_osv hlt, upX_osv hlt]
  refine hR _ _ (kq4 _ _ ?_); clear hR R; try clear kq4 kz4
  try simp only [go_sem, ldS_at hd, stX_at hd, ldS_sv hlt, stX_sv hlt, sv_ext hlt, sv_ext_sv hlt, lkX_osv hlt, upX_osv hlt]
  refine W_seq fun kz5 kq5 => ?_
  refine W_cond rfl (fun c1 => ?_) (fun c1 => ?_)
  · -- c1 true
    try simp only [nrm] at c1
    have hi' : i < l.length := by first | assumption | omega
    obtain ⟨x, hx⟩ : ∃ x, l[i]? = some x := ⟨l[i], by simp [hi']⟩
    have hdrop : l.drop i = x :: l.drop (i + 1) := by
      rw [List.drop_eq_getElem_cons hi']; congr 1; exact (List.getElem?_eq_some_iff.1 hx).2
    have hxl : x ∈ l := List.mem_of_getElem? hx
    rw [hdrop] at hinv
    simp only [openK] at hinv
    refine W_skip (kq5 _ _ ?_)
    refine W_seq fun kz6 kq6 => ?_
    refine W_block ?_
    refine W_seq fun kz7 kq7 => ?_
    refine W_region [0, 4, 8, 13, 14, 15] fun R hR => ?_   -- r3
    simp only [go_sem, ldS_at hd, stX_at hd, ldS_sv hlt, stX_sv hlt, sv_ext hlt, sv_ext_sv hlt, lkX_osv hlt, upX_osv hlt, hx]
    refine hR _ _ (kq7 _ _ ?_); clear hR R; try clear kq7 kz7
    try simp only [go_sem, ldS_at hd, stX_at hd, ldS_sv hlt, stX_sv hlt, sv_ext hlt, sv_ext_sv hlt, lkX_osv hlt, upX_osv hlt, hx]
    refine W_seq fun kz8 kq8 => ?_
    refine W_region [0, 4, 8, 9, 13, 14, 15] fun R hR => ?_   -- r4
    simp only [go_sem, ldS_at hd, stX_at hd, ldS_sv hlt, stX_sv hlt, sv_ext hlt, sv_ext_sv hlt, lkX_osv hlt, upX_osv hlt, hx]
    refine hR _ _ (kq8 _ _ ?_); clear hR R; try clear kq8 kz8
    try simp only [go_sem, ldS_at hd, stX_at hd, ldS_sv hlt, stX_sv hlt, sv_ext hlt, sv_ext_sv hlt, lkX_osv hlt, upX_osv hlt, hx]
    refine W_seq fun kz9 kq9 => ?_
    refine W_seq fun kz10 kq10 => ?_
    refine W_region [0, 4, 8, 9, 10, 13, 14, 15] fun R hR => ?_   -- r5
    simp only [go_sem, ldS_at hd, stX_at hd, ldS_sv hlt, stX_sv hlt, sv_ext hlt, sv_ext_sv hlt, lkX_osv hlt, upX_osv hlt, hx]
    refine GCall_of (marked_pc Y _ s (x.matter, x.judge) x.marks .ro (hm x hxl) hv) ?_   -- t28
    simp only [go_sem, ldS_at hd, stX_at hd, ldS_sv hlt, stX_sv hlt, sv_ext hlt, sv_ext_sv hlt, lkX_osv hlt, upX_osv hlt, hx]
    refine hR _ _ (kq10 _ _ ?_); clear hR R; try clear kq10 kz10
    try simp only [go_sem, ldS_at hd, stX_at hd, ldS_sv hlt, stX_sv hlt, sv_ext hlt, sv_ext_sv hlt, lkX_osv hlt, upX_osv hlt, hx]
    refine W_seq fun kz11 kq11 => ?_
    refine W_region [0, 4, 8, 9, 10, 13, 14, 15, 30] fun R hR => ?_   -- r6
    simp only [go_sem, ldS_at hd, stX_at hd, ldS_sv hlt, stX_sv hlt, sv_ext hlt, sv_ext_sv hlt, lkX_osv hlt, upX_osv hlt, hx]
    refine hR _ _ (kq11 _ _ ?_); clear hR R; try clear kq11 kz11
    try simp only [go_sem, ldS_at hd, stX_at hd, ldS_sv hlt, stX_sv hlt, sv_ext hlt, sv_ext_sv hlt, lkX_osv hlt, upX_osv hlt, hx]
    refine W_cond rfl (fun c2 => ?_) (fun c2 => ?_)
    · -- c2 true
      try simp only [nrm] at c2
      refine W_seq fun kz12 kq12 => ?_
      refine W_region [6] fun R hR => ?_   -- r7
      simp only [go_sem, ldS_at hd, stX_at hd, ldS_sv hlt, stX_sv hlt, sv_ext hlt, sv_ext_sv hlt, lkX_osv hlt, upX_osv hlt, hx]
      refine hR _ _ (kq12 _ _ ?_); clear hR R; try clear kq12 kz12
      try simp only [go_sem, ldS_at hd, stX_at hd, ldS_sv hlt, stX_sv hlt, sv_ext hlt, sv_ext_sv hlt, lkX_osv hlt, upX_osv hlt, hx]
      refine W_ret ?_
      simp only [go_sem, ldS_at hd, stX_at hd, ldS_sv hlt, stX_sv hlt, sv_ext hlt, sv_ext_sv hlt, lkX_osv hlt, upX_osv hlt, hx]
      refine ⟨.inr (by trivial), ?_⟩
      have hr2 : res.2 = kk := by rw [hinv] <;> first | rfl | (simp [*]; done) | (simp_all; done)
      rw [hr2]
      first | refine Fin_set hcl (by simp only [go_sem]) rfl (Wk_eq ?_ (by simp only [go_sem])) | refine Fin_set0 hcl (by simp only [go_sem]) rfl (Wk_eq ?_ (by simp only [go_sem]))
      try simp only [go_sem]
      all_goals
        first | rfl | (simp_all; done) | (simp_all; omega)
    · -- c2 false
      try simp only [nrm] at c2
      obtain ⟨k1, k2, k3⟩ := marked_ok c2
      simp only [ofSc_true] at k1
      have hne : x.marks ≠ [] := fun e => by rw [e] at k2; simp at k2; omega
      refine W_skip (kq9 _ _ ?_)
      refine W_seq fun kz13 kq13 => ?_
      refine W_seq fun kz14 kq14 => ?_
      refine W_draw [0, 4, 8, 9, 13, 14, 15, 38] [0, 1, 2, 3, 4, 5, 6] [(0, 7), (1, 7)] [[], [0], [], [], [3], [2, 3, 4], [0, 1, 2, 3, 4, 5]] mixed (by kernel_rfl) fun R hR => ?_   -- r8
      simp only [go_sem, ldS_at hd, stX_at hd, ldS_sv hlt, stX_sv hlt, sv_ext hlt, sv_ext_sv hlt, lkX_osv hlt, upX_osv hlt, hx]
      refine GCall_of (seal_pc Y _ (x.matter, x.judge) x.marks .ro (by omega) (by omega) (by omega) (fun z hz => by have := k3 z hz; omega)) ?_   -- t37
      simp only [go_sem, ldS_at hd, stX_at hd, ldS_sv hlt, stX_sv hlt, sv_ext hlt, sv_ext_sv hlt, lkX_osv hlt, upX_osv hlt, hx]
      try refine And.intro (by repeat' (first | refine And.intro ?_ ?_ | exact GOr_right (fun _ => by simp only [go_sem, ldS_at hd, stX_at hd, ldS_sv hlt, stX_sv hlt, sv_ext hlt, sv_ext_sv hlt, lkX_osv hlt, upX_osv hlt, hx]))) ?_
      refine hR _ _ (kq14 _ _ ?_); clear hR R; try clear kq14 kz14
      try simp only [go_sem, ldS_at hd, stX_at hd, ldS_sv hlt, stX_sv hlt, sv_ext hlt, sv_ext_sv hlt, lkX_osv hlt, upX_osv hlt, hx]
      refine W_cond rfl (fun c3 => ?_) (fun c3 => ?_)
      · -- c3 true
        try simp only [nrm] at c3
        refine W_seq fun kz15 kq15 => ?_
        refine W_region [6] fun R hR => ?_   -- r9
        simp only [go_sem, ldS_at hd, stX_at hd, ldS_sv hlt, stX_sv hlt, sv_ext hlt, sv_ext_sv hlt, lkX_osv hlt, upX_osv hlt, hx]
        refine hR _ _ (kq15 _ _ ?_); clear hR R; try clear kq15 kz15
        try simp only [go_sem, ldS_at hd, stX_at hd, ldS_sv hlt, stX_sv hlt, sv_ext hlt, sv_ext_sv hlt, lkX_osv hlt, upX_osv hlt, hx]
        refine W_ret ?_
        simp only [go_sem, ldS_at hd, stX_at hd, ldS_sv hlt, stX_sv hlt, sv_ext hlt, sv_ext_sv hlt, lkX_osv hlt, upX_osv hlt, hx]
        refine ⟨.inr (by trivial), ?_⟩
        have hr2 : res.2 = kk := by rw [hinv] <;> first | rfl | (simp [*]; done) | (simp_all; done)
        rw [hr2]
        first | refine Fin_set hcl (by simp only [go_sem]) rfl (Wk_eq ?_ (by simp only [go_sem])) | refine Fin_set0 hcl (by simp only [go_sem]) rfl (Wk_eq ?_ (by simp only [go_sem]))
        try simp only [go_sem]
        all_goals
          first | rfl | (simp_all; done) | (simp_all; omega)
      · -- c3 false
        try simp only [nrm] at c3
        refine W_skip (kq13 _ _ ?_)
        refine W_seq fun kz16 kq16 => ?_
        refine W_seq fun kz17 kq17 => ?_
        refine W_region [0, 4, 8, 9, 11, 12, 13, 14, 15] fun R hR => ?_   -- r10
        simp only [go_sem, ldS_at hd, stX_at hd, ldS_sv hlt, stX_sv hlt, sv_ext hlt, sv_ext_sv hlt, lkX_osv hlt, upX_osv hlt, hx]
        refine hR _ _ (kq17 _ _ ?_); clear hR R; try clear kq17 kz17
        try simp only [go_sem, ldS_at hd, stX_at hd, ldS_sv hlt, stX_sv hlt, sv_ext hlt, sv_ext_sv hlt, lkX_osv hlt, upX_osv hlt, hx]
        refine W_seq fun kz18 kq18 => ?_
        refine W_region [0, 4, 8, 9, 13, 14, 15, 52] fun R hR => ?_   -- r11
        simp only [go_sem, ldS_at hd, stX_at hd, ldS_sv hlt, stX_sv hlt, sv_ext hlt, sv_ext_sv hlt, lkX_osv hlt, upX_osv hlt, hx]
        refine GWant_split (fun g1 => ?_) (fun g1 => ?_)
        · try simp only [Bool.not_eq_true', Bool.not_eq_false'] at g1
          have n1 := g1; try simp only [nrm] at n1
          simp only [go_sem, ldS_at hd, stX_at hd, ldS_sv hlt, stX_sv hlt, sv_ext hlt, sv_ext_sv hlt, lkX_osv hlt, upX_osv hlt, hx, g1]
          obtain ⟨old, hold⟩ : ∃ z, aget (x.matter, x.judge) kk = some z := Option.isSome_iff_exists.1 (by assumption)
          simp only [hold, Option.getD_some, mkPV_ne (KnPos.get hkk hold)]
          have holdl : old.length < 2 ^ 50 := by have := hkl _ (aget_mem hold); simp only at this; omega
          refine GCall_of (Equal_pc Y _ old x.marks _ _ holdl) ?_   -- t50
          simp only [go_sem, ldS_at hd, stX_at hd, ldS_sv hlt, stX_sv hlt, sv_ext hlt, sv_ext_sv hlt, lkX_osv hlt, upX_osv hlt, hx, g1]
          refine hR _ _ (kq18 _ _ ?_); clear hR R; try clear kq18 kz18
          try simp only [go_sem, ldS_at hd, stX_at hd, ldS_sv hlt, stX_sv hlt, sv_ext hlt, sv_ext_sv hlt, lkX_osv hlt, upX_osv hlt, hx]
          refine W_cond rfl (fun c4 => ?_) (fun c4 => ?_)
          · -- c4 true
            try simp only [nrm] at c4
            refine W_seq fun kz19 kq19 => ?_
            refine W_region [6] fun R hR => ?_   -- r12
            simp only [go_sem, ldS_at hd, stX_at hd, ldS_sv hlt, stX_sv hlt, sv_ext hlt, sv_ext_sv hlt, lkX_osv hlt, upX_osv hlt, hx]
            refine hR _ _ (kq19 _ _ ?_); clear hR R; try clear kq19 kz19
            try simp only [go_sem, ldS_at hd, stX_at hd, ldS_sv hlt, stX_sv hlt, sv_ext hlt, sv_ext_sv hlt, lkX_osv hlt, upX_osv hlt, hx]
            refine W_ret ?_
            simp only [go_sem, ldS_at hd, stX_at hd, ldS_sv hlt, stX_sv hlt, sv_ext hlt, sv_ext_sv hlt, lkX_osv hlt, upX_osv hlt, hx]
            refine ⟨.inr (by trivial), ?_⟩
            have hr2 : res.2 = kk := by rw [hinv] <;> first | rfl | (simp [*]; done) | (simp_all; done)
            rw [hr2]
            first | refine Fin_set hcl (by simp only [go_sem]) rfl (Wk_eq ?_ (by simp only [go_sem])) | refine Fin_set0 hcl (by simp only [go_sem]) rfl (Wk_eq ?_ (by simp only [go_sem]))
            try simp only [go_sem]
            all_goals
              first | rfl | (simp_all; done) | (simp_all; omega)
          · -- c4 false
            try simp only [nrm] at c4
            refine W_skip (kq16 _ _ ?_)
            refine W_region [0, 4, 13, 14, 15] fun R hR => ?_   -- r13
            simp only [go_sem, ldS_at hd, stX_at hd, ldS_sv hlt, stX_sv hlt, sv_ext hlt, sv_ext_sv hlt, lkX_osv hlt, upX_osv hlt, hx, upKm hne]
            refine hR _ _ (kq6 _ _ ?_); clear hR R; try clear kq6 kz6
            try simp only [go_sem, ldS_at hd, stX_at hd, ldS_sv hlt, stX_sv hlt, sv_ext hlt, sv_ext_sv hlt, lkX_osv hlt, upX_osv hlt, hx]
            refine W_region [0, 4, 13, 14, 15] fun R hR => ?_   -- r14
            simp only [go_sem, ldS_at hd, stX_at hd, ldS_sv hlt, stX_sv hlt, sv_ext hlt, sv_ext_sv hlt, lkX_osv hlt, upX_osv hlt, hx]
            try simp (disch := omega) only [wrapI, wrapU]
            refine hR _ _ ?_; clear hR R
            try simp only [go_sem, ldS_at hd, stX_at hd, ldS_sv hlt, stX_sv hlt, sv_ext hlt, sv_ext_sv hlt, lkX_osv hlt, upX_osv hlt, hx]
            refine ⟨(i + 1, aput (x.matter, x.judge) x.marks kk), ?_, by (try simp only []); omega, ?_⟩
            · refine Weak.trans (Weak.cutSV 1 0 (by omega) (by omega) hcl (by simp only [go_sem]) (by simp only [go_sem] <;> omega) (by simp only [go_sem] <;> omega)) ?_
              simp only [go_sem]
              exact Weak.eq (by first | rfl | (simp only [go_sem]; done) | (simp only [go_sem]; rfl) | (simp [go_sem]; done) | (simp [go_sem]; omega)) (by first | rfl | (simp only [go_sem]; done) | (simp [go_sem]; done))
            · try dsimp only
              refine ⟨hi', hkk.put hne, ?_, ?_⟩
              · intro e he
                rcases aput_mem he with rfl | he
                · exact hm x hxl
                · exact hkl e he
              · simp_all
        · try simp only [Bool.not_eq_true', Bool.not_eq_false'] at g1
          have n1 := g1; try simp only [nrm] at n1
          simp only [go_sem, ldS_at hd, stX_at hd, ldS_sv hlt, stX_sv hlt, sv_ext hlt, sv_ext_sv hlt, lkX_osv hlt, upX_osv hlt, hx, g1]
          refine hR _ _ (kq18 _ _ ?_); clear hR R; try clear kq18 kz18
          try simp only [go_sem, ldS_at hd, stX_at hd, ldS_sv hlt, stX_sv hlt, sv_ext hlt, sv_ext_sv hlt, lkX_osv hlt, upX_osv hlt, hx]
          refine W_cond_false rfl ?_
          refine W_skip (kq16 _ _ ?_)
          refine W_region [0, 4, 13, 14, 15] fun R hR => ?_   -- r13
          simp only [go_sem, ldS_at hd, stX_at hd, ldS_sv hlt, stX_sv hlt, sv_ext hlt, sv_ext_sv hlt, lkX_osv hlt, upX_osv hlt, hx, upKm hne]
          refine hR _ _ (kq6 _ _ ?_); clear hR R; try clear kq6 kz6
          try simp only [go_sem, ldS_at hd, stX_at hd, ldS_sv hlt, stX_sv hlt, sv_ext hlt, sv_ext_sv hlt, lkX_osv hlt, upX_osv hlt, hx]
          refine W_region [0, 4, 13, 14, 15] fun R hR => ?_   -- r14
          simp only [go_sem, ldS_at hd, stX_at hd, ldS_sv hlt, stX_sv hlt, sv_ext hlt, sv_ext_sv hlt, lkX_osv hlt, upX_osv hlt, hx]
          try simp (disch := omega) only [wrapI, wrapU]
          refine hR _ _ ?_; clear hR R
          try simp only [go_sem, ldS_at hd, stX_at hd, ldS_sv hlt, stX_sv hlt, sv_ext hlt, sv_ext_sv hlt, lkX_osv hlt, upX_osv hlt, hx]
          refine ⟨(i + 1, aput (x.matter, x.judge) x.marks kk), ?_, by (try simp only []); omega, ?_⟩
          · refine Weak.trans (Weak.cutSV 1 0 (by omega) (by omega) hcl (by simp only [go_sem]) (by simp only [go_sem] <;> omega) (by simp only [go_sem] <;> omega)) ?_
            simp only [go_sem]
            exact Weak.eq (by first | rfl | (simp only [go_sem]; done) | (simp only [go_sem]; rfl) | (simp [go_sem]; done) | (simp [go_sem]; omega)) (by first | rfl | (simp only [go_sem]; done) | (simp [go_sem]; done))
          · try dsimp only
            refine ⟨hi', hkk.put hne, ?_, ?_⟩
            · intro e he
              rcases aput_mem he with rfl | he
              · exact hm x hxl
              · exact hkl e he
            · simp_all
  · -- c1 false
    try simp only [nrm] at c1
    have hdrop : l.drop i = [] := List.drop_eq_nil_of_le (by omega)
    rw [hdrop] at hinv
    simp only [openK] at hinv
    refine W_exit ?_
    simp only [go_sem, ldS_at hd, stX_at hd, ldS_sv hlt, stX_sv hlt, sv_ext hlt, sv_ext_sv hlt, lkX_osv hlt, upX_osv hlt]
    refine kq2 _ _ ?_
    refine W_seq fun kz20 kq20 => ?_
    refine W_region [6] fun R hR => ?_   -- r15
    simp only [go_sem, ldS_at hd, stX_at hd, ldS_sv hlt, stX_sv hlt, sv_ext hlt, sv_ext_sv hlt, lkX_osv hlt, upX_osv hlt]
    refine hR _ _ (kq20 _ _ ?_); clear hR R; try clear kq20 kz20
    try simp only [go_sem, ldS_at hd, stX_at hd, ldS_sv hlt, stX_sv hlt, sv_ext hlt, sv_ext_sv hlt, lkX_osv hlt, upX_osv hlt]
    refine W_ret ?_
    simp only [go_sem, ldS_at hd, stX_at hd, ldS_sv hlt, stX_sv hlt, sv_ext hlt, sv_ext_sv hlt, lkX_osv hlt, upX_osv hlt]
    refine ⟨.inr (by trivial), ?_⟩
    have hr2 : res.2 = kk := by rw [hinv] <;> first | rfl | (simp [*]; done) | (simp_all; done)
    rw [hr2]
    first | refine Fin_set hcl (by simp only [go_sem]) rfl (Wk_eq ?_ (by simp only [go_sem])) | refine Fin_set0 hcl (by simp only [go_sem]) rfl (Wk_eq ?_ (by simp only [go_sem]))
    try simp only [go_sem]
    all_goals
      first | rfl | (simp_all; done) | (simp_all; omega)
set_option maxHeartbeats 2000000 in
theorem miss_pc (Y : YEnv) (σ : Sg) (id : Nat) (k : Kn) (hd : σ.store[id]? = some (some (.mark :: knE k))) (s : Scale) (l : List (Int × Int)) (hv : s.V) (hl : l.length < 2 ^ 40) :
    PC Try.prog Y 57 [.map id, scPV s, sts l] σ (I (missK s l k).1) (σ.setVar id (.mark :: knE (missK s l k).2)) := by
  refine PC_of_W Try.func57 rfl (by kernel_rfl) Try.ntmps57 (by simp) fun hcl hca => ?_
  have hlt := lt_of_get hd
  obtain ⟨res, hres⟩ : ∃ r, missK s l k = r := ⟨_, rfl⟩
  rw [hres]
  refine W_seq fun kz1 kq1 => ?_
  refine W_region [0, 2, 4] fun R hR => ?_   -- r0
  simp only [go_sem, ldS_at hd, stX_at hd, ldS_sv hlt, stX_sv hlt, sv_ext hlt, sv_ext_sv hlt, lkX_osv hlt, upX_osv hlt]
  refine hR _ _ (kq1 _ _ ?_); clear hR R; try clear kq1 kz1
  try simp only [go_sem, ldS_at hd, stX_at hd, ldS_sv hlt, stX_sv hlt, sv_ext hlt, sv_ext_sv hlt, lkX_osv hlt, upX_osv hlt]
  refine W_seq fun kz2 kq2 => ?_
  refine W_seq fun kz3 kq3 => ?_
  refine W_region [0, 4, 10, 11, 12] fun R hR => ?_   -- r1
  simp only [go_sem, ldS_at hd, stX_at hd, ldS_sv hlt, stX_sv hlt, sv_ext hlt, sv_ext_sv hlt, lkX_osv hlt, upX_osv hlt]
  refine hR _ _ (kq3 _ _ ?_); clear hR R; try clear kq3 kz3
  try simp only [go_sem, ldS_at hd, stX_at hd, ldS_sv hlt, stX_sv hlt, sv_ext hlt, sv_ext_sv hlt, lkX_osv hlt, upX_osv hlt]
  refine W_block ?_
  refine W_loopT (α := Nat × Kn) (fun ⟨i, kk⟩ => [(12, I i)]) (fun ⟨i, kk⟩ => (σ.setVar id (.mark :: knE kk)).ext [some (scCells s)] []) (fun ⟨i, kk⟩ => i ≤ l.length ∧ res = missK s (l.drop i) kk) (fun ⟨i, kk⟩ => l.length - i) ((0, k)) rfl (by simp only [go_sem, sv_self hd]) (⟨Nat.zero_le _, hres.symm⟩) ?_
  rintro ⟨i, kk⟩ ⟨hi, hinv⟩
  refine W_seq fun kz4 kq4 => ?_
  refine W_region [0, 4, 10, 11, 12, 13] fun R hR => ?_   -- r2
  simp only [go_sem, ldS_at hd, stX_at hd, ldS_sv hlt, stX_sv hlt, sv_ext hlt, sv_ext_sv hlt, lkX_osv hlt, upX_osv hlt]
  refine hR _ _ (kq4 _ _ ?_); clear hR R; try clear kq4 kz4
  try simp only [go_sem, ldS_at hd, stX_at hd, ldS_sv hlt, stX_sv hlt, sv_ext hlt, sv_ext_sv hlt, lkX_osv hlt, upX_osv hlt]
  refine W_seq fun kz5 kq5 => ?_
  refine W_cond rfl (fun c1 => ?_) (fun c1 => ?_)
  · -- c1 true
    try simp only [nrm] at c1
    have hi' : i < l.length := by first | assumption | omega
    obtain ⟨x, hx⟩ : ∃ x, l[i]? = some x := ⟨l[i], by simp [hi']⟩
    have hdrop : l.drop i = x :: l.drop (i + 1) := by
      rw [List.drop_eq_getElem_cons hi']; congr 1; exact (List.getElem?_eq_some_iff.1 hx).2
    rw [hdrop] at hinv
    simp only [missK] at hinv
    refine W_skip (kq5 _ _ ?_)
    refine W_seq fun kz6 kq6 => ?_
    refine W_block ?_
    refine W_seq fun kz7 kq7 => ?_
    refine W_region [0, 4, 8, 10, 11, 12] fun R hR => ?_   -- r3
    simp only [go_sem, ldS_at hd, stX_at hd, ldS_sv hlt, stX_sv hlt, sv_ext hlt, sv_ext_sv hlt, lkX_osv hlt, upX_osv hlt, hx]
    refine hR _ _ (kq7 _ _ ?_); clear hR R; try clear kq7 kz7
    try simp only [go_sem, ldS_at hd, stX_at hd, ldS_sv hlt, stX_sv hlt, sv_ext hlt, sv_ext_sv hlt, lkX_osv hlt, upX_osv hlt, hx]
    refine W_seq fun kz8 kq8 => ?_
    refine W_region [0, 4, 9, 10, 11, 12] fun R hR => ?_   -- r4
    simp only [go_sem, ldS_at hd, stX_at hd, ldS_sv hlt, stX_sv hlt, sv_ext hlt, sv_ext_sv hlt, lkX_osv hlt, upX_osv hlt, hx]
    refine hR _ _ (kq8 _ _ ?_); clear hR R; try clear kq8 kz8
    try simp only [go_sem, ldS_at hd, stX_at hd, ldS_sv hlt, stX_sv hlt, sv_ext hlt, sv_ext_sv hlt, lkX_osv hlt, upX_osv hlt, hx]
    refine W_seq fun kz9 kq9 => ?_
    refine W_block ?_
    refine W_seq fun kz10 kq10 => ?_
    refine W_region [0, 4, 9, 10, 11, 12, 21] fun R hR => ?_   -- r5
    simp only [go_sem, ldS_at hd, stX_at hd, ldS_sv hlt, stX_sv hlt, sv_ext hlt, sv_ext_sv hlt, lkX_osv hlt, upX_osv hlt, hx]
    refine GCall_of (of_pc Y _ s x hv) ?_   -- t24
    simp only [go_sem, ldS_at hd, stX_at hd, ldS_sv hlt, stX_sv hlt, sv_ext hlt, sv_ext_sv hlt, lkX_osv hlt, upX_osv hlt, hx]
    refine hR _ _ (kq10 _ _ ?_); clear hR R; try clear kq10 kz10
    try simp only [go_sem, ldS_at hd, stX_at hd, ldS_sv hlt, stX_sv hlt, sv_ext hlt, sv_ext_sv hlt, lkX_osv hlt, upX_osv hlt, hx]
    refine W_cond rfl (fun c2 => ?_) (fun c2 => ?_)
    · -- c2 true
      try simp only [nrm] at c2
      refine W_seq fun kz11 kq11 => ?_
      refine W_region [6] fun R hR => ?_   -- r6
      simp only [go_sem, ldS_at hd, stX_at hd, ldS_sv hlt, stX_sv hlt, sv_ext hlt, sv_ext_sv hlt, lkX_osv hlt, upX_osv hlt, hx]
      refine hR _ _ (kq11 _ _ ?_); clear hR R; try clear kq11 kz11
      try simp only [go_sem, ldS_at hd, stX_at hd, ldS_sv hlt, stX_sv hlt, sv_ext hlt, sv_ext_sv hlt, lkX_osv hlt, upX_osv hlt, hx]
      refine W_ret ?_
      simp only [go_sem, ldS_at hd, stX_at hd, ldS_sv hlt, stX_sv hlt, sv_ext hlt, sv_ext_sv hlt, lkX_osv hlt, upX_osv hlt, hx]
      refine ⟨.inr (by trivial), ?_⟩
      have hr2 : res.2 = kk := by rw [hinv] <;> first | rfl | (simp [*]; done) | (simp_all; done)
      rw [hr2]
      first | refine Fin_set hcl (by simp only [go_sem]) rfl (Wk_eq ?_ (by simp only [go_sem])) | refine Fin_set0 hcl (by simp only [go_sem]) rfl (Wk_eq ?_ (by simp only [go_sem]))
      try simp only [go_sem]
      all_goals
        first | rfl | (simp_all; done) | (simp_all; omega)
    · -- c2 false
      try simp only [nrm] at c2
      refine W_seq fun kz12 kq12 => ?_
      refine W_region [0, 4, 9, 10, 11, 12, 26] fun R hR => ?_   -- r7
      simp only [go_sem, ldS_at hd, stX_at hd, ldS_sv hlt, stX_sv hlt, sv_ext hlt, sv_ext_sv hlt, lkX_osv hlt, upX_osv hlt, hx]
      refine hR _ _ (kq12 _ _ ?_); clear hR R; try clear kq12 kz12
      try simp only [go_sem, ldS_at hd, stX_at hd, ldS_sv hlt, stX_sv hlt, sv_ext hlt, sv_ext_sv hlt, lkX_osv hlt, upX_osv hlt, hx]
      refine W_cond rfl (fun c3 => ?_) (fun c3 => ?_)
      · -- c3 true
        try simp only [nrm] at c3
        refine W_seq fun kz13 kq13 => ?_
        refine W_region [6] fun R hR => ?_   -- r8
        simp only [go_sem, ldS_at hd, stX_at hd, ldS_sv hlt, stX_sv hlt, sv_ext hlt, sv_ext_sv hlt, lkX_osv hlt, upX_osv hlt, hx]
        refine hR _ _ (kq13 _ _ ?_); clear hR R; try clear kq13 kz13
        try simp only [go_sem, ldS_at hd, stX_at hd, ldS_sv hlt, stX_sv hlt, sv_ext hlt, sv_ext_sv hlt, lkX_osv hlt, upX_osv hlt, hx]
        refine W_ret ?_
        simp only [go_sem, ldS_at hd, stX_at hd, ldS_sv hlt, stX_sv hlt, sv_ext hlt, sv_ext_sv hlt, lkX_osv hlt, upX_osv hlt, hx]
        refine ⟨.inr (by trivial), ?_⟩
        have hr2 : res.2 = kk := by rw [hinv] <;> first | rfl | (simp [*]; done) | (simp_all; done)
        rw [hr2]
        first | refine Fin_set hcl (by simp only [go_sem]) rfl (Wk_eq ?_ (by simp only [go_sem])) | refine Fin_set0 hcl (by simp only [go_sem]) rfl (Wk_eq ?_ (by simp only [go_sem]))
        try simp only [go_sem]
        all_goals
          first | rfl | (simp_all; done) | (simp_all; omega)
      · -- c3 false
        try simp only [nrm] at c3
        refine W_skip (kq9 _ _ ?_)
        refine W_region [0, 4, 10, 11, 12] fun R hR => ?_   -- r9
        simp only [go_sem, ldS_at hd, stX_at hd, ldS_sv hlt, stX_sv hlt, sv_ext hlt, sv_ext_sv hlt, lkX_osv hlt, upX_osv hlt, hx]
        refine hR _ _ (kq6 _ _ ?_); clear hR R; try clear kq6 kz6
        try simp only [go_sem, ldS_at hd, stX_at hd, ldS_sv hlt, stX_sv hlt, sv_ext hlt, sv_ext_sv hlt, lkX_osv hlt, upX_osv hlt, hx]
        refine W_region [0, 4, 10, 11, 12] fun R hR => ?_   -- r10
        simp only [go_sem, ldS_at hd, stX_at hd, ldS_sv hlt, stX_sv hlt, sv_ext hlt, sv_ext_sv hlt, lkX_osv hlt, upX_osv hlt, hx]
        try simp (disch := omega) only [wrapI, wrapU]
        refine hR _ _ ?_; clear hR R
        try simp only [go_sem, ldS_at hd, stX_at hd, ldS_sv hlt, stX_sv hlt, sv_ext hlt, sv_ext_sv hlt, lkX_osv hlt, upX_osv hlt, hx]
        refine ⟨(i + 1, aput x [] kk), ?_, by (try simp only []); omega, ?_⟩
        · refine Weak.trans (Weak.cutSV 1 0 (by omega) (by omega) hcl (by simp only [go_sem]) (by simp only [go_sem] <;> omega) (by simp only [go_sem] <;> omega)) ?_
          simp only [go_sem]
          exact Weak.eq (by first | rfl | (simp only [go_sem]; done) | (simp only [go_sem]; rfl) | (simp [go_sem]; done) | (simp [go_sem]; omega)) (by first | rfl | (simp only [go_sem]; done) | (simp [go_sem]; done))
        · try dsimp only
          refine ⟨hi', ?_⟩
          simp_all
  · -- c1 false
    try simp only [nrm] at c1
    have hdrop : l.drop i = [] := List.drop_eq_nil_of_le (by omega)
    rw [hdrop] at hinv
    simp only [missK] at hinv
    refine W_exit ?_
    simp only [go_sem, ldS_at hd, stX_at hd, ldS_sv hlt, stX_sv hlt, sv_ext hlt, sv_ext_sv hlt, lkX_osv hlt, upX_osv hlt]
    refine kq2 _ _ ?_
    refine W_seq fun kz14 kq14 => ?_
    refine W_region [6] fun R hR => ?_   -- r11
    simp only [go_sem, ldS_at hd, stX_at hd, ldS_sv hlt, stX_sv hlt, sv_ext hlt, sv_ext_sv hlt, lkX_osv hlt, upX_osv hlt]
    refine hR _ _ (kq14 _ _ ?_); clear hR R; try clear kq14 kz14
    try simp only [go_sem, ldS_at hd, stX_at hd, ldS_sv hlt, stX_sv hlt, sv_ext hlt, sv_ext_sv hlt, lkX_osv hlt, upX_osv hlt]
    refine W_ret ?_
    simp only [go_sem, ldS_at hd, stX_at hd, ldS_sv hlt, stX_sv hlt, sv_ext hlt, sv_ext_sv hlt, lkX_osv hlt, upX_osv hlt]
    refine ⟨.inr (by trivial), ?_⟩
    have hr2 : res.2 = kk := by rw [hinv] <;> first | rfl | (simp [*]; done) | (simp_all; done)
    rw [hr2]
    first | refine Fin_set hcl (by simp only [go_sem]) rfl (Wk_eq ?_ (by simp only [go_sem])) | refine Fin_set0 hcl (by simp only [go_sem]) rfl (Wk_eq ?_ (by simp only [go_sem]))
    try simp only [go_sem]
    all_goals
      first | rfl | (simp_all; done) | (simp_all; omega)
set_option maxHeartbeats 2000000 in
theorem judges_pc (Y : YEnv) (σ : Sg) (s : Scale) :
    PC Try.prog Y 58 [scPV s] σ (.func (.func 78) [] [.ptr σ.store.length 0]) (σ.ext [some (scCells s)] []) := by
  refine PC_of_W Try.func58 rfl (by kernel_rfl) Try.ntmps58 (by simp) fun hcl hca => ?_
  refine W_seq fun kz1 kq1 => ?_
  refine W_region [1] fun R hR => ?_   -- r0
  simp only [go_sem]
  refine hR _ _ (kq1 _ _ ?_); clear hR R; try clear kq1 kz1
  try simp only [go_sem]
  refine W_seq fun kz2 kq2 => ?_
  refine W_region [2] fun R hR => ?_   -- r1
  simp only [go_sem]
  refine hR _ _ (kq2 _ _ ?_); clear hR R; try clear kq2 kz2
  try simp only [go_sem]
  refine W_ret ?_
  simp only [go_sem]
  refine ⟨.inr (by trivial), ?_⟩
  exact Fin_ext 1 0 hcl rfl (Wk_eq rfl (by simp only [go_sem] <;> omega)) (by show CleanLs _ _ _ _; simp only [go_sem])
  try simp only [go_sem]
  all_goals
    skip
set_option maxHeartbeats 2000000 in
theorem sealed_pc (Y : YEnv) (σ : Sg) (id : Nat) (hid : id < σ.store.length) (s : Scale) :
    PC Try.prog Y 43 [.map id, scPV s] σ (.func (.func 66) [] [.ptr (σ.store.length + 1) 0, .ptr σ.store.length 0]) (σ.ext [some [.map id], some (scCells s)] []) := by
  refine PC_of_W Try.func43 rfl (by kernel_rfl) Try.ntmps43 (by simp) fun hcl hca => ?_
  refine W_seq fun kz1 kq1 => ?_
  refine W_region [2, 3] fun R hR => ?_   -- r0
  simp only [go_sem]
  refine hR _ _ (kq1 _ _ ?_); clear hR R; try clear kq1 kz1
  try simp only [go_sem]
  refine W_seq fun kz2 kq2 => ?_
  refine W_region [4] fun R hR => ?_   -- r1
  simp only [go_sem]
  refine hR _ _ (kq2 _ _ ?_); clear hR R; try clear kq2 kz2
  try simp only [go_sem]
  refine W_ret ?_
  simp only [go_sem]
  refine ⟨.inr (by trivial), ?_⟩
  refine Fin_ext 2 0 hcl rfl (Wk_eq rfl ?_) ?_
  · simp only [go_sem] <;> omega
  · show CleanLs _ _ _ _
    simp only [go_sem] <;> omega
  try simp only [go_sem]
  all_goals
    skip
set_option maxHeartbeats 2000000 in
theorem judges1_pc (Y : YEnv) (σ : Sg) (y id : Nat) (s : Scale) (τ : Nat → Sg) (M J e : Nat) (stop : Bool) (hM : s.matters = M) (hJ : s.judges = J) (hMb : M < 2 ^ 40) (hJb : J < 2 ^ 40)
    (hst : ∀ t, t ≤ e → (τ t).store[id]? = some (some (scCells s))) (he : e ≤ M * J) (hs0 : stop = false → e = M * J) (hs1 : stop = true → 0 < e)
    (hY : ∀ m n, m < M → n < J → m * J + n < e → Y y [.agg [I m, I n]] (τ (m * J + n)) (!(stop && decide (m * J + n + 1 = e))) (τ (m * J + n + 1)))
    (hlen : (τ e).store.length = (τ 0).store.length) (hr : (τ e).rooms.length = (τ 0).rooms.length) (hy : (τ e).ys.length = (τ 0).ys.length) (hcl' : CleanSg (τ 0) → CleanSg (τ e)) :
    PC Try.prog Y 78 [.yield y, .ptr id 0] (τ 0) (.tuple []) (τ e) := by
  refine PC_of_W Try.func78 rfl (by kernel_rfl) Try.ntmps78 (by simp) fun hcl hca => ?_
  have hs00 := hst 0 (Nat.zero_le _)
  refine W_seq fun kz1 kq1 => ?_
  refine W_region [0, 1, 6, 7] fun R hR => ?_   -- r0
  simp only [go_sem, ldS_at hs00, hM, hJ]
  refine hR _ _ (kq1 _ _ ?_); clear hR R; try clear kq1 kz1
  try simp only [go_sem, ldS_at hs00, hM, hJ]
  refine W_block ?_
  refine W_loopT (α := Nat) (fun (m : Nat) => [(7, I m)]) (fun (m : Nat) => τ (m * J)) (fun (m : Nat) => m ≤ M ∧ m * J ≤ e ∧ (stop = true → m * J < e)) (fun (m : Nat) => M - m) (0) rfl (by rw [Nat.zero_mul]) (⟨Nat.zero_le _, by simp, by simpa using hs1⟩) ?_
  rintro m ⟨hmi, hme, hms⟩
  have hsm := hst (m * J) hme
  refine W_seq fun kz2 kq2 => ?_
  refine W_region [0, 1, 6, 7, 8] fun R hR => ?_   -- r1
  simp only [go_sem, ldS_at hs00, hM, hJ]
  refine hR _ _ (kq2 _ _ ?_); clear hR R; try clear kq2 kz2
  try simp only [go_sem, ldS_at hs00, hM, hJ]
  refine W_seq fun kz3 kq3 => ?_
  refine W_cond rfl (fun c1 => ?_) (fun c1 => ?_)
  · -- c1 true
    try simp only [nrm] at c1
    have hm : m < M := by first | omega | (simp at c1; omega)
    have hmul : m * J + J ≤ M * J := by rw [← Nat.succ_mul]; exact Nat.mul_le_mul_right _ hm
    have hlt : ∀ p, p < M * J → p ≤ e → (stop = true → p < e) → p < e := fun p h1 h2 h3 => by
      cases hst' : stop with
      | true => exact h3 hst'
      | false => rw [hs0 hst']; exact h1
    refine W_skip (kq3 _ _ ?_)
    refine W_seq fun kz4 kq4 => ?_
    refine W_block ?_
    refine W_seq fun kz5 kq5 => ?_
    refine W_region [0, 1, 3, 6, 7] fun R hR => ?_   -- r2
    simp only [go_sem, ldS_at hs00, hM, hJ]
    refine hR _ _ (kq5 _ _ ?_); clear hR R; try clear kq5 kz5
    try simp only [go_sem, ldS_at hs00, hM, hJ]
    refine W_seq fun kz6 kq6 => ?_
    refine W_region [0, 1, 3, 6, 7, 11, 12] fun R hR => ?_   -- r3
    simp only [go_sem, ldS_at hs00, hM, hJ, ldS_at hsm]
    refine hR _ _ (kq6 _ _ ?_); clear hR R; try clear kq6 kz6
    try simp only [go_sem, ldS_at hs00, hM, hJ]
    refine W_block ?_
    refine W_loopT (α := Nat) (fun (n : Nat) => [(12, I n)]) (fun (n : Nat) => τ (m * J + n)) (fun (n : Nat) => n ≤ J ∧ m * J + n ≤ e ∧ (stop = true → m * J + n < e)) (fun (n : Nat) => J - n) (0) rfl (by rw [Nat.add_zero]) (⟨Nat.zero_le _, hme, hms⟩) ?_
    rintro n ⟨hni, hne, hns⟩
    refine W_seq fun kz7 kq7 => ?_
    refine W_region [0, 1, 3, 6, 7, 11, 12, 13] fun R hR => ?_   -- r4
    simp only [go_sem, ldS_at hs00, hM, hJ]
    refine hR _ _ (kq7 _ _ ?_); clear hR R; try clear kq7 kz7
    try simp only [go_sem, ldS_at hs00, hM, hJ]
    refine W_seq fun kz8 kq8 => ?_
    refine W_cond rfl (fun c2 => ?_) (fun c2 => ?_)
    · -- c2 true
      try simp only [nrm] at c2
      have hn : n < J := by first | omega | (simp at c2; omega)
      have hpe := hlt (m * J + n) (by omega) hne hns
      refine W_skip (kq8 _ _ ?_)
      refine W_seq fun kz9 kq9 => ?_
      refine W_block ?_
      refine W_seq fun kz10 kq10 => ?_
      refine W_region [0, 1, 3, 4, 6, 7, 11, 12] fun R hR => ?_   -- r5
      simp only [go_sem, ldS_at hs00, hM, hJ]
      refine hR _ _ (kq10 _ _ ?_); clear hR R; try clear kq10 kz10
      try simp only [go_sem, ldS_at hs00, hM, hJ]
      refine W_seq fun kz11 kq11 => ?_
      refine W_region [0, 1, 3, 6, 7, 11, 12, 20] fun R hR => ?_   -- r6
      simp only [go_sem, ldS_at hs00, hM, hJ]
      refine GYield_of (hY m n hm hn hpe) ?_
      simp only [go_sem, ldS_at hs00, hM, hJ]
      refine hR _ _ (kq11 _ _ ?_); clear hR R; try clear kq11 kz11
      try simp only [go_sem, ldS_at hs00, hM, hJ]
      refine W_cond rfl (fun c3 => ?_) (fun c3 => ?_)
      · -- c3 true
        try simp only [nrm] at c3
        refine W_ret ?_
        simp only [go_sem, ldS_at hs00, hM, hJ]
        refine ⟨.inr (by trivial), ?_⟩
        have hp2 : m * J + n + 1 = e := by simp at c3; exact c3.2
        subst hp2
        exact Fin_end (rs := []) (hcl' hcl) hlen hr hy rfl (Wk.of_clean (.tuple _ Clean.all_nil))
        try simp only [go_sem]
        all_goals
          skip
      · -- c3 false
        try simp only [nrm] at c3
        refine W_skip (kq9 _ _ ?_)
        refine W_region [0, 1, 3, 6, 7, 11, 12] fun R hR => ?_   -- r7
        simp only [go_sem, ldS_at hs00, hM, hJ]
        try simp (disch := omega) only [wrapI, wrapU]
        refine hR _ _ ?_; clear hR R
        try simp only [go_sem, ldS_at hs00, hM, hJ]
        refine ⟨n + 1, ?_, by (try simp only []); omega, ?_⟩
        · first | exact Weak.refl | exact Weak.eq (by first | rfl | (simp only [go_sem]; done) | (simp only [go_sem]; rfl) | (simp [go_sem]; done) | (simp [go_sem]; omega)) (by first | rfl | (simp only [go_sem]; done) | (simp [go_sem]; done))
        · try dsimp only
          refine ⟨hn, by omega, fun h => ?_⟩
          have : ¬ (m * J + n + 1 = e) := fun h2 => by simp [h, h2] at c3
          omega
    · -- c2 false
      try simp only [nrm] at c2
      have hnJ : n = J := by first | omega | (simp at c2; omega)
      subst hnJ
      refine W_exit ?_
      simp only [go_sem, ldS_at hs00, hM, hJ]
      refine kq4 _ _ ?_
      refine W_region [0, 1, 6, 7] fun R hR => ?_   -- r8
      simp only [go_sem, ldS_at hs00, hM, hJ]
      try simp (disch := omega) only [wrapI, wrapU]
      refine hR _ _ ?_; clear hR R
      try simp only [go_sem, ldS_at hs00, hM, hJ]
      refine ⟨m + 1, ?_, by (try simp only []); omega, ?_⟩
      · exact Weak.eq (by first | rfl | (simp only [go_sem]; done)) (by rw [Nat.succ_mul])
      · try dsimp only
        rw [Nat.succ_mul]
        exact ⟨hm, hne, hns⟩
  · -- c1 false
    try simp only [nrm] at c1
    have hmM : m = M := by first | omega | (simp at c1; omega)
    subst hmM
    have hsf : stop = false := by cases h : stop with
      | false => rfl
      | true => have := hms h; omega
    have hee : e = m * J := hs0 hsf
    subst hee
    refine W_exit ?_
    simp only [go_sem, ldS_at hs00, hM, hJ]
    try simp only [go_sem, ldS_at hs00, hM, hJ]
    refine ⟨.inl (by trivial), ?_⟩
    exact Fin_end (rs := []) (hcl' hcl) hlen hr hy rfl (Wk.of_clean (.tuple _ Clean.all_nil))
    try simp only [go_sem]
    all_goals
      skip
set_option maxHeartbeats 2000000 in
theorem absent_pc (Y : YEnv) (σ : Sg) (id : Nat) (k : Kn) (hd : σ.store[id]? = some (some (.mark :: knE k))) (j : Int × Int) :
    PC Try.prog Y 59 [.map id, stPV j] σ (.bool (absentK k j)) (σ) := by
  refine PC_of_W Try.func59 rfl (by kernel_rfl) Try.ntmps59 (by simp) fun hcl hca => ?_
  have hlt := lt_of_get hd
  refine W_seq fun kz1 kq1 => ?_
  refine W_region [0, 3] fun R hR => ?_   -- r0
  simp only [go_sem, lkX, get_extx hd, hd]
  refine hR _ _ (kq1 _ _ ?_); clear hR R; try clear kq1 kz1
  try simp only [go_sem, lkX, get_extx hd, hd]
  refine W_seq fun kz2 kq2 => ?_
  refine W_region [5, 6] fun R hR => ?_   -- r1
  simp only [go_sem, lkX, get_extx hd, hd]
  refine hR _ _ (kq2 _ _ ?_); clear hR R; try clear kq2 kz2
  try simp only [go_sem, lkX, get_extx hd, hd]
  refine W_seq fun kz3 kq3 => ?_
  refine W_region [4] fun R hR => ?_   -- r2
  simp only [go_sem, lkX, get_extx hd, hd]
  refine GWant_split (fun g1 => ?_) (fun g1 => ?_)
  · try simp only [Bool.not_eq_true', Bool.not_eq_false'] at g1
    have n1 := g1; try simp only [nrm] at n1
    simp only [go_sem, lkX, get_extx hd, hd, g1]
    refine hR _ _ (kq3 _ _ ?_); clear hR R; try clear kq3 kz3
    try simp only [go_sem, lkX, get_extx hd, hd]
    refine W_ret ?_
    simp only [go_sem, lkX, get_extx hd, hd]
    refine ⟨.inr (by trivial), ?_⟩
    first | refine Fin_same hcl rfl (Wk_eq ?_ (by simp only [go_sem])) | refine Fin_self hcl rfl (Wk_eq ?_ (by simp only [go_sem]))
    try simp only [go_sem]
    all_goals
      simp only [absentK]; cases hk : aget j k with | none => simp_all | some l => cases l <;> simp_all
  · try simp only [Bool.not_eq_true', Bool.not_eq_false'] at g1
    have n1 := g1; try simp only [nrm] at n1
    simp only [go_sem, lkX, get_extx hd, hd, g1]
    refine hR _ _ (kq3 _ _ ?_); clear hR R; try clear kq3 kz3
    try simp only [go_sem, lkX, get_extx hd, hd]
    refine W_ret ?_
    simp only [go_sem, lkX, get_extx hd, hd]
    refine ⟨.inr (by trivial), ?_⟩
    first | refine Fin_same hcl rfl (Wk_eq ?_ (by simp only [go_sem])) | refine Fin_self hcl rfl (Wk_eq ?_ (by simp only [go_sem]))
    try simp only [go_sem]
    all_goals
      simp only [absentK]; cases hk : aget j k with | none => simp_all | some l => cases l <;> simp_all
set_option maxHeartbeats 2000000 in
theorem fines_pc (Y : YEnv) (σ : Sg) (s : Scale) (l : List (Int × Int)) (h : s.V) (hl : l.length < 2 ^ 40) :
    PC Try.prog Y 61 [scPV s, sts l] σ (I (finesE s l)) (σ) := by
  refine PC_of_W Try.func61 rfl (by kernel_rfl) Try.ntmps61 (by simp) fun hcl hca => ?_
  have h1 := h.sc
  obtain ⟨res, hres⟩ : ∃ r, finesE s l = r := ⟨_, rfl⟩
  rw [hres]
  refine W_seq fun kz1 kq1 => ?_
  refine W_region [1, 2] fun R hR => ?_   -- r0
  simp only [go_sem]
  refine hR _ _ (kq1 _ _ ?_); clear hR R; try clear kq1 kz1
  try simp only [go_sem]
  refine W_seq fun kz2 kq2 => ?_
  refine W_seq fun kz3 kq3 => ?_
  refine W_region [1, 2, 9] fun R hR => ?_   -- r1
  simp only [go_sem]
  refine hR _ _ (kq3 _ _ ?_); clear hR R; try clear kq3 kz3
  try simp only [go_sem]
  refine W_cond rfl (fun c1 => ?_) (fun c1 => ?_)
  · -- c1 true
    try simp only [nrm] at c1
    refine W_seq fun kz4 kq4 => ?_
    refine W_region [4] fun R hR => ?_   -- r2
    simp only [go_sem]
    refine hR _ _ (kq4 _ _ ?_); clear hR R; try clear kq4 kz4
    try simp only [go_sem]
    refine W_ret ?_
    simp only [go_sem]
    refine ⟨.inr (by trivial), ?_⟩
    first | refine Fin_same hcl rfl (Wk_eq ?_ (by simp only [go_sem])) | refine Fin_self hcl rfl (Wk_eq ?_ (by simp only [go_sem]))
    try simp only [go_sem]
    all_goals
      rw [← hres]; simp [finesE, *]; try omega
  · -- c1 false
    try simp only [nrm] at c1
    refine W_skip (kq2 _ _ ?_)
    refine W_seq fun kz5 kq5 => ?_
    refine W_seq fun kz6 kq6 => ?_
    refine W_region [2, 10, 11, 12] fun R hR => ?_   -- r3
    simp only [go_sem]
    refine hR _ _ (kq6 _ _ ?_); clear hR R; try clear kq6 kz6
    try simp only [go_sem]
    refine W_block ?_
    refine W_loopS (α := Nat) (fun (i : Nat) => [(12, I i)]) (fun (i : Nat) => i ≤ l.length ∧ res = finesR s (l.drop i)) (fun (i : Nat) => l.length - i) (0) rfl (⟨Nat.zero_le _, by rw [← hres]; simp [finesE, *] <;> omega⟩) ?_
    rintro i ⟨hi, hinv⟩
    refine W_seq fun kz7 kq7 => ?_
    refine W_region [2, 10, 11, 12, 13] fun R hR => ?_   -- r4
    simp only [go_sem]
    refine hR _ _ (kq7 _ _ ?_); clear hR R; try clear kq7 kz7
    try simp only [go_sem]
    refine W_seq fun kz8 kq8 => ?_
    refine W_cond rfl (fun c2 => ?_) (fun c2 => ?_)
    · -- c2 true
      try simp only [nrm] at c2
      have hi' : i < l.length := by first | assumption | omega
      obtain ⟨x, hx⟩ : ∃ x, l[i]? = some x := ⟨l[i], by simp [hi']⟩
      have hdrop : l.drop i = x :: l.drop (i + 1) := by
        rw [List.drop_eq_getElem_cons hi']; congr 1; exact (List.getElem?_eq_some_iff.1 hx).2
      rw [hdrop] at hinv
      simp only [finesR] at hinv
      refine W_skip (kq8 _ _ ?_)
      refine W_seq fun kz9 kq9 => ?_
      refine W_block ?_
      refine W_seq fun kz10 kq10 => ?_
      refine W_region [2, 6, 10, 11, 12] fun R hR => ?_   -- r5
      simp only [go_sem, hx]
      refine hR _ _ (kq10 _ _ ?_); clear hR R; try clear kq10 kz10
      try simp only [go_sem, hx]
      refine W_block ?_
      refine W_seq fun kz11 kq11 => ?_
      refine W_region [2, 6, 10, 11, 12, 16] fun R hR => ?_   -- r6
      simp only [go_sem, hx]
      try simp (disch := omega) only [wrapI, wrapU]
      refine GCall_of (in_pc Y _ x.1 0 _) ?_   -- t22
      simp only [go_sem, hx]
      try simp (disch := omega) only [wrapI, wrapU]
      refine hR _ _ (kq11 _ _ ?_); clear hR R; try clear kq11 kz11
      try simp only [go_sem, hx]
      refine W_cond rfl (fun c3 => ?_) (fun c3 => ?_)
      · -- c3 true
        try simp only [nrm] at c3
        refine W_seq fun kz12 kq12 => ?_
        refine W_region [4] fun R hR => ?_   -- r7
        simp only [go_sem, hx]
        refine hR _ _ (kq12 _ _ ?_); clear hR R; try clear kq12 kz12
        try simp only [go_sem, hx]
        refine W_ret ?_
        simp only [go_sem, hx]
        refine ⟨.inr (by trivial), ?_⟩
        first | refine Fin_same hcl rfl (Wk_eq ?_ (by simp only [go_sem])) | refine Fin_self hcl rfl (Wk_eq ?_ (by simp only [go_sem]))
        try simp only [go_sem]
        all_goals
          first | rfl | (simp_all; done) | (simp_all; omega)
      · -- c3 false
        try simp only [nrm] at c3
        refine W_seq fun kz13 kq13 => ?_
        refine W_region [2, 10, 11, 12, 24] fun R hR => ?_   -- r8
        simp only [go_sem, hx]
        refine GCall_of (in_pc Y _ x.2 0 1000) ?_   -- t27
        simp only [go_sem, hx]
        refine hR _ _ (kq13 _ _ ?_); clear hR R; try clear kq13 kz13
        try simp only [go_sem, hx]
        refine W_cond rfl (fun c4 => ?_) (fun c4 => ?_)
        · -- c4 true
          try simp only [nrm] at c4
          refine W_seq fun kz14 kq14 => ?_
          refine W_region [4] fun R hR => ?_   -- r9
          simp only [go_sem, hx]
          refine hR _ _ (kq14 _ _ ?_); clear hR R; try clear kq14 kz14
          try simp only [go_sem, hx]
          refine W_ret ?_
          simp only [go_sem, hx]
          refine ⟨.inr (by trivial), ?_⟩
          first | refine Fin_same hcl rfl (Wk_eq ?_ (by simp only [go_sem])) | refine Fin_self hcl rfl (Wk_eq ?_ (by simp only [go_sem]))
          try simp only [go_sem]
          all_goals
            first | rfl | (simp_all; done) | (simp_all; omega)
        · -- c4 false
          try simp only [nrm] at c4
          refine W_skip (kq9 _ _ ?_)
          refine W_region [2, 10, 11, 12] fun R hR => ?_   -- r10
          simp only [go_sem, hx]
          try simp (disch := omega) only [wrapI, wrapU]
          refine hR _ _ ?_; clear hR R
          try simp only [go_sem, hx]
          refine ⟨i + 1, ?_, by (try simp only []); omega, ?_⟩
          · refine Weak.trans (Weak.cutX 1 0 (by omega) (by omega) hcl (by simp only [go_sem] <;> omega) (by simp only [go_sem] <;> omega)) ?_
            simp only [go_sem]
            exact Weak.eq (by first | rfl | (simp only [go_sem]; done) | (simp only [go_sem]; rfl) | (simp [go_sem]; done) | (simp [go_sem]; omega)) (by first | rfl | (simp only [go_sem]; done) | (simp [go_sem]; done))
          · try dsimp only
            exact ⟨hi', by simp_all⟩
    · -- c2 false
      try simp only [nrm] at c2
      have hdrop : l.drop i = [] := List.drop_eq_nil_of_le (by omega)
      rw [hdrop] at hinv
      simp only [finesR] at hinv
      refine W_exit ?_
      simp only [go_sem]
      refine kq5 _ _ ?_
      refine W_seq fun kz15 kq15 => ?_
      refine W_region [4] fun R hR => ?_   -- r11
      simp only [go_sem]
      refine hR _ _ (kq15 _ _ ?_); clear hR R; try clear kq15 kz15
      try simp only [go_sem]
      refine W_ret ?_
      simp only [go_sem]
      refine ⟨.inr (by trivial), ?_⟩
      first | refine Fin_same hcl rfl (Wk_eq ?_ (by simp only [go_sem])) | refine Fin_self hcl rfl (Wk_eq ?_ (by simp only [go_sem]))
      try simp only [go_sem]
      all_goals
        first | rfl | (simp_all; done) | (simp_all; omega)
end Go.Proofs.Ytgelnjmddabgpaa
namespace Go.Proofs.Ytgelnjmddabgpaa
set_option maxRecDepth 100000
def jdE (x : Envl) : Int × Int := (x.matter, x.judge)
structure GoodE (s : Scale) (x : Envl) : Prop where
  m : marked s (jdE x) x.marks = 0
  sl : x.sl = sealOf (jdE x) x.marks
def SameE (l : List Envl) : Prop := ∀ x, x ∈ l → ∀ y, y ∈ l → jdE x = jdE y → x.marks = y.marks
/-- The first envelope of a judge. -/
def findE (l : List Envl) (j : Int × Int) : Option (List Int) := (l.find? fun x => decide (jdE x = j)).map (·.marks)
theorem findE_nil (j : Int × Int) : findE [] j = none := rfl
theorem findE_cons (x : Envl) (l : List Envl) (j : Int × Int) : findE (x :: l) j = if jdE x = j then some x.marks else findE l j := by
  unfold findE
  rw [List.find?_cons]
  by_cases h : jdE x = j <;> simp [h]
theorem findE_some {l : List Envl} {j : Int × Int} {v : List Int} (h : findE l j = some v) : ∃ x, x ∈ l ∧ jdE x = j ∧ x.marks = v := by
  induction l with
  | nil => cases h
  | cons x l ih =>
    rw [findE_cons] at h
    split at h
    · cases h; exact ⟨x, by simp, by assumption, rfl⟩
    · obtain ⟨y, h1, h2⟩ := ih h; exact ⟨y, by simp [h1], h2⟩
theorem findE_none {l : List Envl} {j : Int × Int} : findE l j = none ↔ ∀ x, x ∈ l → jdE x ≠ j := by
  induction l with
  | nil => simp [findE_nil]
  | cons x l ih =>
    rw [findE_cons]
    split
    · constructor
      · intro h; cases h
      · intro h; exact absurd (by assumption) (h x (by simp))
    · rw [ih]
      constructor
      · intro h y hy
        rcases List.mem_cons.1 hy with rfl | hy
        · assumption
        · exact h y hy
      · intro h y hy; exact h y (by simp [hy])
theorem findE_mem {l : List Envl} (hs : SameE l) {x : Envl} (hx : x ∈ l) : findE l (jdE x) = some x.marks := by
  cases h : findE l (jdE x) with
  | none => exact absurd rfl (findE_none.1 h x hx)
  | some v =>
    obtain ⟨y, h1, h2, rfl⟩ := findE_some h
    rw [hs y h1 x hx h2]
theorem openK_zero {s : Scale} : ∀ {l : List Envl} {k : Kn}, (openK s l k).1 = 0 ↔ (∀ x, x ∈ l → GoodE s x) ∧ SameE l ∧ ∀ x, x ∈ l → ∀ o, aget (jdE x) k = some o → o = x.marks := by
  intro l
  induction l with
  | nil => intro k; simp [openK, SameE]
  | cons x l ih =>
    intro k
    have hj : (x.matter, x.judge) = jdE x := rfl
    simp only [openK, hj]
    by_cases h1 : marked s (jdE x) x.marks = 0
    · rw [if_neg (by simp [h1])]
      by_cases h2 : x.sl = sealOf (jdE x) x.marks
      · rw [if_neg (by simp [h2])]
        cases ho : aget (jdE x) k with
        | none =>
          simp only [Bool.false_eq_true, if_false]
          rw [ih]
          constructor
          · rintro ⟨a, b, c⟩
            refine ⟨fun y hy => ?_, fun y hy z hz e => ?_, fun y hy o hoo => ?_⟩
            · rcases List.mem_cons.1 hy with rfl | hy
              · exact ⟨h1, h2⟩
              · exact a y hy
            · rcases List.mem_cons.1 hy with rfl | hy'
              · rcases List.mem_cons.1 hz with rfl | hz
                · rfl
                · exact c z hz _ (by rw [aget_put, if_pos e.symm])
              · rcases List.mem_cons.1 hz with rfl | hz
                · exact (c y hy' _ (by rw [aget_put, if_pos e])).symm
                · exact b y hy' z hz e
            · rcases List.mem_cons.1 hy with rfl | hy
              · rw [ho] at hoo; cases hoo
              · by_cases e : jdE y = jdE x
                · rw [e, ho] at hoo; cases hoo
                · exact c y hy o (by rw [aget_put, if_neg e]; exact hoo)
          · rintro ⟨a, b, c⟩
            refine ⟨fun y hy => a y (by simp [hy]), fun y hy z hz e => b y (by simp [hy]) z (by simp [hz]) e, fun y hy o hoo => ?_⟩
            rw [aget_put] at hoo
            split at hoo
            · cases hoo; exact b x (by simp) y (by simp [hy]) (by symm; assumption)
            · exact c y (by simp [hy]) o hoo
        | some old =>
          by_cases h3 : old = x.marks
          · subst h3
            simp only [ne_eq, not_true_eq_false, decide_false, Bool.false_eq_true, if_false]
            rw [ih]
            constructor
            · rintro ⟨a, b, c⟩
              refine ⟨fun y hy => ?_, fun y hy z hz e => ?_, fun y hy o hoo => ?_⟩
              · rcases List.mem_cons.1 hy with rfl | hy
                · exact ⟨h1, h2⟩
                · exact a y hy
              · rcases List.mem_cons.1 hy with rfl | hy'
                · rcases List.mem_cons.1 hz with rfl | hz
                  · rfl
                  · exact c z hz _ (by rw [aget_put, if_pos e.symm])
                · rcases List.mem_cons.1 hz with rfl | hz
                  · exact (c y hy' _ (by rw [aget_put, if_pos e])).symm
                  · exact b y hy' z hz e
              · rcases List.mem_cons.1 hy with rfl | hy
                · rw [ho] at hoo; cases hoo; rfl
                · by_cases e : jdE y = jdE x
                  · rw [e, ho] at hoo; cases hoo; exact c y hy _ (by rw [aget_put, if_pos e])
                  · exact c y hy o (by rw [aget_put, if_neg e]; exact hoo)
            · rintro ⟨a, b, c⟩
              refine ⟨fun y hy => a y (by simp [hy]), fun y hy z hz e => b y (by simp [hy]) z (by simp [hz]) e, fun y hy o hoo => ?_⟩
              rw [aget_put] at hoo
              split at hoo
              · cases hoo; exact b x (by simp) y (by simp [hy]) (by symm; assumption)
              · exact c y (by simp [hy]) o hoo
          · simp only [ne_eq, h3, not_false_eq_true, decide_true, if_true]
            constructor
            · intro h; cases h
            · rintro ⟨_, _, c⟩; exact absurd (c x (by simp) old ho) h3
      · rw [if_pos (by simpa using h2)]
        constructor
        · intro h; cases h
        · rintro ⟨a, _⟩; exact absurd (a x (by simp)).sl h2
    · rw [if_pos (by simpa using h1)]
      constructor
      · intro h; exact absurd h h1
      · rintro ⟨a, _⟩; exact absurd (a x (by simp)).m h1
theorem openK_get {s : Scale} : ∀ {l : List Envl} {k : Kn}, (openK s l k).1 = 0 → ∀ j, aget j (openK s l k).2 = match findE l j with | some v => some v | none => aget j k := by
  intro l
  induction l with
  | nil => intro k _ j; rfl
  | cons x l ih =>
    intro k h j
    have hz := openK_zero.1 h
    have hj : (x.matter, x.judge) = jdE x := rfl
    simp only [openK, hj] at h ⊢
    obtain ⟨g1, g2⟩ := hz.1 x (by simp)
    rw [if_neg (by simp [g1]), if_neg (by simp [g2])] at h ⊢
    have key : (openK s l (aput (jdE x) x.marks k)).1 = 0 → aget j (openK s l (aput (jdE x) x.marks k)).2 = match findE (x :: l) j with | some v => some v | none => aget j k := by
      intro h
      rw [ih h j, findE_cons, aget_put]
      by_cases e : jdE x = j
      · subst e
        rw [if_pos rfl, if_pos rfl]
        cases hf : findE l (jdE x) with
        | none => rfl
        | some v =>
          obtain ⟨y, h1, h2, rfl⟩ := findE_some hf
          show some y.marks = some x.marks
          rw [hz.2.1 y (by simp [h1]) x (by simp) h2]
      · rw [if_neg e, if_neg (fun h => e h.symm)]
    cases ho : aget (jdE x) k with
    | none =>
      simp only [ho, Bool.false_eq_true, if_false] at h ⊢
      have := key h
      simpa only [ho] using this
    | some old =>
      have e := hz.2.2 x (by simp) old ho
      subst e
      simp only [ho, ne_eq, not_true_eq_false, decide_false, Bool.false_eq_true, if_false] at h ⊢
      have := key h
      simpa only [ho] using this
theorem missK_zero {s : Scale} : ∀ {l : List (Int × Int)} {k : Kn}, (missK s l k).1 = 0 ↔ ∀ j, j ∈ l → ofSc s j = true ∧ (aget j k).getD [] = [] := by
  intro l
  induction l with
  | nil => intro k; simp [missK]
  | cons x l ih =>
    intro k
    simp only [missK]
    by_cases h1 : ofSc s x = true
    · rw [h1]
      simp only [Bool.not_true, Bool.false_eq_true, if_false]
      by_cases h2 : (aget x k).getD [] = []
      · rw [if_neg (by simp [h2]), ih]
        constructor
        · intro a j hj
          rcases List.mem_cons.1 hj with rfl | hj
          · exact ⟨h1, h2⟩
          · refine ⟨(a j hj).1, ?_⟩
            have := (a j hj).2
            rw [aget_put] at this
            split at this
            · rename_i e; rw [e]; exact h2
            · exact this
        · intro a j hj
          refine ⟨(a j (by simp [hj])).1, ?_⟩
          rw [aget_put]
          split
          · rfl
          · exact (a j (by simp [hj])).2
      · rw [if_pos h2]
        constructor
        · intro h; cases h
        · intro a; exact absurd (a x (by simp)).2 h2
    · have : ofSc s x = false := by simpa using h1
      rw [this]
      constructor
      · intro h; cases h
      · intro a; exact absurd (a x (by simp)).1 h1
theorem missK_get {s : Scale} : ∀ {l : List (Int × Int)} {k : Kn}, (missK s l k).1 = 0 → ∀ j, aget j (missK s l k).2 = if j ∈ l then some [] else aget j k := by
  intro l
  induction l with
  | nil => intro k _ j; simp [missK]
  | cons x l ih =>
    intro k h j
    obtain ⟨g1, g2⟩ := missK_zero.1 h x (by simp)
    simp only [missK] at h ⊢
    rw [g1, if_neg (by simp), if_neg (by simp [g2])] at h ⊢
    rw [ih h j, aget_put]
    by_cases e : j ∈ l
    · rw [if_pos e, if_pos (by simp [e])]
    · rw [if_neg e]
      by_cases e2 : j = x
      · rw [if_pos e2, if_pos (by simp [e2])]
      · rw [if_neg e2, if_neg (by simp [e, e2])]
/-- What a night tells of a judge. -/
def kOf (n : Night) (j : Int × Int) : Option (List Int) := match findE n.opened j with
  | some v => some v
  | none => if j ∈ n.absent then some [] else none
structure NightV (s : Scale) (n : Night) : Prop where
  c : chkSc s = 0
  o60 : n.opened.length ≤ 60
  op : ∀ x, x ∈ n.opened → GoodE s x
  cs : SameE n.opened
  a60 : n.absent.length ≤ 60
  ab : ∀ j, j ∈ n.absent → ofSc s j = true ∧ ∀ x, x ∈ n.opened → jdE x ≠ j
  sh : ∀ m, 0 ≤ m → m < s.matters → ∃ q, (0 ≤ q ∧ q < s.judges) ∧ (m, q) ∉ n.absent
  fi : finesE s n.fines = 0
theorem GoodE.ne {s : Scale} (hv : s.V) {x : Envl} (h : GoodE s x) : x.marks ≠ [] := fun e => by
  obtain ⟨_, h2, _⟩ := marked_ok h.m
  have := hv.sc
  rw [e] at h2
  simp at h2
  omega
theorem mem_toI' {n x : Int} : x ∈ toI n ↔ 0 ≤ x ∧ x < n := by
  unfold toI
  rw [List.mem_map]
  constructor
  · rintro ⟨i, hi, rfl⟩
    have := List.mem_range.1 hi
    omega
  · rintro ⟨h1, h2⟩
    exact ⟨x.toNat, List.mem_range.2 (by omega), by omega⟩
theorem pre_get {s : Scale} {n : Night} (h1 : (openK s n.opened []).1 = 0) (h2 : (missK s n.absent (openK s n.opened []).2).1 = 0) (j : Int × Int) : aget j (knownK s n) = kOf n j := by
  unfold knownK kOf
  rw [missK_get h2, openK_get h1]
  have hm := missK_zero.1 h2
  cases hf : findE n.opened j with
  | none => rfl
  | some v =>
    simp only
    by_cases e : j ∈ n.absent
    · rw [if_pos e]
      have := (hm j e).2
      rw [openK_get h1, hf] at this
      simp at this
      rw [this]
    · rw [if_neg e]
theorem absentK_iff {k : Kn} {j : Int × Int} : absentK k j = true ↔ aget j k = some [] := by
  unfold absentK
  cases aget j k with
  | none => simp
  | some l => cases l <;> simp
theorem kOf_nil {s : Scale} (hv : s.V) {n : Night} (hop : ∀ x, x ∈ n.opened → GoodE s x) (hab : ∀ j, j ∈ n.absent → ∀ x, x ∈ n.opened → jdE x ≠ j) (j : Int × Int) : kOf n j = some [] ↔ j ∈ n.absent := by
  unfold kOf
  cases hf : findE n.opened j with
  | none => simp
  | some v =>
    obtain ⟨x, h1, h2, rfl⟩ := findE_some hf
    simp only [Option.some.injEq]
    constructor
    · intro e; exact absurd e ((hop x h1).ne hv)
    · intro e; exact absurd h2 (hab j e x h1)
theorem nightV_iff {s : Scale} {n : Night} : knownE s n = 0 ↔ NightV s n := by
  unfold knownE
  by_cases c1' : ¬ (chkSc s = 0)
  · have c1 := c1'
    rw [if_pos c1]
    exact ⟨fun h => absurd h c1, fun h => absurd h.c c1⟩
  have c1 := Classical.not_not.1 c1'
  rw [if_neg (by simp [c1])]
  by_cases c2' : ¬ (n.opened.length ≤ 60)
  · have c2 := c2'
    rw [if_pos (by omega)]
    exact ⟨fun h => absurd h (by decide), fun h => absurd h.o60 c2⟩
  have c2 := Classical.not_not.1 c2'
  rw [if_neg (by omega)]
  by_cases c3' : ¬ ((openK s n.opened []).1 = 0)
  · have c3 := c3'
    rw [if_pos c3]
    exact ⟨fun h => absurd h c3, fun h => absurd (openK_zero.2 ⟨h.op, h.cs, fun x _ o ho => by cases ho⟩) c3⟩
  have c3 := Classical.not_not.1 c3'
  rw [if_neg (by simp [c3])]
  by_cases c4' : ¬ (n.absent.length ≤ 60)
  · have c4 := c4'
    rw [if_pos (by omega)]
    exact ⟨fun h => absurd h (by decide), fun h => absurd h.a60 c4⟩
  have c4 := Classical.not_not.1 c4'
  rw [if_neg (by omega)]
  obtain ⟨o1, o2, _⟩ := openK_zero.1 c3
  have hv := Scale.v c1
  have hmi : (missK s n.absent (openK s n.opened []).2).1 = 0 ↔ ∀ j, j ∈ n.absent → ofSc s j = true ∧ ∀ x, x ∈ n.opened → jdE x ≠ j := by
    rw [missK_zero]
    constructor
    · intro h j hj
      refine ⟨(h j hj).1, fun x hx e => ?_⟩
      have := (h j hj).2
      rw [openK_get c3, ← e, findE_mem o2 hx] at this
      simp at this
      exact (o1 x hx).ne hv this
    · intro h j hj
      refine ⟨(h j hj).1, ?_⟩
      rw [openK_get c3, findE_none.2 (h j hj).2]
      rfl
  by_cases c5' : ¬ ((missK s n.absent (openK s n.opened []).2).1 = 0)
  · have c5 := c5'
    rw [if_pos c5]
    exact ⟨fun h => absurd h c5, fun h => absurd (hmi.2 h.ab) c5⟩
  have c5 := Classical.not_not.1 c5'
  rw [if_neg (by simp [c5])]
  have hab := hmi.1 c5
  have hk := pre_get c3 c5
  have hkn := kOf_nil hv o1 (fun j hj => (hab j hj).2)
  have hsh : shortK s (knownK s n) = false ↔ ∀ m, 0 ≤ m → m < s.matters → ∃ q, (0 ≤ q ∧ q < s.judges) ∧ (m, q) ∉ n.absent := by
    unfold shortK
    rw [List.any_eq_false]
    constructor
    · intro h m m0 m1
      have := h m (mem_toI'.2 ⟨m0, m1⟩)
      rw [List.all_eq_true] at this
      obtain ⟨q, hq⟩ := Classical.not_forall.1 this
      obtain ⟨hq1, hq2⟩ := Classical.not_imp.1 hq
      refine ⟨q, mem_toI'.1 hq1, fun e => hq2 ?_⟩
      rw [absentK_iff, hk, hkn]; exact e
    · intro h m hm
      obtain ⟨m0, m1⟩ := mem_toI'.1 hm
      obtain ⟨q, hq, hn⟩ := h m m0 m1
      rw [List.all_eq_true]
      intro ha
      have := ha q (mem_toI'.2 hq)
      rw [absentK_iff, hk, hkn] at this
      exact hn this
  by_cases c6 : shortK s (knownK s n) = true
  · rw [if_pos c6]
    exact ⟨fun h => absurd h (by decide), fun h => absurd (hsh.2 h.sh) (by rw [c6]; simp)⟩
  rw [if_neg c6]
  have c6' := hsh.1 (by simpa using c6)
  exact ⟨fun h => ⟨c1, c2, o1, o2, c4, hab, c6', h⟩, fun h => h.fi⟩
end Go.Proofs.Ytgelnjmddabgpaa
namespace Go.Proofs.Ytgelnjmddabgpaa
open Go Go.RowKit
set_option maxRecDepth 100000
/-- What depends on the drum's beat, and the beat behind it. -/
abbrev D (α : Type) := Int → α × Int
def dret {α : Type} (a : α) : D α := fun b => (a, b)
def dbind {α β : Type} (m : D α) (f : α → D β) : D β := fun b => f (m b).1 (m b).2
def Holds {α : Type} (m : D α) (R : α → Prop) : Prop := ∀ b, R (m b).1
theorem Holds.ret {α : Type} {a : α} {R : α → Prop} (h : R a) : Holds (dret a) R := fun _ => h
theorem Holds.bind {α β : Type} {m : D α} {f : α → D β} {R : α → Prop} {S : β → Prop} (h : Holds m R) (k : ∀ a, R a → Holds (f a) S) : Holds (dbind m f) S := fun b => k _ (h b) _
theorem Holds.mono {α : Type} {m : D α} {R S : α → Prop} (h : Holds m R) (k : ∀ a, R a → S a) : Holds m S := fun b => k _ (h b)
def xorU (a b : Int) : Int := match arith .xor .u64 a b with | some (.int _ n) => n | _ => 0
def hitB (b : Int) : Int := IntKind.u64.wrap (IntKind.u64.wrap (b * 15074714826142052245) + 11400714819323198485)
def hitM (x : Int) : Int := IntKind.u64.wrap (xorU x (x.fdiv 4294967296) * 15760922415973212899)
def hitX (b : Int) : Int := xorU (hitM (hitM (hitB b))) ((hitM (hitM (hitB b))).fdiv 4294967296)
theorem wrapU_bd (n : Int) : 0 ≤ IntKind.u64.wrap n ∧ IntKind.u64.wrap n ≤ 18446744073709551615 := by
  have h : IntKind.u64.wrap n = n % 18446744073709551616 := rfl
  rw [h]; omega
theorem hitX_bd (b : Int) : 0 ≤ hitX b ∧ hitX b ≤ 18446744073709551615 := wrapU_bd _
def roll0 (n : Int) : D Int := fun b => if n < 2 then (0, b) else ((hitX b / 2) % n, hitB b)
/-- A number drawn: sealed, so that nobody computes with it. -/
noncomputable def roll : Int → D Int := Classical.choose (⟨roll0, rfl⟩ : ∃ f, f = roll0)
theorem roll_eq : roll = fun n b => if n < 2 then (0, b) else ((hitX b / 2) % n, hitB b) := Classical.choose_spec (⟨roll0, rfl⟩ : ∃ f, f = roll0)
noncomputable def mid (lo hi : Int) : D Int := fun b => (lo + (roll (hi - lo + 1) b).1, (roll (hi - lo + 1) b).2)
noncomputable def anyOf (l : List Int) : D Int := fun b => ((l[(roll l.length b).1.toNat]?).getD 0, (roll l.length b).2)
theorem roll_bd (n : Int) : Holds (roll n) fun r => 0 ≤ r ∧ r < max n 1 := by
  intro b
  rw [roll_eq]
  dsimp only
  have := hitX_bd b
  by_cases h : n < 2
  · rw [if_pos h]; simp only []; omega
  · rw [if_neg h]
    have h1 := Int.emod_nonneg (hitX b / 2) (show n ≠ 0 by omega)
    have h2 := Int.emod_lt_of_pos (hitX b / 2) (show 0 < n by omega)
    simp only []; omega
theorem mid_bd (lo hi : Int) (h : lo ≤ hi) : Holds (mid lo hi) fun r => lo ≤ r ∧ r ≤ hi := by
  intro b
  have := roll_bd (hi - lo + 1) b
  simp only [mid] at *
  omega
theorem anyOf_mem (l : List Int) (h : l ≠ []) : Holds (anyOf l) fun r => r ∈ l := by
  intro b
  have := roll_bd l.length b
  simp only [anyOf] at *
  have hl : 0 < l.length := by cases l with | nil => exact absurd rfl h | cons => simp
  have hlt : (roll (l.length : Int) b).1.toNat < l.length := by omega
  rw [List.getElem?_eq_getElem hlt]
  exact List.getElem_mem hlt
set_option maxHeartbeats 2000000 in
theorem hit_pc (Y : YEnv) (σ : Sg) (d : Nat) (b : Int) (hd : σ.store[d]? = some (some [.int .u64 b])) :
    PC Try.prog Y 37 [.ptr d 0] σ (.int .u64 (hitX b)) (σ.setVar d [.int .u64 (hitB b)]) := by
  refine PC_of_W Try.func37 rfl (by kernel_rfl) Try.ntmps37 (by simp) fun hcl hca => ?_
  have hlt := lt_of_get hd
  refine W_seq fun kz1 kq1 => ?_
  refine W_region [0] fun R hR => ?_   -- r0
  simp only [go_sem, ldS_at hd, stX_at hd, ldS_sv hlt, stX_sv hlt, sv_ext hlt, sv_ext_sv hlt]
  refine hR _ _ (kq1 _ _ ?_); clear hR R; try clear kq1 kz1
  try simp only [go_sem, ldS_at hd, stX_at hd, ldS_sv hlt, stX_sv hlt, sv_ext hlt, sv_ext_sv hlt]
  refine W_seq fun kz2 kq2 => ?_
  refine W_region [0] fun R hR => ?_   -- r1
  simp only [go_sem, ldS_at hd, stX_at hd, ldS_sv hlt, stX_sv hlt, sv_ext hlt, sv_ext_sv hlt]
  try simp (disch := omega) only [wrapI, wrapU]
  refine hR _ _ (kq2 _ _ ?_); clear hR R; try clear kq2 kz2
  try simp only [go_sem, ldS_at hd, stX_at hd, ldS_sv hlt, stX_sv hlt, sv_ext hlt, sv_ext_sv hlt]
  refine W_seq fun kz3 kq3 => ?_
  refine W_region [3] fun R hR => ?_   -- r2
  simp only [go_sem, ldS_at hd, stX_at hd, ldS_sv hlt, stX_sv hlt, sv_ext hlt, sv_ext_sv hlt]
  refine hR _ _ (kq3 _ _ ?_); clear hR R; try clear kq3 kz3
  try simp only [go_sem, ldS_at hd, stX_at hd, ldS_sv hlt, stX_sv hlt, sv_ext hlt, sv_ext_sv hlt]
  refine W_seq fun kz4 kq4 => ?_
  refine W_region [3] fun R hR => ?_   -- r3
  simp only [go_sem, ldS_at hd, stX_at hd, ldS_sv hlt, stX_sv hlt, sv_ext hlt, sv_ext_sv hlt]
  try simp (disch := omega) only [wrapI, wrapU]
  refine hR _ _ (kq4 _ _ ?_); clear hR R; try clear kq4 kz4
  try simp only [go_sem, ldS_at hd, stX_at hd, ldS_sv hlt, stX_sv hlt, sv_ext hlt, sv_ext_sv hlt]
  refine W_seq fun kz5 kq5 => ?_
  refine W_region [3] fun R hR => ?_   -- r4
  simp only [go_sem, ldS_at hd, stX_at hd, ldS_sv hlt, stX_sv hlt, sv_ext hlt, sv_ext_sv hlt]
  try simp (disch := omega) only [wrapI, wrapU]
  refine hR _ _ (kq5 _ _ ?_); clear hR R; try clear kq5 kz5
  try simp only [go_sem, ldS_at hd, stX_at hd, ldS_sv hlt, stX_sv hlt, sv_ext hlt, sv_ext_sv hlt]
  refine W_seq fun kz6 kq6 => ?_
  refine W_region [2] fun R hR => ?_   -- r5
  simp only [go_sem, ldS_at hd, stX_at hd, ldS_sv hlt, stX_sv hlt, sv_ext hlt, sv_ext_sv hlt]
  refine hR _ _ (kq6 _ _ ?_); clear hR R; try clear kq6 kz6
  try simp only [go_sem, ldS_at hd, stX_at hd, ldS_sv hlt, stX_sv hlt, sv_ext hlt, sv_ext_sv hlt]
  refine W_ret ?_
  simp only [go_sem, ldS_at hd, stX_at hd, ldS_sv hlt, stX_sv hlt, sv_ext hlt, sv_ext_sv hlt]
  refine ⟨.inr (by trivial), ?_⟩
  first | refine Fin_set hcl (by simp only [go_sem]) rfl (Wk_eq ?_ (by simp only [go_sem])) | refine Fin_set0 hcl (by simp only [go_sem]) rfl (Wk_eq ?_ (by simp only [go_sem]))
  try simp only [go_sem]
  all_goals
    simp only [hitX, hitM, hitB, xorU, go_sem]; simp (disch := omega) only [wrapU]
set_option maxHeartbeats 2000000 in
theorem Roll_lo (Y : YEnv) (σ : Sg) (d : Nat) (n : Int) (hn : n < 2) :
    PC Try.prog Y 14 [.ptr d 0, I n] σ (I 0) (σ) := by
  refine PC_of_W Try.func14 rfl (by kernel_rfl) Try.ntmps14 (by simp) fun hcl hca => ?_
  refine W_seq fun kz1 kq1 => ?_
  refine W_region [0, 1] fun R hR => ?_   -- r0
  simp only [go_sem]
  refine hR _ _ (kq1 _ _ ?_); clear hR R; try clear kq1 kz1
  try simp only [go_sem]
  refine W_seq fun kz2 kq2 => ?_
  refine W_seq fun kz3 kq3 => ?_
  refine W_region [0, 1, 6] fun R hR => ?_   -- r1
  simp only [go_sem]
  refine hR _ _ (kq3 _ _ ?_); clear hR R; try clear kq3 kz3
  try simp only [go_sem]
  refine W_cond rfl (fun c1 => ?_) (fun c1 => ?_)
  · -- c1 true
    try simp only [nrm] at c1
    refine W_seq fun kz4 kq4 => ?_
    refine W_region [4] fun R hR => ?_   -- r2
    simp only [go_sem]
    refine hR _ _ (kq4 _ _ ?_); clear hR R; try clear kq4 kz4
    try simp only [go_sem]
    refine W_ret ?_
    simp only [go_sem]
    refine ⟨.inr (by trivial), ?_⟩
    first | refine Fin_same hcl rfl (Wk_eq ?_ (by simp only [go_sem])) | refine Fin_self hcl rfl (Wk_eq ?_ (by simp only [go_sem]))
    try simp only [go_sem]
    all_goals
      first | rfl | (simp_all; done) | (simp_all; omega)
  · -- c1 false
    try simp only [nrm] at c1
    exfalso
    omega
set_option maxHeartbeats 2000000 in
theorem Roll_hi (Y : YEnv) (σ : Sg) (d : Nat) (b : Int) (hd : σ.store[d]? = some (some [.int .u64 b])) (n : Int) (hn : 2 ≤ n) (hn2 : n < 2 ^ 62) :
    PC Try.prog Y 14 [.ptr d 0, I n] σ (I ((hitX b / 2) % n)) (σ.setVar d [.int .u64 (hitB b)]) := by
  refine PC_of_W Try.func14 rfl (by kernel_rfl) Try.ntmps14 (by simp) fun hcl hca => ?_
  have hlt := lt_of_get hd
  have hb := hitX_bd b
  have e1 : (hitX b).fdiv 2 = hitX b / 2 := Int.fdiv_eq_ediv_of_nonneg _ (by omega)
  have e2 : (hitX b / 2).tmod n = (hitX b / 2) % n := Int.tmod_eq_emod_of_nonneg (by omega)
  have h1 := Int.emod_nonneg (hitX b / 2) (show n ≠ 0 by omega)
  have h2 := Int.emod_lt_of_pos (hitX b / 2) (show 0 < n by omega)
  have e3 : ¬ n = 0 := by omega
  have e4 : IntKind.u64.wrap n = n := wrapU (by omega) (by omega)
  refine W_seq fun kz1 kq1 => ?_
  refine W_region [0, 1] fun R hR => ?_   -- r0
  simp only [go_sem, ldS_at hd, stX_at hd, ldS_sv hlt, stX_sv hlt, sv_ext hlt, sv_ext_sv hlt]
  refine hR _ _ (kq1 _ _ ?_); clear hR R; try clear kq1 kz1
  try simp only [go_sem, ldS_at hd, stX_at hd, ldS_sv hlt, stX_sv hlt, sv_ext hlt, sv_ext_sv hlt]
  refine W_seq fun kz2 kq2 => ?_
  refine W_seq fun kz3 kq3 => ?_
  refine W_region [0, 1, 6] fun R hR => ?_   -- r1
  simp only [go_sem, ldS_at hd, stX_at hd, ldS_sv hlt, stX_sv hlt, sv_ext hlt, sv_ext_sv hlt]
  refine hR _ _ (kq3 _ _ ?_); clear hR R; try clear kq3 kz3
  try simp only [go_sem, ldS_at hd, stX_at hd, ldS_sv hlt, stX_sv hlt, sv_ext hlt, sv_ext_sv hlt]
  refine W_cond rfl (fun c1 => ?_) (fun c1 => ?_)
  · -- c1 true
    try simp only [nrm] at c1
    exfalso
    omega
  · -- c1 false
    try simp only [nrm] at c1
    refine W_skip (kq2 _ _ ?_)
    refine W_seq fun kz4 kq4 => ?_
    refine W_region [4] fun R hR => ?_   -- r3
    simp only [go_sem, ldS_at hd, stX_at hd, ldS_sv hlt, stX_sv hlt, sv_ext hlt, sv_ext_sv hlt, e4, e1, e2, e3]
    refine GCall_of (hit_pc Y _ d b hd) ?_   -- t8
    simp only [go_sem, ldS_at hd, stX_at hd, ldS_sv hlt, stX_sv hlt, sv_ext hlt, sv_ext_sv hlt, e4, e1, e2, e3]
    try simp (disch := omega) only [wrapI, wrapU]
    refine hR _ _ (kq4 _ _ ?_); clear hR R; try clear kq4 kz4
    try simp only [go_sem, ldS_at hd, stX_at hd, ldS_sv hlt, stX_sv hlt, sv_ext hlt, sv_ext_sv hlt]
    refine W_ret ?_
    simp only [go_sem, ldS_at hd, stX_at hd, ldS_sv hlt, stX_sv hlt, sv_ext hlt, sv_ext_sv hlt]
    refine ⟨.inr (by trivial), ?_⟩
    first | refine Fin_set hcl (by simp only [go_sem]) rfl (Wk_eq ?_ (by simp only [go_sem])) | refine Fin_set0 hcl (by simp only [go_sem]) rfl (Wk_eq ?_ (by simp only [go_sem]))
    try simp only [go_sem]
    all_goals
      first | rfl | (simp_all; done) | (simp_all; omega)
theorem Roll_pc (Y : YEnv) (σ : Sg) (d : Nat) (b : Int) (hd : σ.store[d]? = some (some [.int .u64 b])) (n : Int) (hn2 : n < 2 ^ 62) : PC Try.prog Y 14 [.ptr d 0, I n] σ (I (roll n b).1) (σ.setVar d [.int .u64 (roll n b).2]) := by
  rw [roll_eq]
  dsimp only
  by_cases h : n < 2
  · rw [if_pos h]; simp only []; rw [sv_self hd]; exact Roll_lo Y σ d n h
  · rw [if_neg h]; exact Roll_hi Y σ d b hd n (by omega) hn2
set_option maxHeartbeats 2000000 in
theorem Mid_pc (Y : YEnv) (σ : Sg) (d : Nat) (b : Int) (hd : σ.store[d]? = some (some [.int .u64 b])) (lo hi : Int) (h1 : -2 ^ 60 ≤ lo) (h2 : lo ≤ 2 ^ 60) (h3 : -2 ^ 60 ≤ hi) (h4 : hi ≤ 2 ^ 60) :
    PC Try.prog Y 30 [.ptr d 0, I lo, I hi] σ (I (mid lo hi b).1) (σ.setVar d [.int .u64 (mid lo hi b).2]) := by
  refine PC_of_W Try.func30 rfl (by kernel_rfl) Try.ntmps30 (by simp) fun hcl hca => ?_
  have hlt := lt_of_get hd
  have hr := roll_bd (hi - lo + 1) b
  simp only [] at hr
  refine W_seq fun kz1 kq1 => ?_
  refine W_region [0, 1, 2] fun R hR => ?_   -- r0
  simp only [go_sem, ldS_at hd, stX_at hd, ldS_sv hlt, stX_sv hlt, sv_ext hlt, sv_ext_sv hlt]
  refine hR _ _ (kq1 _ _ ?_); clear hR R; try clear kq1 kz1
  try simp only [go_sem, ldS_at hd, stX_at hd, ldS_sv hlt, stX_sv hlt, sv_ext hlt, sv_ext_sv hlt]
  refine W_seq fun kz2 kq2 => ?_
  refine W_region [6] fun R hR => ?_   -- r1
  simp only [go_sem, ldS_at hd, stX_at hd, ldS_sv hlt, stX_sv hlt, sv_ext hlt, sv_ext_sv hlt]
  try simp (disch := omega) only [wrapI, wrapU]
  refine GCall_of (Roll_pc Y _ d b (by first | exact hd | exact sv_get hlt | exact get_svx hlt | exact get_extx hd) _ (by omega)) ?_   -- t13
  simp only [go_sem, ldS_at hd, stX_at hd, ldS_sv hlt, stX_sv hlt, sv_ext hlt, sv_ext_sv hlt]
  try simp (disch := omega) only [wrapI, wrapU]
  refine hR _ _ (kq2 _ _ ?_); clear hR R; try clear kq2 kz2
  try simp only [go_sem, ldS_at hd, stX_at hd, ldS_sv hlt, stX_sv hlt, sv_ext hlt, sv_ext_sv hlt]
  refine W_ret ?_
  simp only [go_sem, ldS_at hd, stX_at hd, ldS_sv hlt, stX_sv hlt, sv_ext hlt, sv_ext_sv hlt]
  refine ⟨.inr (by trivial), ?_⟩
  first | refine Fin_set hcl (by simp only [go_sem]) rfl (Wk_eq ?_ (by simp only [go_sem])) | refine Fin_set0 hcl (by simp only [go_sem]) rfl (Wk_eq ?_ (by simp only [go_sem]))
  try simp only [go_sem]
  all_goals
    first | rfl | (simp_all; done) | (simp_all; omega)
set_option maxHeartbeats 2000000 in
theorem Any_pc (Y : YEnv) (σ : Sg) (d : Nat) (b : Int) (hd : σ.store[d]? = some (some [.int .u64 b])) (l : List Int) (hl : l ≠ []) (hl2 : l.length < 2 ^ 50) :
    PC Try.prog Y 29 [.ptr d 0, .isl (l.map I) .exact] σ (I (anyOf l b).1) (σ.setVar d [.int .u64 (anyOf l b).2]) := by
  refine PC_of_W Try.func29 rfl (by kernel_rfl) Try.ntmps29 (by simp) fun hcl hca => ?_
  have hlt := lt_of_get hd
  have hr := roll_bd l.length b
  simp only [] at hr
  have hl0 : 0 < l.length := by cases l with | nil => exact absurd rfl hl | cons => simp
  have hlt2 : (roll (l.length : Int) b).1.toNat < l.length := by omega
  obtain ⟨x, hx⟩ : ∃ x, l[(roll (l.length : Int) b).1.toNat]? = some x := ⟨_, List.getElem?_eq_getElem hlt2⟩
  have hnn := hr.1
  refine W_seq fun kz1 kq1 => ?_
  refine W_region [0, 1] fun R hR => ?_   -- r0
  simp only [go_sem, ldS_at hd, stX_at hd, ldS_sv hlt, stX_sv hlt, sv_ext hlt, sv_ext_sv hlt]
  refine hR _ _ (kq1 _ _ ?_); clear hR R; try clear kq1 kz1
  try simp only [go_sem, ldS_at hd, stX_at hd, ldS_sv hlt, stX_sv hlt, sv_ext hlt, sv_ext_sv hlt]
  refine W_seq fun kz2 kq2 => ?_
  refine W_seq fun kz3 kq3 => ?_
  refine W_region [0, 1, 7] fun R hR => ?_   -- r1
  simp only [go_sem, ldS_at hd, stX_at hd, ldS_sv hlt, stX_sv hlt, sv_ext hlt, sv_ext_sv hlt]
  refine hR _ _ (kq3 _ _ ?_); clear hR R; try clear kq3 kz3
  try simp only [go_sem, ldS_at hd, stX_at hd, ldS_sv hlt, stX_sv hlt, sv_ext hlt, sv_ext_sv hlt]
  refine W_cond rfl (fun c1 => ?_) (fun c1 => ?_)
  · -- c1 true
    try simp only [nrm] at c1
    exfalso
    omega
  · -- c1 false
    try simp only [nrm] at c1
    refine W_skip (kq2 _ _ ?_)
    refine W_seq fun kz4 kq4 => ?_
    refine W_region [4] fun R hR => ?_   -- r3
    simp only [go_sem, ldS_at hd, stX_at hd, ldS_sv hlt, stX_sv hlt, sv_ext hlt, sv_ext_sv hlt, hnn, hx]
    refine GCall_of (Roll_pc Y _ d b (by first | exact hd | exact sv_get hlt | exact get_svx hlt | exact get_extx hd) _ (by omega)) ?_   -- t12
    simp only [go_sem, ldS_at hd, stX_at hd, ldS_sv hlt, stX_sv hlt, sv_ext hlt, sv_ext_sv hlt, hnn, hx]
    refine hR _ _ (kq4 _ _ ?_); clear hR R; try clear kq4 kz4
    try simp only [go_sem, ldS_at hd, stX_at hd, ldS_sv hlt, stX_sv hlt, sv_ext hlt, sv_ext_sv hlt]
    refine W_ret ?_
    simp only [go_sem, ldS_at hd, stX_at hd, ldS_sv hlt, stX_sv hlt, sv_ext hlt, sv_ext_sv hlt]
    refine ⟨.inr (by trivial), ?_⟩
    first | refine Fin_set hcl (by simp only [go_sem]) rfl (Wk_eq ?_ (by simp only [go_sem])) | refine Fin_set0 hcl (by simp only [go_sem]) rfl (Wk_eq ?_ (by simp only [go_sem]))
    try simp only [go_sem]
    all_goals
      simp only [anyOf, hx, Option.getD_some]
end Go.Proofs.Ytgelnjmddabgpaa
namespace Go.Proofs.Ytgelnjmddabgpaa
open Go Go.RowKit
set_option maxRecDepth 100000
def drumB : List Int → Int → Int
  | [], b => b
  | x :: r, b => drumB r (hitB (xorU b (IntKind.u64.wrap x)))
set_option maxHeartbeats 2000000 in
theorem DrumOf_pc (Y : YEnv) (σ : Sg) (nums : List Int) (hl : nums.length < 2 ^ 60) :
    PC Try.prog Y 9 [ints nums] σ (.ptr σ.store.length 0) (σ.ext [some [.int .u64 (drumB nums 2685821657736338717)]] []) := by
  refine PC_of_W Try.func9 rfl (by kernel_rfl) Try.ntmps9 (by simp) fun hcl hca => ?_
  refine W_seq fun kz1 kq1 => ?_
  refine W_region [0] fun R hR => ?_   -- r0
  simp only [go_sem]
  refine hR _ _ (kq1 _ _ ?_); clear hR R; try clear kq1 kz1
  try simp only [go_sem]
  refine W_seq fun kz2 kq2 => ?_
  refine W_region [0, 3] fun R hR => ?_   -- r1
  simp only [go_sem]
  refine hR _ _ (kq2 _ _ ?_); clear hR R; try clear kq2 kz2
  try simp only [go_sem]
  refine W_seq fun kz3 kq3 => ?_
  refine W_seq fun kz4 kq4 => ?_
  refine W_region [0, 3, 4] fun R hR => ?_   -- r2
  simp only [go_sem]
  refine hR _ _ (kq4 _ _ ?_); clear hR R; try clear kq4 kz4
  try simp only [go_sem]
  refine W_block ?_
  refine W_loopT (α := Nat × Int) (fun ⟨i, b⟩ => [(4, I i)]) (fun ⟨i, b⟩ => σ.ext [some [.int .u64 b]] []) (fun ⟨i, b⟩ => i ≤ nums.length ∧ drumB nums 2685821657736338717 = drumB (nums.drop i) b) (fun ⟨i, b⟩ => nums.length - i) ((0, 2685821657736338717)) rfl (by first | rfl | (simp only [go_sem]; done) | (simp only [go_sem]; rfl)) (⟨Nat.zero_le _, rfl⟩) ?_
  rintro ⟨i, b⟩ ⟨hi, hb⟩
  refine W_seq fun kz5 kq5 => ?_
  refine W_seq fun kz6 kq6 => ?_
  refine W_region [0, 3, 4, 10] fun R hR => ?_   -- r3
  simp only [go_sem]
  refine hR _ _ (kq6 _ _ ?_); clear hR R; try clear kq6 kz6
  try simp only [go_sem]
  refine W_cond rfl (fun c1 => ?_) (fun c1 => ?_)
  · -- c1 true
    try simp only [nrm] at c1
    have hi' : i < nums.length := by first | assumption | omega
    obtain ⟨x, hx⟩ : ∃ x, nums[i]? = some x := ⟨nums[i], by simp [hi']⟩
    have hdrop : nums.drop i = x :: nums.drop (i + 1) := by
      rw [List.drop_eq_getElem_cons hi']; congr 1; exact (List.getElem?_eq_some_iff.1 hx).2
    rw [hdrop] at hb
    simp only [drumB] at hb
    refine W_skip (kq5 _ _ ?_)
    refine W_seq fun kz7 kq7 => ?_
    refine W_block ?_
    refine W_seq fun kz8 kq8 => ?_
    refine W_draw [0, 3, 4] [0, 1, 2, 3, 4, 5, 6, 7, 8, 9, 10, 11, 12, 13] [] [[], [], [1], [1, 2], [1, 2, 3], [], [], [5, 6], [5, 6, 7], [5, 6, 7, 8], [1, 2, 3, 4, 5, 6, 7, 8, 9], [0, 1, 2, 3, 4, 5, 6, 7, 8, 9, 10], [0, 1, 2, 3, 4, 5, 6, 7, 8, 9, 10, 11], [0, 1, 2, 3, 4, 5, 6, 7, 8, 9, 10, 11, 12]] mixed (by kernel_rfl) fun R hR => ?_   -- r5
    simp only [go_sem, hx]
    try simp (disch := omega) only [wrapI, wrapU]
    try refine And.intro (by repeat' (first | refine And.intro ?_ ?_ | exact GOr_right (fun _ => by simp only [go_sem, hx]))) ?_
    refine hR _ _ (kq8 _ _ ?_); clear hR R; try clear kq8 kz8
    try simp only [go_sem, hx]
    refine W_region [0, 3, 4] fun R hR => ?_   -- r6
    simp only [go_sem, hx]
    refine GCall_of (hit_pc Y _ _ _ (Sg.get_ext0 _ _ _ _)) ?_   -- t27
    simp only [go_sem, hx]
    refine hR _ _ (kq7 _ _ ?_); clear hR R; try clear kq7 kz7
    try simp only [go_sem, hx]
    refine W_region [0, 3, 4] fun R hR => ?_   -- r4
    simp only [go_sem, hx]
    try simp (disch := omega) only [wrapI, wrapU]
    refine hR _ _ ?_; clear hR R
    try simp only [go_sem, hx]
    refine ⟨(i + 1, hitB (xorU b (IntKind.u64.wrap x))), ?_, by (try simp only []); omega, ?_⟩
    · exact Weak.eq (by rfl) (by simp only [xorU, go_sem]; simp (disch := omega) only [wrapU])
    · try dsimp only
      exact ⟨hi', hb⟩
  · -- c1 false
    try simp only [nrm] at c1
    have hdrop : nums.drop i = [] := List.drop_eq_nil_of_le (by omega)
    rw [hdrop] at hb
    simp only [drumB] at hb
    refine W_exit ?_
    simp only [go_sem]
    refine kq3 _ _ ?_
    refine W_seq fun kz9 kq9 => ?_
    refine W_region [2] fun R hR => ?_   -- r7
    simp only [go_sem]
    refine hR _ _ (kq9 _ _ ?_); clear hR R; try clear kq9 kz9
    try simp only [go_sem]
    refine W_ret ?_
    simp only [go_sem]
    refine ⟨.inr (by trivial), ?_⟩
    rw [hb]; exact Fin_ext 1 0 hcl rfl (Wk_eq rfl (by simp only [go_sem] <;> omega)) (by show CleanLs _ _ _ _; simp only [go_sem])
    try simp only [go_sem]
    all_goals
      skip
end Go.Proofs.Ytgelnjmddabgpaa
namespace Go.Proofs.Ytgelnjmddabgpaa
open Go Go.RowKit
/-- A slice of numbers that grows in place: nothing yet, or the last of a row of variables (those before it are gone). -/
def glI (n : Nat) (out : List Int) : PV := match out with
  | [] => .gnil
  | _ :: t => .gsl (n + t.length) (t.length + 1) 1
def gsI (out : List Int) : List (Option (List PV)) := match out with
  | [] => []
  | _ :: t => List.replicate t.length none ++ [some (out.map I)]
theorem gsI_len (out : List Int) : (gsI out).length = out.length := by cases out <;> simp [gsI]
theorem glI_cells (n : Nat) (out : List Int) : (glI n out).cells = [glI n out] := by cases out <;> rfl
theorem glI_scalar (n : Nat) (out : List Int) : (glI n out).scalar = true := by cases out <;> rfl
theorem glI_defd (n : Nat) (out : List Int) : defd (glI n out) = true := by cases out <;> rfl
theorem appendAny_gl {P : Program} {σ : Sg} {t t' : TypeId} {n : Nat} {out : List Int} {y : PV} : appendAny P σ t t' (glI n out) y = appendG P σ t t' (glI n out) y := by cases out <;> rfl
theorem cells_gsl (a b c : Nat) : (PV.gsl a b c).cells = [PV.gsl a b c] := rfl
theorem cells_gnil : PV.gnil.cells = [PV.gnil] := rfl
attribute [go_sem] appendAny_gl cells_gsl cells_gnil
attribute [go_sem high] glI_cells glI_scalar glI_defd
theorem stX_glI {σ : Sg} {l : List (Option (List PV))} {rm : List Nat} {ys : List LState} {j off n : Nat} {out : List Int} : stX 1 (σ.ext l rm ys) (σ.store.length + j) off (glI n out) = match l[j]? with
    | some (some cs) => if off + 1 ≤ cs.length then some (σ.ext (l.set j (some (putCells cs off [glI n out]))) rm ys) else none
    | _ => none := by
  simp only [stX_ext, glI_defd, glI_cells, List.all_cons, List.all_nil, glI_scalar]
  rcases l[j]? with _ | _ | cs <;> simp
attribute [go_sem high] stX_glI
theorem glI_clean {a b c n : Nat} {out : List Int} (h : n + out.length ≤ a) : Clean a b c (glI n out) := by
  cases out with
  | nil => exact .gnil
  | cons x out => exact .gsl _ _ _ (by simp at h; omega)
theorem CleanLs_append {a b c : Nat} {l m : List (Option (List PV))} (h : CleanLs a b c l) (k : CleanLs a b c m) : CleanLs a b c (l ++ m) := fun cs hcs => by
  rcases List.mem_append.1 hcs with h' | h'
  · exact h cs h'
  · exact k cs h'
theorem CleanLs_rep {a b c : Nat} (n : Nat) : CleanLs a b c (List.replicate n none) := fun cs hcs => by
  have := List.eq_of_mem_replicate hcs
  cases this
theorem gsI_clean {a b c : Nat} (out : List Int) : CleanLs a b c (gsI out) := by
  cases out with
  | nil => simp only [gsI, CleanLs_nil]
  | cons x out =>
    refine CleanLs_append (CleanLs_rep _) ?_
    simp only [CleanLs_cons, CleanLs_nil, and_true]
    intro p hp
    obtain ⟨y, _, rfl⟩ := List.mem_map.1 hp
    exact .int _ _
section
variable {σ : Sg} {A : List (Option (List PV))} {rm : List Nat} {ys : List LState} {N : Nat} {lo : Nat × Nat} {E : Env} {out : List Int}
theorem get_mid {α : Type} {A B : List α} {x : α} : (A ++ x :: B)[A.length]? = some x := by simp
theorem set_mid {α : Type} {A B : List α} {x y : α} : (A ++ x :: B).set A.length y = A ++ y :: B := by simp
theorem gsI_get {x : Int} : (A ++ gsI (x :: out))[A.length + out.length]? = some (some ((x :: out).map I)) := by
  have : A.length + out.length = (A ++ List.replicate out.length (none : Option (List PV))).length := by simp
  rw [this, gsI, ← List.append_assoc]
  exact get_mid
theorem gsI_set {x : Int} {y : Option (List PV)} : (A ++ gsI (x :: out)).set (A.length + out.length) y = A ++ (List.replicate out.length none ++ [y]) := by
  have : A.length + out.length = (A ++ List.replicate out.length (none : Option (List PV))).length := by simp
  rw [this, gsI, ← List.append_assoc, ← List.append_assoc]
  exact set_mid
theorem appG_gl (x : Int) (h : (out.length + 1) * 8 ≤ 2 ^ 47) : appG 1 8 (σ.ext (A ++ gsI out) rm ys) (glI (σ.store.length + A.length) out) [I x] = some (glI (σ.store.length + A.length) (out ++ [x]), σ.ext (A ++ gsI (out ++ [x])) rm ys) := by
  cases out with
  | nil =>
    rw [glI, appG_nil (by rfl) (by simp) (by simp)]
    simp [gsI, glI, rowC, Sg.push_ext, Sg.len_ext]
  | cons y out =>
    simp only [glI]
    rw [appG_more (cs := (y :: out).map I) (by rw [Nat.add_assoc, Sg.get_ext]; exact gsI_get) (by simp) (by rfl) (by simp) (by simpa using h)]
    rw [Nat.add_assoc (Sg.store σ).length, Sg.drop_ext, gsI_set]
    simp only [Sg.push_ext, Sg.len_ext, rowC]
    have e : List.replicate (out ++ [x]).length (none : Option (List PV)) = List.replicate out.length none ++ [none] := by simp [List.replicate_succ']
    simp only [List.cons_append, gsI, e]
    simp [Nat.add_assoc]
theorem sortI_nil : sortI [] = [] := by simp [sortI]
theorem glI_sort (n : Nat) : glI n (sortI out) = glI n out := by
  have hl := sortI_len out
  cases h : sortI out with
  | nil =>
    rw [h] at hl
    cases out with
    | nil => rfl
    | cons x out => simp at hl
  | cons y s =>
    rw [h] at hl
    cases out with
    | nil => simp at hl
    | cons x out => simp only [List.length_cons] at hl; simp only [glI]; rw [show s.length = out.length by omega]
theorem sort_gl {P : Program} {Y : YEnv} {f : FuncId} (h : SortsI P f) (hl : out.length < 2 ^ 60) : PC P Y f [glI (σ.store.length + A.length) out] (σ.ext (A ++ gsI out) rm ys) (.tuple []) (σ.ext (A ++ gsI (sortI out)) rm ys) := by
  cases out with
  | nil => rw [sortI_nil]; exact PC_sort0 h
  | cons x out =>
    have h1 := PC_sortI (Y := Y) (σ := σ.ext (A ++ gsI (x :: out)) rm ys) (id := σ.store.length + A.length + out.length) (xs := x :: out) h (by rw [Nat.add_assoc, Sg.get_ext]; exact gsI_get) hl
    rw [Nat.add_assoc, Sg.set_ext, gsI_set] at h1
    have e : A ++ (List.replicate out.length none ++ [some ((sortI (x :: out)).map I)]) = A ++ gsI (sortI (x :: out)) := by
      have hs := sortI_len (x :: out)
      cases hc : sortI (x :: out) with
      | nil => rw [hc] at hs; simp at hs
      | cons y s =>
        rw [hc] at hs
        simp only [List.length_cons] at hs
        simp only [gsI]
        rw [show out.length = s.length by omega]
    rw [e] at h1
    simp only [glI]
    rw [Nat.add_assoc]
    exact h1
/-- Compacted. -/
def glC (n : Nat) (s : List Int) : PV := match s with
  | [] => .gnil
  | _ :: t => .gsl (n + t.length) (Lib.compact s).length 1
theorem glC_cells (n : Nat) (out : List Int) : (glC n out).cells = [glC n out] := by cases out <;> rfl
theorem glC_scalar (n : Nat) (out : List Int) : (glC n out).scalar = true := by cases out <;> rfl
theorem glC_defd (n : Nat) (out : List Int) : defd (glC n out) = true := by cases out <;> rfl
attribute [go_sem high] glC_cells glC_scalar glC_defd
theorem stX_glC {σ : Sg} {l : List (Option (List PV))} {rm : List Nat} {ys : List LState} {j off n : Nat} {out : List Int} : stX 1 (σ.ext l rm ys) (σ.store.length + j) off (glC n out) = match l[j]? with
    | some (some cs) => if off + 1 ≤ cs.length then some (σ.ext (l.set j (some (putCells cs off [glC n out]))) rm ys) else none
    | _ => none := by
  simp only [stX_ext, glC_defd, glC_cells, List.all_cons, List.all_nil, glC_scalar]
  rcases l[j]? with _ | _ | cs <;> simp
attribute [go_sem high] stX_glC
end
end Go.Proofs.Ytgelnjmddabgpaa
namespace Go.Proofs.Ytgelnjmddabgpaa
open Go Go.RowKit
set_option maxRecDepth 100000
/-- Two places exchanged. -/
def swapAt (l : List Int) (i k : Nat) : List Int := (l.set i ((l[k]?).getD 0)).set k ((l[i]?).getD 0)
theorem swapAt_len (l : List Int) (i k : Nat) : (swapAt l i k).length = l.length := by simp [swapAt]
theorem swapAt_perm {l : List Int} {i k : Nat} (hi : i < l.length) (hk : k < l.length) : (swapAt l i k).Perm l := by
  unfold swapAt
  rw [List.getElem?_eq_getElem hi, List.getElem?_eq_getElem hk]
  exact List.set_set_perm hi hk
noncomputable def orderA (n : Nat) : Nat → List Int → D (List Int)
  | 0, acc => dret acc
  | j + 1, acc => dbind (roll (((n - (j + 1) : Nat) : Int) + 1)) fun k => orderA n j (swapAt (acc ++ [((n - (j + 1) : Nat) : Int)]) (n - (j + 1)) k.toNat)
noncomputable def orderD (n : Nat) : D (List Int) := orderA n n []
theorem orderA_perm (n : Nat) : ∀ (j : Nat) (acc : List Int), j ≤ n → acc.Perm ((List.range (n - j)).map fun (i : Nat) => (i : Int)) → Holds (orderA n j acc) fun l => l.Perm ((List.range n).map fun (i : Nat) => (i : Int)) := by
  intro j
  induction j with
  | zero => intro acc _ h; exact .ret h
  | succ j ih =>
    intro acc hj h
    refine (roll_bd _).bind fun k hk => ih _ (by omega) ?_
    have hl : acc.length = n - (j + 1) := by rw [h.length_eq]; simp
    have hkl : k.toNat < (acc ++ [((n - (j + 1) : Nat) : Int)]).length := by simp; omega
    refine (swapAt_perm (by simp; omega) hkl).trans ?_
    have e : n - j = (n - (j + 1)) + 1 := by omega
    rw [e, List.range_succ, List.map_append]
    exact h.append_right _
theorem orderD_perm (n : Nat) : Holds (orderD n) fun l => l.Perm ((List.range n).map fun (i : Nat) => (i : Int)) := orderA_perm n n [] (Nat.le_refl _) (by simp)
theorem glI_of {l : List Int} {m : Nat} (h : l.length = m + 1) (n : Nat) : glI n l = .gsl (n + m) (m + 1) 1 := by
  cases l with
  | nil => simp at h
  | cons x l => simp only [List.length_cons] at h; simp only [glI]; rw [show l.length = m by omega]
theorem gsI_of {l : List Int} {m : Nat} (h : l.length = m + 1) : gsI l = List.replicate m none ++ [some (l.map I)] := by
  cases l with
  | nil => simp at h
  | cons x l => simp only [List.length_cons] at h; simp only [gsI]; rw [show l.length = m by omega]
theorem Weak.ungnilT {N : Nat} {lo : Nat × Nat} {E : Env} {σ : Sg} {t : Nat} (ht : E.get t = .gnil) : Weak N lo E σ (E.put (some t) (.isl [] .ro)) σ := by
  intro Ψ0 Ψ D a w hb le hr
  refine ⟨Ψ, le, hr.size, fun t' => ?_, hr.sg, hr.dsub, hr.defs⟩
  rw [get_put1]
  split
  · rename_i e
    subst e
    have hv := hr.env t'
    rw [ht] at hv
    exact VR.of_gnil hv
  · exact hr.env t'
/-- Read at last. -/
theorem Weak.readI {N : Nat} {lo : Nat × Nat} {E : Env} {σ : Sg} {t : Nat} {A : List (Option (List PV))} {rm : List Nat} {ys : List LState} {out : List Int} (ht : E.get t = glI (σ.store.length + A.length) out) :
    Weak N lo E (σ.ext (A ++ gsI out) rm ys) (E.put (some t) (ints out)) (σ.ext (A ++ List.replicate out.length none) rm ys) := by
  cases out with
  | nil =>
    have h := Weak.ungnilT (N := N) (lo := lo) (E := E) (σ := σ.ext A rm ys) (t := t) ht
    simp only [gsI, List.append_nil, List.length_nil, List.replicate_zero]
    exact h
  | cons z zs =>
    have h := Weak.freeze (N := N) (lo := lo) (E := E) (σ := σ.ext (A ++ gsI (z :: zs)) rm ys) (t := t) (id := σ.store.length + (A.length + zs.length)) (len := zs.length + 1) (es := 1) (l := (z :: zs).map I) (by rw [ht]; simp only [glI, Nat.add_assoc]) (by rw [Sg.get_ext, rowC_ints]; exact gsI_get) (by simp) (fun q hq => by obtain ⟨x, _, rfl⟩ := List.mem_map.1 hq; rfl)
    rw [Sg.drop_ext, gsI_set] at h
    have e : List.replicate (z :: zs).length (none : Option (List PV)) = List.replicate zs.length none ++ [none] := by simp [List.replicate_succ']
    rw [e]
    exact h
set_option maxHeartbeats 4000000 in
theorem Order_pc (Y : YEnv) (σ : Sg) (d : Nat) (b : Int) (hd : σ.store[d]? = some (some [.int .u64 b])) (n : Nat) (hn : n < 2 ^ 40) :
    PC Try.prog Y 13 [.ptr d 0, I n] σ (ints (orderD n b).1) (σ.setVar d [.int .u64 (orderD n b).2]) := by
  refine PC_of_W Try.func13 rfl (by kernel_rfl) Try.ntmps13 (by simp) fun hcl hca => ?_
  have hlt := lt_of_get hd
  obtain ⟨res, hres⟩ : ∃ r, orderD n b = r := ⟨_, rfl⟩
  rw [hres]
  refine W_seq fun kz1 kq1 => ?_
  refine W_region [0, 1] fun R hR => ?_   -- r0
  simp only [go_sem, ldS_at hd, stX_at hd, ldS_sv hlt, stX_sv hlt, sv_ext hlt, sv_ext_sv hlt]
  refine hR _ _ (kq1 _ _ ?_); clear hR R; try clear kq1 kz1
  try simp only [go_sem, ldS_at hd, stX_at hd, ldS_sv hlt, stX_sv hlt, sv_ext hlt, sv_ext_sv hlt]
  refine W_seq fun kz2 kq2 => ?_
  refine W_region [0, 1, 5] fun R hR => ?_   -- r1
  simp only [go_sem, ldS_at hd, stX_at hd, ldS_sv hlt, stX_sv hlt, sv_ext hlt, sv_ext_sv hlt]
  refine hR _ _ (kq2 _ _ ?_); clear hR R; try clear kq2 kz2
  try simp only [go_sem, ldS_at hd, stX_at hd, ldS_sv hlt, stX_sv hlt, sv_ext hlt, sv_ext_sv hlt]
  refine W_seq fun kz3 kq3 => ?_
  refine W_seq fun kz4 kq4 => ?_
  refine W_region [0, 1, 5, 6] fun R hR => ?_   -- r2
  simp only [go_sem, ldS_at hd, stX_at hd, ldS_sv hlt, stX_sv hlt, sv_ext hlt, sv_ext_sv hlt]
  refine hR _ _ (kq4 _ _ ?_); clear hR R; try clear kq4 kz4
  try simp only [go_sem, ldS_at hd, stX_at hd, ldS_sv hlt, stX_sv hlt, sv_ext hlt, sv_ext_sv hlt]
  refine W_block ?_
  refine W_weak (Weak.gnil (t := 5) rfl) ?_
  refine W_weak (Weak.keep [0, 1, 5, 6]) ?_
  simp only [go_sem]
  refine W_loopT (α := Nat × (List Int) × Int) (fun ⟨i, acc, b⟩ => [(5, glI σ.store.length acc), (6, I i)]) (fun ⟨i, acc, b⟩ => (σ.setVar d [.int .u64 b]).ext (gsI acc) []) (fun ⟨i, acc, b⟩ => i ≤ n ∧ acc.length = i ∧ res = orderA n (n - i) acc b) (fun ⟨i, acc, b⟩ => n - i) ((0, [], b)) rfl (by simp only [gsI, go_sem, sv_self hd]) (⟨Nat.zero_le _, rfl, hres.symm⟩) ?_
  rintro ⟨i, acc, b⟩ ⟨hi, hal, hinv⟩
  refine W_seq fun kz5 kq5 => ?_
  refine W_seq fun kz6 kq6 => ?_
  refine W_region [0, 1, 5, 6, 10] fun R hR => ?_   -- r3
  simp only [go_sem, ldS_at hd, stX_at hd, ldS_sv hlt, stX_sv hlt, sv_ext hlt, sv_ext_sv hlt]
  refine hR _ _ (kq6 _ _ ?_); clear hR R; try clear kq6 kz6
  try simp only [go_sem, ldS_at hd, stX_at hd, ldS_sv hlt, stX_sv hlt, sv_ext hlt, sv_ext_sv hlt]
  refine W_cond rfl (fun c1 => ?_) (fun c1 => ?_)
  · -- c1 true
    try simp only [nrm] at c1
    have hin : i < n := by first | omega | (simp at c1; omega)
    rw [show n - i = (n - (i + 1)) + 1 by omega] at hinv
    simp only [orderA, dbind] at hinv
    rw [show (n - (n - (i + 1) + 1) : Nat) = i by omega] at hinv
    have hkb := roll_bd ((i : Int) + 1) b
    obtain ⟨kz, hkz⟩ : ∃ z, (roll ((i : Int) + 1) b).1 = z := ⟨_, rfl⟩
    obtain ⟨b1, hb1⟩ : ∃ z, (roll ((i : Int) + 1) b).2 = z := ⟨_, rfl⟩
    simp only [hkz] at hkb
    obtain ⟨k, rfl⟩ : ∃ k : Nat, kz = k := ⟨kz.toNat, by omega⟩
    rw [hkz, hb1, Int.toNat_natCast] at hinv
    have hki : k < i + 1 := by omega
    have hL : (σ.setVar d [.int .u64 b1]).store.length = σ.store.length := sv_len
    have happ := appG_gl (σ := σ.setVar d [.int .u64 b1]) (A := []) (rm := []) (ys := []) (out := acc) (i : Int) (by omega)
    have hal2 : (acc ++ [(i : Int)]).length = i + 1 := by simp [hal]
    rw [glI_of hal2, gsI_of hal2] at happ
    obtain ⟨ac2, hac2⟩ : ∃ z, acc ++ [(i : Int)] = z := ⟨_, rfl⟩
    rw [hac2] at happ hal2 hinv
    simp only [go_sem, List.length_nil, hL] at happ
    obtain ⟨x, hx⟩ : ∃ z, ac2[i]? = some z := ⟨ac2[i]'(by omega), by simp⟩
    obtain ⟨y, hy⟩ : ∃ z, ac2[k]? = some z := ⟨ac2[k]'(by omega), by simp⟩
    have hsw : swapAt ac2 i k = (ac2.set i y).set k x := by simp only [swapAt, hx, hy, Option.getD_some]
    have hI1 : (i : Int) < ((i + 1 : Nat) : Int) := by omega
    have hI2 : (k : Int) < ((i + 1 : Nat) : Int) := by omega
    have hg1 : ∀ c : Option (List PV), (List.replicate i none ++ [c])[i]? = some c := fun c => by rw [List.getElem?_append_right (by simp)]; simp
    have hg2 : ∀ c c2 : Option (List PV), (List.replicate i none ++ [c]).set i c2 = List.replicate i none ++ [c2] := fun c c2 => by rw [List.set_append_right _ _ (by simp)]; simp
    have hm1 : i + 1 ≤ ac2.length := by omega
    have hm2 : k + 1 ≤ ac2.length := by omega
    have hsl : (swapAt ac2 i k).length = i + 1 := by rw [swapAt_len]; exact hal2
    refine W_skip (kq5 _ _ ?_)
    refine W_seq fun kz7 kq7 => ?_
    refine W_block ?_
    refine W_seq fun kz8 kq8 => ?_
    refine W_region [0, 1, 5, 6, 7] fun R hR => ?_   -- r5
    simp only [go_sem, ldS_at hd, stX_at hd, ldS_sv hlt, stX_sv hlt, sv_ext hlt, sv_ext_sv hlt, hkz, hb1, hL]
    try simp (disch := omega) only [wrapI, wrapU]
    refine GCall_of (Roll_pc Y _ d b (by first | exact hd | exact sv_get hlt | exact get_svx hlt | exact get_extx hd) ((i : Int) + 1) (by omega)) ?_   -- t16
    simp only [go_sem, ldS_at hd, stX_at hd, ldS_sv hlt, stX_sv hlt, sv_ext hlt, sv_ext_sv hlt, hkz, hb1, hL]
    try simp (disch := omega) only [wrapI, wrapU]
    refine hR _ _ (kq8 _ _ ?_); clear hR R; try clear kq8 kz8
    try simp only [go_sem, ldS_at hd, stX_at hd, ldS_sv hlt, stX_sv hlt, sv_ext hlt, sv_ext_sv hlt, hkz, hb1, hL]
    refine W_seq fun kz9 kq9 => ?_
    refine W_region [0, 1, 5, 6, 7] fun R hR => ?_   -- r6
    simp only [go_sem, ldS_at hd, stX_at hd, ldS_sv hlt, stX_sv hlt, sv_ext hlt, sv_ext_sv hlt, hkz, hb1, hL, happ]
    try simp (disch := first | omega | (simp only [go_sem] <;> omega)) only [wrapI, wrapU, appX_exact, appX_tok]
    try simp only [go_sem, ldS_at hd, stX_at hd, ldS_sv hlt, stX_sv hlt, sv_ext hlt, sv_ext_sv hlt, hkz, hb1, hL, happ]
    refine hR _ _ (kq9 _ _ ?_); clear hR R; try clear kq9 kz9
    try simp only [go_sem, ldS_at hd, stX_at hd, ldS_sv hlt, stX_sv hlt, sv_ext hlt, sv_ext_sv hlt, hkz, hb1, hL]
    refine W_draw [0, 1, 5, 6] [0, 1, 2, 3, 4, 5, 6, 7, 8, 9, 10, 11, 12, 13, 14, 15] [(2, 15), (3, 15)] [[], [], [], [], [], [], [4, 5], [4, 5, 6], [], [], [8, 9], [8, 9, 10], [0, 1, 4, 5, 6, 7, 8, 9, 10, 11], [0, 1, 4, 5, 6, 7, 8, 9, 10, 11, 12], [0, 1, 2, 3, 4, 5, 6, 7, 8, 9, 10, 11, 12, 13], [0, 1, 2, 3, 4, 5, 6, 7, 8, 9, 10, 11, 12, 13, 14]] mixed (by kernel_rfl) fun R hR => ?_   -- r7
    simp only [go_sem, ldS_at hd, stX_at hd, ldS_sv hlt, stX_sv hlt, sv_ext hlt, sv_ext_sv hlt, hkz, hb1, hL, hI1, hI2, iaM_nat (Int.ofNat_lt.1 hI1), iaM_nat (Int.ofNat_lt.1 hI2), Nat.mul_one, Nat.zero_add, hg1, hg2, hx, hy, hm1, hm2, List.getElem?_map, List.length_set]
    try refine And.intro (by repeat' (first | refine And.intro ?_ ?_ | exact GOr_right (fun _ => by simp only [go_sem, ldS_at hd, stX_at hd, ldS_sv hlt, stX_sv hlt, sv_ext hlt, sv_ext_sv hlt, hkz, hb1, hL, hI1, hI2, iaM_nat (Int.ofNat_lt.1 hI1), iaM_nat (Int.ofNat_lt.1 hI2), Nat.mul_one, Nat.zero_add, hg1, hg2, hx, hy, hm1, hm2, List.getElem?_map, List.length_set]))) ?_
    refine hR _ _ (kq7 _ _ ?_); clear hR R; try clear kq7 kz7
    try simp only [go_sem, ldS_at hd, stX_at hd, ldS_sv hlt, stX_sv hlt, sv_ext hlt, sv_ext_sv hlt, hkz, hb1, hL]
    refine W_region [0, 1, 5, 6] fun R hR => ?_   -- r4
    simp only [go_sem, ldS_at hd, stX_at hd, ldS_sv hlt, stX_sv hlt, sv_ext hlt, sv_ext_sv hlt, hkz, hb1, hL]
    try simp (disch := omega) only [wrapI, wrapU]
    refine hR _ _ ?_; clear hR R
    try simp only [go_sem, ldS_at hd, stX_at hd, ldS_sv hlt, stX_sv hlt, sv_ext hlt, sv_ext_sv hlt, hkz, hb1, hL]
    refine ⟨(i + 1, swapAt ac2 i k, b1), ?_, by (try simp only []); omega, ?_⟩
    · refine Weak.eq ?_ ?_
      · simp only [go_sem, glI_of hsl]
        first | done | rfl | simp
      · rw [gsI_of hsl, hsw]
    · try dsimp only
      exact ⟨by omega, hsl, by rw [hinv]⟩
  · -- c1 false
    try simp only [nrm] at c1
    have hie : n = i := by first | omega | (simp at c1; omega)
    subst hie
    rw [Nat.sub_self] at hinv
    simp only [orderA, dret] at hinv
    refine W_exit ?_
    simp only [go_sem, ldS_at hd, stX_at hd, ldS_sv hlt, stX_sv hlt, sv_ext hlt, sv_ext_sv hlt]
    refine kq3 _ _ ?_
    refine W_seq fun kz10 kq10 => ?_
    refine W_weak (Weak.readI (t := 5) (A := []) (out := acc) (by simp only [go_sem, sv_len])) ?_
    refine W_weak (Weak.keep [5]) ?_
    simp only [go_sem]
    refine W_region [4] fun R hR => ?_   -- r8
    simp only [go_sem, ldS_at hd, stX_at hd, ldS_sv hlt, stX_sv hlt, sv_ext hlt, sv_ext_sv hlt]
    refine hR _ _ (kq10 _ _ ?_); clear hR R; try clear kq10 kz10
    try simp only [go_sem, ldS_at hd, stX_at hd, ldS_sv hlt, stX_sv hlt, sv_ext hlt, sv_ext_sv hlt]
    refine W_ret ?_
    simp only [go_sem, ldS_at hd, stX_at hd, ldS_sv hlt, stX_sv hlt, sv_ext hlt, sv_ext_sv hlt]
    refine ⟨.inr (by trivial), ?_⟩
    rw [hinv]; refine Fin_set hcl (by simp only [go_sem]) rfl (Wk_eq rfl ?_)
    try simp only [go_sem]
    all_goals
      simp only [go_sem]
end Go.Proofs.Ytgelnjmddabgpaa
namespace Go.Proofs.Ytgelnjmddabgpaa
open Go Go.RowKit
set_option maxRecDepth 100000
def rJudge (s : Scale) (j : Int × Int) : Int := if ofSc s j then 0 else 7
def rMarks (s : Scale) (l : List Int) : Int := if (l.length : Int) ≠ s.schools then 1 else if outMarks s l then 2 else 0
theorem marked_r (s : Scale) (j : Int × Int) (l : List Int) : marked s j l = if rJudge s j ≠ 0 then rJudge s j else rMarks s l := by
  unfold marked rJudge rMarks
  cases ofSc s j <;> simp
theorem has_take {l : List Int} {k : Nat} {z v : Int} (h : l[k]? = some z) : has (l.take (k + 1)) v = (has (l.take k) v || decide (z = v)) := by
  rw [List.take_add_one, h]
  simp [has, List.any_append]
theorem outMarks_cons (s : Scale) (x : Int) (l : List Int) : outMarks s (x :: l) = (!(inR x s.low s.high) || outMarks s l) := rfl
theorem outMarks_nil (s : Scale) : outMarks s [] = false := rfl
set_option maxHeartbeats 2000000 in
theorem rin_pc (Y : YEnv) (σ : Sg) (n lo hi : Int) :
    PC Try.prog Y 54 [I n, I lo, I hi] σ (.bool (inR n lo hi)) (σ) := by
  refine PC_of_W Try.func54 rfl (by kernel_rfl) Try.ntmps54 (by simp) fun hcl hca => ?_
  refine W_seq fun kz1 kq1 => ?_
  refine W_region [0, 1, 2] fun R hR => ?_   -- r0
  simp only [go_sem]
  refine hR _ _ (kq1 _ _ ?_); clear hR R; try clear kq1 kz1
  try simp only [go_sem]
  refine W_seq fun kz2 kq2 => ?_
  refine W_region [6] fun R hR => ?_   -- r1
  simp only [go_sem]
  refine GWant_split (fun g1 => ?_) (fun g1 => ?_)
  · try simp only [Bool.not_eq_true', Bool.not_eq_false'] at g1
    have n1 := g1; try simp only [nrm] at n1
    simp only [go_sem, g1]
    refine hR _ _ (kq2 _ _ ?_); clear hR R; try clear kq2 kz2
    try simp only [go_sem]
    refine W_ret ?_
    simp only [go_sem]
    refine ⟨.inr (by trivial), ?_⟩
    first | refine Fin_same hcl rfl (Wk_eq ?_ (by simp only [go_sem])) | refine Fin_self hcl rfl (Wk_eq ?_ (by simp only [go_sem]))
    try simp only [go_sem]
    all_goals
      simp [inR, *]
  · try simp only [Bool.not_eq_true', Bool.not_eq_false'] at g1
    have n1 := g1; try simp only [nrm] at n1
    simp only [go_sem, g1]
    refine hR _ _ (kq2 _ _ ?_); clear hR R; try clear kq2 kz2
    try simp only [go_sem]
    refine W_ret ?_
    simp only [go_sem]
    refine ⟨.inr (by trivial), ?_⟩
    first | refine Fin_same hcl rfl (Wk_eq ?_ (by simp only [go_sem])) | refine Fin_self hcl rfl (Wk_eq ?_ (by simp only [go_sem]))
    try simp only [go_sem]
    all_goals
      simp [inR, *]
set_option maxHeartbeats 4000000 in
theorem rCheck_pc (Y : YEnv) (σ : Sg) (s : Scale) (hs : s.Ok) :
    PC Try.prog Y 69 [scPV s] σ (I (chkSc s)) (σ) := by
  refine PC_of_W Try.func69 rfl (by kernel_rfl) Try.ntmps69 (by simp) fun hcl hca => ?_
  have ho := hs.ho
  obtain ⟨res, hres⟩ : ∃ r, chkSc s = r := ⟨_, rfl⟩
  rw [hres]
  refine W_seq fun kz1 kq1 => ?_
  refine W_region [1] fun R hR => ?_   -- r0
  simp only [go_sem]
  refine hR _ _ (kq1 _ _ ?_); clear hR R; try clear kq1 kz1
  try simp only [go_sem]
  refine W_seq fun kz2 kq2 => ?_
  refine W_seq fun kz3 kq3 => ?_
  refine W_regionJ [1, 41] [(41, .bool (!scRange s))] ?_ fun R hR => ?_   -- r1
  · refine kq3 _ _ ?_
    simp only [go_sem]
    refine W_cond rfl (fun c1 => ?_) (fun c1 => ?_)
    · -- c1 true
      try simp only [nrm] at c1
      refine W_seq fun kz4 kq4 => ?_
      refine W_region [2] fun R hR => ?_   -- r2
      simp only [go_sem]
      refine hR _ _ (kq4 _ _ ?_); clear hR R; try clear kq4 kz4
      try simp only [go_sem]
      refine W_ret ?_
      simp only [go_sem]
      refine ⟨.inr (by trivial), ?_⟩
      first | refine Fin_same hcl rfl (Wk_eq ?_ (by simp only [go_sem])) | refine Fin_self hcl rfl (Wk_eq ?_ (by simp only [go_sem]))
      try simp only [go_sem]
      all_goals
        first | rfl | (simp_all; done) | (simp_all; omega) | (rw [← hres]; simp only [chkSc]; (repeat' split) <;> ((first | rfl | omega | (simp_all; done) | (simp_all; omega))))
    · -- c1 false
      try simp only [nrm] at c1
      have d2 : scRange s = true := by simpa using c1
      have d4 := d2
      simp only [scRange, Bool.and_eq_true, inR_true] at d4
      refine W_skip (kq2 _ _ ?_)
      refine W_seq fun kz5 kq5 => ?_
      refine W_seq fun kz6 kq6 => ?_
      refine W_region [1, 46] fun R hR => ?_   -- r3
      simp only [go_sem]
      refine hR _ _ (kq6 _ _ ?_); clear hR R; try clear kq6 kz6
      try simp only [go_sem]
      refine W_cond rfl (fun c2 => ?_) (fun c2 => ?_)
      · -- c2 true
        try simp only [nrm] at c2
        refine W_seq fun kz7 kq7 => ?_
        refine W_region [2] fun R hR => ?_   -- r4
        simp only [go_sem]
        refine hR _ _ (kq7 _ _ ?_); clear hR R; try clear kq7 kz7
        try simp only [go_sem]
        refine W_ret ?_
        simp only [go_sem]
        refine ⟨.inr (by trivial), ?_⟩
        first | refine Fin_same hcl rfl (Wk_eq ?_ (by simp only [go_sem])) | refine Fin_self hcl rfl (Wk_eq ?_ (by simp only [go_sem]))
        try simp only [go_sem]
        all_goals
          first | rfl | (simp_all; done) | (simp_all; omega) | (rw [← hres]; simp only [chkSc]; (repeat' split) <;> ((first | rfl | omega | (simp_all; done) | (simp_all; omega))))
      · -- c2 false
        try simp only [nrm] at c2
        refine W_skip (kq5 _ _ ?_)
        refine W_seq fun kz8 kq8 => ?_
        refine W_seq fun kz9 kq9 => ?_
        refine W_region [1, 52] fun R hR => ?_   -- r5
        simp only [go_sem]
        refine hR _ _ (kq9 _ _ ?_); clear hR R; try clear kq9 kz9
        try simp only [go_sem]
        refine W_cond rfl (fun c3 => ?_) (fun c3 => ?_)
        · -- c3 true
          try simp only [nrm] at c3
          refine W_seq fun kz10 kq10 => ?_
          refine W_region [2] fun R hR => ?_   -- r6
          simp only [go_sem]
          refine hR _ _ (kq10 _ _ ?_); clear hR R; try clear kq10 kz10
          try simp only [go_sem]
          refine W_ret ?_
          simp only [go_sem]
          refine ⟨.inr (by trivial), ?_⟩
          first | refine Fin_same hcl rfl (Wk_eq ?_ (by simp only [go_sem])) | refine Fin_self hcl rfl (Wk_eq ?_ (by simp only [go_sem]))
          try simp only [go_sem]
          all_goals
            first | rfl | (simp_all; done) | (simp_all; omega) | (rw [← hres]; simp only [chkSc]; (repeat' split) <;> ((first | rfl | omega | (simp_all; done) | (simp_all; omega))))
        · -- c3 false
          try simp only [nrm] at c3
          refine W_skip (kq8 _ _ ?_)
          refine W_seq fun kz11 kq11 => ?_
          refine W_seq fun kz12 kq12 => ?_
          refine W_region [1, 3] fun R hR => ?_   -- r7
          simp only [go_sem]
          refine hR _ _ (kq12 _ _ ?_); clear hR R; try clear kq12 kz12
          try simp only [go_sem]
          refine W_block ?_
          refine W_loopS (α := Nat) (fun (i : Nat) => [(3, I i)]) (fun (i : Nat) => i ≤ s.order.length ∧ res = chkOrd s.matters (s.order.take i) (s.order.drop i)) (fun (i : Nat) => s.order.length - i) (0) rfl (⟨Nat.zero_le _, by rw [← hres]; simp [chkSc, *] <;> omega⟩) ?_
          rintro i ⟨hi, hinv⟩
          refine W_seq fun kz13 kq13 => ?_
          refine W_seq fun kz14 kq14 => ?_
          refine W_region [1, 3, 57] fun R hR => ?_   -- r8
          simp only [go_sem]
          refine hR _ _ (kq14 _ _ ?_); clear hR R; try clear kq14 kz14
          try simp only [go_sem]
          refine W_cond rfl (fun c4 => ?_) (fun c4 => ?_)
          · -- c4 true
            try simp only [nrm] at c4
            have hi' : i < s.order.length := by first | assumption | omega
            obtain ⟨x, hx⟩ : ∃ x, s.order[i]? = some x := ⟨s.order[i], by simp [hi']⟩
            have hdrop : s.order.drop i = x :: s.order.drop (i + 1) := by
              rw [List.drop_eq_getElem_cons hi']; congr 1; exact (List.getElem?_eq_some_iff.1 hx).2
            rw [hdrop] at hinv
            simp only [chkOrd] at hinv
            have htk : s.order.take i ++ [x] = s.order.take (i + 1) := by rw [List.take_add_one, hx]; rfl
            rw [htk] at hinv
            refine W_skip (kq13 _ _ ?_)
            refine W_seq fun kz15 kq15 => ?_
            refine W_block ?_
            refine W_seq fun kz16 kq16 => ?_
            refine W_seq fun kz17 kq17 => ?_
            refine W_draw [1, 3, 69] [0, 1, 2, 3, 4, 5, 6, 7, 8, 9] [] [[], [0], [], [0, 1, 2], [0, 1, 2, 3], [], [5], [5, 6], [0, 1, 2, 3, 4, 5, 6, 7], [0, 1, 2, 3, 4, 5, 6, 7, 8]] mixed (by kernel_rfl) fun R hR => ?_   -- r10
            simp only [go_sem, hx]
            try simp (disch := omega) only [wrapI, wrapU]
            refine GCall_of (rin_pc Y _ x 0 _) ?_   -- t68
            simp only [go_sem, hx]
            try simp (disch := omega) only [wrapI, wrapU]
            try refine And.intro (by repeat' (first | refine And.intro ?_ ?_ | exact GOr_right (fun _ => by simp only [go_sem, hx]))) ?_
            refine hR _ _ (kq17 _ _ ?_); clear hR R; try clear kq17 kz17
            try simp only [go_sem, hx]
            refine W_cond rfl (fun c5 => ?_) (fun c5 => ?_)
            · -- c5 true
              try simp only [nrm] at c5
              refine W_seq fun kz18 kq18 => ?_
              refine W_region [2] fun R hR => ?_   -- r11
              simp only [go_sem, hx]
              refine hR _ _ (kq18 _ _ ?_); clear hR R; try clear kq18 kz18
              try simp only [go_sem, hx]
              refine W_ret ?_
              simp only [go_sem, hx]
              refine ⟨.inr (by trivial), ?_⟩
              first | refine Fin_same hcl rfl (Wk_eq ?_ (by simp only [go_sem])) | refine Fin_self hcl rfl (Wk_eq ?_ (by simp only [go_sem]))
              try simp only [go_sem]
              all_goals
                first | rfl | (simp_all; done) | (simp_all; omega) | (rw [← hres]; simp only [chkSc]; (repeat' split) <;> ((first | rfl | omega | (simp_all; done) | (simp_all; omega))))
            · -- c5 false
              try simp only [nrm] at c5
              refine W_skip (kq16 _ _ ?_)
              refine W_seq fun kz19 kq19 => ?_
              refine W_region [1, 3, 4] fun R hR => ?_   -- r12
              simp only [go_sem, hx]
              refine hR _ _ (kq19 _ _ ?_); clear hR R; try clear kq19 kz19
              try simp only [go_sem, hx]
              refine W_block ?_
              refine W_loopS (α := Nat) (fun (k : Nat) => [(4, I k)]) (fun (k : Nat) => k ≤ i ∧ has (s.order.take k) x = false) (fun (k : Nat) => i - k) (0) rfl (⟨Nat.zero_le _, rfl⟩) ?_
              rintro k ⟨hk, hh⟩
              refine W_seq fun kz20 kq20 => ?_
              refine W_seq fun kz21 kq21 => ?_
              refine W_region [1, 3, 4, 72] fun R hR => ?_   -- r13
              simp only [go_sem, hx]
              refine hR _ _ (kq21 _ _ ?_); clear hR R; try clear kq21 kz21
              try simp only [go_sem, hx]
              refine W_cond rfl (fun c6 => ?_) (fun c6 => ?_)
              · -- c6 true
                try simp only [nrm] at c6
                have hk' : k < i := by first | assumption | omega | (simp at c6; omega)
                obtain ⟨z, hz⟩ : ∃ z, s.order[k]? = some z := ⟨s.order[k]'(by omega), by simp⟩
                have hht := has_take hz (v := x)
                refine W_skip (kq20 _ _ ?_)
                refine W_seq fun kz22 kq22 => ?_
                refine W_block ?_
                refine W_seq fun kz23 kq23 => ?_
                refine W_draw [1, 3, 4, 85] [0, 1, 2, 3, 4, 5, 6, 7, 8, 9, 10] [] [[], [0], [], [0, 1, 2], [0, 1, 2, 3], [], [5], [], [5, 6, 7], [5, 6, 7, 8], [0, 1, 2, 3, 4, 5, 6, 7, 8, 9]] mixed (by kernel_rfl) fun R hR => ?_   -- r15
                simp only [go_sem, hx, hz]
                try refine And.intro (by repeat' (first | refine And.intro ?_ ?_ | exact GOr_right (fun _ => by simp only [go_sem, hx, hz]))) ?_
                refine hR _ _ (kq23 _ _ ?_); clear hR R; try clear kq23 kz23
                try simp only [go_sem, hx, hz]
                refine W_cond rfl (fun c7 => ?_) (fun c7 => ?_)
                · -- c7 true
                  try simp only [nrm] at c7
                  refine W_seq fun kz24 kq24 => ?_
                  refine W_region [2] fun R hR => ?_   -- r16
                  simp only [go_sem, hx, hz]
                  refine hR _ _ (kq24 _ _ ?_); clear hR R; try clear kq24 kz24
                  try simp only [go_sem, hx, hz]
                  refine W_ret ?_
                  simp only [go_sem, hx, hz]
                  refine ⟨.inr (by trivial), ?_⟩
                  first | refine Fin_same hcl rfl (Wk_eq ?_ (by simp only [go_sem])) | refine Fin_self hcl rfl (Wk_eq ?_ (by simp only [go_sem]))
                  try simp only [go_sem]
                  all_goals
                    have hall : has (s.order.take i) x = true := by
                      rw [has_iff]
                      have h1 : z = x := by first | exact c7 | simpa using c7
                      rw [← h1]
                      refine List.mem_of_getElem? (i := k) ?_
                      rw [List.getElem?_take_of_lt hk']; exact hz
                    simp_all
                · -- c7 false
                  try simp only [nrm] at c7
                  refine W_skip (kq22 _ _ ?_)
                  refine W_region [1, 3, 4] fun R hR => ?_   -- r14
                  simp only [go_sem, hx, hz]
                  try simp (disch := omega) only [wrapI, wrapU]
                  refine hR _ _ ?_; clear hR R
                  try simp only [go_sem, hx, hz]
                  refine ⟨k + 1, ?_, by (try simp only []); omega, ?_⟩
                  · first | exact Weak.refl | exact Weak.eq (by first | rfl | (simp only [go_sem]; done) | (simp only [go_sem]; rfl) | (simp [go_sem]; done) | (simp [go_sem]; omega)) (by first | rfl | (simp only [go_sem]; done) | (simp [go_sem]; done))
                  · try dsimp only
                    exact ⟨hk', by rw [hht, hh]; simp [*]⟩
              · -- c6 false
                try simp only [nrm] at c6
                have hke : i = k := by first | omega | (simp at c6; omega)
                have hhi : has (s.order.take i) x = false := by rw [hke]; exact hh
                refine W_exit ?_
                simp only [go_sem, hx]
                refine kq15 _ _ ?_
                refine W_region [1, 3] fun R hR => ?_   -- r9
                simp only [go_sem, hx]
                try simp (disch := omega) only [wrapI, wrapU]
                refine hR _ _ ?_; clear hR R
                try simp only [go_sem, hx]
                refine ⟨i + 1, ?_, by (try simp only []); omega, ?_⟩
                · first | exact Weak.refl | exact Weak.eq (by first | rfl | (simp only [go_sem]; done) | (simp only [go_sem]; rfl) | (simp [go_sem]; done) | (simp [go_sem]; omega)) (by first | rfl | (simp only [go_sem]; done) | (simp [go_sem]; done))
                · try dsimp only
                  exact ⟨hi', by simp_all⟩
          · -- c4 false
            try simp only [nrm] at c4
            have hdrop : s.order.drop i = [] := List.drop_eq_nil_of_le (by omega)
            rw [hdrop] at hinv
            simp only [chkOrd] at hinv
            refine W_exit ?_
            simp only [go_sem]
            refine kq11 _ _ ?_
            refine W_seq fun kz25 kq25 => ?_
            refine W_region [2] fun R hR => ?_   -- r17
            simp only [go_sem]
            refine hR _ _ (kq25 _ _ ?_); clear hR R; try clear kq25 kz25
            try simp only [go_sem]
            refine W_ret ?_
            simp only [go_sem]
            refine ⟨.inr (by trivial), ?_⟩
            first | refine Fin_same hcl rfl (Wk_eq ?_ (by simp only [go_sem])) | refine Fin_self hcl rfl (Wk_eq ?_ (by simp only [go_sem]))
            try simp only [go_sem]
            all_goals
              first | rfl | (simp_all; done) | (simp_all; omega) | (rw [← hres]; simp only [chkSc]; (repeat' split) <;> ((first | rfl | omega | (simp_all; done) | (simp_all; omega))))
  · simp only [go_sem]
    refine GCall_of (rin_pc Y _ s.schools 1 8) ?_   -- t7
    simp only [go_sem]
    refine GWant_split (fun g1 => ?_) (fun g1 => ?_)
    · try simp only [Bool.not_eq_true', Bool.not_eq_false'] at g1
      have n1 := g1; try simp only [nrm] at n1
      simp only [go_sem, g1]
      refine GCall_of (rin_pc Y _ s.matters 1 6) ?_   -- t12
      simp only [go_sem, g1]
      refine GWant_split (fun g2 => ?_) (fun g2 => ?_)
      · try simp only [Bool.not_eq_true', Bool.not_eq_false'] at g2
        have n2 := g2; try simp only [nrm] at n2
        simp only [go_sem, g1, g2]
        refine GCall_of (rin_pc Y _ s.judges 1 5) ?_   -- t18
        simp only [go_sem, g1, g2]
        refine GWant_split (fun g3 => ?_) (fun g3 => ?_)
        · try simp only [Bool.not_eq_true', Bool.not_eq_false'] at g3
          have n3 := g3; try simp only [nrm] at n3
          have d3 : inR s.judges 1 5 = true := by simp_all
          simp only [inR_true] at d3
          simp only [go_sem, g1, g2, g3]
          try simp (disch := omega) only [wrapI, wrapU]
          refine GCall_of (rin_pc Y _ s.drop 0 _) ?_   -- t27
          simp only [go_sem, g1, g2, g3]
          refine GWant_split (fun g4 => ?_) (fun g4 => ?_)
          · try simp only [Bool.not_eq_true', Bool.not_eq_false'] at g4
            have n4 := g4; try simp only [nrm] at n4
            try simp (disch := omega) only [wrapI, wrapU] at n4
            simp only [go_sem, g1, g2, g3, g4]
            try simp (disch := omega) only [wrapI, wrapU]
            refine GCall_of (rin_pc Y _ s.low 0 100) ?_   -- t33
            simp only [go_sem, g1, g2, g3, g4]
            refine GWant_split (fun g5 => ?_) (fun g5 => ?_)
            · try simp only [Bool.not_eq_true', Bool.not_eq_false'] at g5
              have n5 := g5; try simp only [nrm] at n5
              try simp (disch := omega) only [wrapI, wrapU] at n5
              simp only [go_sem, g1, g2, g3, g4, g5]
              try simp (disch := omega) only [wrapI, wrapU]
              refine GCall_of (rin_pc Y _ s.high 0 100) ?_   -- t39
              simp only [go_sem, g1, g2, g3, g4, g5]
              try simp (disch := omega) only [wrapI, wrapU]
              refine hR _ ?_
              all_goals try simp only [go_sem]
              all_goals
                simp [scRange, *]
            · try simp only [Bool.not_eq_true', Bool.not_eq_false'] at g5
              have n5 := g5; try simp only [nrm] at n5
              try simp (disch := omega) only [wrapI, wrapU] at n5
              simp only [go_sem, g1, g2, g3, g4, g5]
              try simp (disch := omega) only [wrapI, wrapU]
              refine hR _ ?_
              all_goals try simp only [go_sem]
              all_goals
                simp [scRange, *]
          · try simp only [Bool.not_eq_true', Bool.not_eq_false'] at g4
            have n4 := g4; try simp only [nrm] at n4
            try simp (disch := omega) only [wrapI, wrapU] at n4
            simp only [go_sem, g1, g2, g3, g4]
            try simp (disch := omega) only [wrapI, wrapU]
            refine hR _ ?_
            all_goals try simp only [go_sem]
            all_goals
              simp [scRange, *]
        · try simp only [Bool.not_eq_true', Bool.not_eq_false'] at g3
          have n3 := g3; try simp only [nrm] at n3
          simp only [go_sem, g1, g2, g3]
          try simp (disch := omega) only [wrapI, wrapU]
          refine hR _ ?_
          all_goals try simp only [go_sem]
          all_goals
            simp [scRange, *]
      · try simp only [Bool.not_eq_true', Bool.not_eq_false'] at g2
        have n2 := g2; try simp only [nrm] at n2
        simp only [go_sem, g1, g2]
        try simp (disch := omega) only [wrapI, wrapU]
        refine hR _ ?_
        all_goals try simp only [go_sem]
        all_goals
          simp [scRange, *]
    · try simp only [Bool.not_eq_true', Bool.not_eq_false'] at g1
      have n1 := g1; try simp only [nrm] at n1
      simp only [go_sem, g1]
      try simp (disch := omega) only [wrapI, wrapU]
      refine hR _ ?_
      all_goals try simp only [go_sem]
      all_goals
        simp [scRange, *]
set_option maxHeartbeats 2000000 in
theorem rJudge_pc (Y : YEnv) (σ : Sg) (s : Scale) (a b : Int) (h : s.V) :
    PC Try.prog Y 70 [scPV s, I a, I b] σ (I (rJudge s (a, b))) (σ) := by
  refine PC_of_W Try.func70 rfl (by kernel_rfl) Try.ntmps70 (by simp) fun hcl hca => ?_
  have h1 := h.mt
  have h2 := h.jd
  refine W_seq fun kz1 kq1 => ?_
  refine W_region [1, 2, 3] fun R hR => ?_   -- r0
  simp only [go_sem]
  refine hR _ _ (kq1 _ _ ?_); clear hR R; try clear kq1 kz1
  try simp only [go_sem]
  refine W_seq fun kz2 kq2 => ?_
  refine W_seq fun kz3 kq3 => ?_
  refine W_region [20] fun R hR => ?_   -- r1
  simp only [go_sem]
  try simp (disch := omega) only [wrapI, wrapU]
  refine GCall_of (rin_pc Y _ a 0 _) ?_   -- t11
  simp only [go_sem]
  refine GWant_split (fun g1 => ?_) (fun g1 => ?_)
  · try simp only [Bool.not_eq_true', Bool.not_eq_false'] at g1
    have n1 := g1; try simp only [nrm] at n1
    try simp (disch := omega) only [wrapI, wrapU] at n1
    simp only [go_sem, g1]
    try simp (disch := omega) only [wrapI, wrapU]
    refine GCall_of (rin_pc Y _ b 0 _) ?_   -- t18
    simp only [go_sem, g1]
    try simp (disch := omega) only [wrapI, wrapU]
    refine hR _ _ (kq3 _ _ ?_); clear hR R; try clear kq3 kz3
    try simp only [go_sem]
    refine W_cond rfl (fun c1 => ?_) (fun c1 => ?_)
    · -- c1 true
      try simp only [nrm] at c1
      refine W_seq fun kz4 kq4 => ?_
      refine W_region [6] fun R hR => ?_   -- r2
      simp only [go_sem]
      refine hR _ _ (kq4 _ _ ?_); clear hR R; try clear kq4 kz4
      try simp only [go_sem]
      refine W_ret ?_
      simp only [go_sem]
      refine ⟨.inr (by trivial), ?_⟩
      first | refine Fin_same hcl rfl (Wk_eq ?_ (by simp only [go_sem])) | refine Fin_self hcl rfl (Wk_eq ?_ (by simp only [go_sem]))
      try simp only [go_sem]
      all_goals
        simp [rJudge, ofSc, *]
    · -- c1 false
      try simp only [nrm] at c1
      refine W_skip (kq2 _ _ ?_)
      refine W_seq fun kz5 kq5 => ?_
      refine W_region [6] fun R hR => ?_   -- r3
      simp only [go_sem]
      refine hR _ _ (kq5 _ _ ?_); clear hR R; try clear kq5 kz5
      try simp only [go_sem]
      refine W_ret ?_
      simp only [go_sem]
      refine ⟨.inr (by trivial), ?_⟩
      first | refine Fin_same hcl rfl (Wk_eq ?_ (by simp only [go_sem])) | refine Fin_self hcl rfl (Wk_eq ?_ (by simp only [go_sem]))
      try simp only [go_sem]
      all_goals
        simp [rJudge, ofSc, *]
  · try simp only [Bool.not_eq_true', Bool.not_eq_false'] at g1
    have n1 := g1; try simp only [nrm] at n1
    try simp (disch := omega) only [wrapI, wrapU] at n1
    simp only [go_sem, g1]
    try simp (disch := omega) only [wrapI, wrapU]
    refine hR _ _ (kq3 _ _ ?_); clear hR R; try clear kq3 kz3
    try simp only [go_sem]
    refine W_cond_true rfl ?_
    refine W_seq fun kz6 kq6 => ?_
    refine W_region [6] fun R hR => ?_   -- r2
    simp only [go_sem]
    refine hR _ _ (kq6 _ _ ?_); clear hR R; try clear kq6 kz6
    try simp only [go_sem]
    refine W_ret ?_
    simp only [go_sem]
    refine ⟨.inr (by trivial), ?_⟩
    first | refine Fin_same hcl rfl (Wk_eq ?_ (by simp only [go_sem])) | refine Fin_self hcl rfl (Wk_eq ?_ (by simp only [go_sem]))
    try simp only [go_sem]
    all_goals
      simp [rJudge, ofSc, *]
set_option maxHeartbeats 2000000 in
theorem rMarks_pc (Y : YEnv) (σ : Sg) (s : Scale) (l : List Int) (o : Own) (hl : l.length < 2 ^ 40) :
    PC Try.prog Y 71 [scPV s, intsO o l] σ (I (rMarks s l)) (σ) := by
  refine PC_of_W Try.func71 rfl (by kernel_rfl) Try.ntmps71 (by simp) fun hcl hca => ?_
  obtain ⟨res, hres⟩ : ∃ r, rMarks s l = r := ⟨_, rfl⟩
  rw [hres]
  refine W_seq fun kz1 kq1 => ?_
  refine W_region [1, 2] fun R hR => ?_   -- r0
  simp only [go_sem]
  refine hR _ _ (kq1 _ _ ?_); clear hR R; try clear kq1 kz1
  try simp only [go_sem]
  refine W_seq fun kz2 kq2 => ?_
  refine W_seq fun kz3 kq3 => ?_
  refine W_region [1, 2, 10] fun R hR => ?_   -- r1
  simp only [go_sem]
  refine hR _ _ (kq3 _ _ ?_); clear hR R; try clear kq3 kz3
  try simp only [go_sem]
  refine W_cond rfl (fun c1 => ?_) (fun c1 => ?_)
  · -- c1 true
    try simp only [nrm] at c1
    refine W_seq fun kz4 kq4 => ?_
    refine W_region [4] fun R hR => ?_   -- r2
    simp only [go_sem]
    refine hR _ _ (kq4 _ _ ?_); clear hR R; try clear kq4 kz4
    try simp only [go_sem]
    refine W_ret ?_
    simp only [go_sem]
    refine ⟨.inr (by trivial), ?_⟩
    first | refine Fin_same hcl rfl (Wk_eq ?_ (by simp only [go_sem])) | refine Fin_self hcl rfl (Wk_eq ?_ (by simp only [go_sem]))
    try simp only [go_sem]
    all_goals
      rw [← hres]; simp [rMarks, *]
  · -- c1 false
    try simp only [nrm] at c1
    refine W_skip (kq2 _ _ ?_)
    refine W_seq fun kz5 kq5 => ?_
    refine W_seq fun kz6 kq6 => ?_
    refine W_region [1, 2, 5] fun R hR => ?_   -- r3
    simp only [go_sem]
    refine hR _ _ (kq6 _ _ ?_); clear hR R; try clear kq6 kz6
    try simp only [go_sem]
    refine W_block ?_
    refine W_loopS (α := Nat) (fun (i : Nat) => [(5, I i)]) (fun (i : Nat) => i ≤ l.length ∧ outMarks s l = outMarks s (l.drop i)) (fun (i : Nat) => l.length - i) (0) rfl (⟨Nat.zero_le _, rfl⟩) ?_
    rintro i ⟨hi, hinv⟩
    refine W_seq fun kz7 kq7 => ?_
    refine W_seq fun kz8 kq8 => ?_
    refine W_region [1, 2, 5, 14] fun R hR => ?_   -- r4
    simp only [go_sem]
    refine hR _ _ (kq8 _ _ ?_); clear hR R; try clear kq8 kz8
    try simp only [go_sem]
    refine W_cond rfl (fun c2 => ?_) (fun c2 => ?_)
    · -- c2 true
      try simp only [nrm] at c2
      have hi' : i < l.length := by first | assumption | omega
      obtain ⟨x, hx⟩ : ∃ x, l[i]? = some x := ⟨l[i], by simp [hi']⟩
      have hdrop : l.drop i = x :: l.drop (i + 1) := by
        rw [List.drop_eq_getElem_cons hi']; congr 1; exact (List.getElem?_eq_some_iff.1 hx).2
      rw [hdrop, outMarks_cons] at hinv
      refine W_skip (kq7 _ _ ?_)
      refine W_seq fun kz9 kq9 => ?_
      refine W_block ?_
      refine W_seq fun kz10 kq10 => ?_
      refine W_draw [1, 2, 5, 26] [0, 1, 2, 3, 4, 5, 6, 7, 8, 9] [] [[], [], [0, 1], [0, 1, 2], [], [4], [], [6], [0, 1, 2, 3, 4, 5, 6, 7], [0, 1, 2, 3, 4, 5, 6, 7, 8]] mixed (by kernel_rfl) fun R hR => ?_   -- r6
      simp only [go_sem, hx]
      refine GCall_of (rin_pc Y _ x s.low s.high) ?_   -- t25
      simp only [go_sem, hx]
      try refine And.intro (by repeat' (first | refine And.intro ?_ ?_ | exact GOr_right (fun _ => by simp only [go_sem, hx]))) ?_
      refine hR _ _ (kq10 _ _ ?_); clear hR R; try clear kq10 kz10
      try simp only [go_sem, hx]
      refine W_cond rfl (fun c3 => ?_) (fun c3 => ?_)
      · -- c3 true
        try simp only [nrm] at c3
        refine W_seq fun kz11 kq11 => ?_
        refine W_region [4] fun R hR => ?_   -- r7
        simp only [go_sem, hx]
        refine hR _ _ (kq11 _ _ ?_); clear hR R; try clear kq11 kz11
        try simp only [go_sem, hx]
        refine W_ret ?_
        simp only [go_sem, hx]
        refine ⟨.inr (by trivial), ?_⟩
        first | refine Fin_same hcl rfl (Wk_eq ?_ (by simp only [go_sem])) | refine Fin_self hcl rfl (Wk_eq ?_ (by simp only [go_sem]))
        try simp only [go_sem]
        all_goals
          rw [← hres]; simp [rMarks, *]
      · -- c3 false
        try simp only [nrm] at c3
        refine W_skip (kq9 _ _ ?_)
        refine W_region [1, 2, 5] fun R hR => ?_   -- r5
        simp only [go_sem, hx]
        try simp (disch := omega) only [wrapI, wrapU]
        refine hR _ _ ?_; clear hR R
        try simp only [go_sem, hx]
        refine ⟨i + 1, ?_, by (try simp only []); omega, ?_⟩
        · first | exact Weak.refl | exact Weak.eq (by first | rfl | (simp only [go_sem]; done) | (simp only [go_sem]; rfl) | (simp [go_sem]; done) | (simp [go_sem]; omega)) (by first | rfl | (simp only [go_sem]; done) | (simp [go_sem]; done))
        · try dsimp only
          exact ⟨hi', by simp_all⟩
    · -- c2 false
      try simp only [nrm] at c2
      have hdrop : l.drop i = [] := List.drop_eq_nil_of_le (by omega)
      rw [hdrop, outMarks_nil] at hinv
      refine W_exit ?_
      simp only [go_sem]
      refine kq5 _ _ ?_
      refine W_seq fun kz12 kq12 => ?_
      refine W_region [4] fun R hR => ?_   -- r8
      simp only [go_sem]
      refine hR _ _ (kq12 _ _ ?_); clear hR R; try clear kq12 kz12
      try simp only [go_sem]
      refine W_ret ?_
      simp only [go_sem]
      refine ⟨.inr (by trivial), ?_⟩
      first | refine Fin_same hcl rfl (Wk_eq ?_ (by simp only [go_sem])) | refine Fin_self hcl rfl (Wk_eq ?_ (by simp only [go_sem]))
      try simp only [go_sem]
      all_goals
        rw [← hres]; simp [rMarks, *]
set_option maxHeartbeats 2000000 in
theorem rseal_pc (Y : YEnv) (σ : Sg) (a b : Int) (l : List Int) (o : Own) (h1 : 0 ≤ a ∧ a ≤ 5) (h2 : 0 ≤ b ∧ b ≤ 4) (h3 : l.length ≤ 8) (h4 : ∀ x, x ∈ l → 0 ≤ x ∧ x ≤ 100) :
    PC Try.prog Y 72 [I a, I b, intsO o l] σ (I (sealOf (a, b) l)) (σ) := by
  refine PC_of_W Try.func72 rfl (by kernel_rfl) Try.ntmps72 (by simp) fun hcl hca => ?_
  obtain ⟨res, hres⟩ : ∃ r, sealOf (a, b) l = r := ⟨_, rfl⟩
  rw [hres]
  have hz : ¬ ((997 : Int) = 0) := by omega
  refine W_seq fun kz1 kq1 => ?_
  refine W_region [0, 1, 2] fun R hR => ?_   -- r0
  simp only [go_sem, hz]
  refine hR _ _ (kq1 _ _ ?_); clear hR R; try clear kq1 kz1
  try simp only [go_sem, hz]
  refine W_seq fun kz2 kq2 => ?_
  refine W_region [2, 7] fun R hR => ?_   -- r1
  simp only [go_sem, hz]
  try simp (disch := omega) only [wrapI, wrapU]
  refine hR _ _ (kq2 _ _ ?_); clear hR R; try clear kq2 kz2
  try simp only [go_sem, hz]
  refine W_seq fun kz3 kq3 => ?_
  refine W_seq fun kz4 kq4 => ?_
  refine W_region [2, 7, 8] fun R hR => ?_   -- r2
  simp only [go_sem, hz]
  refine hR _ _ (kq4 _ _ ?_); clear hR R; try clear kq4 kz4
  try simp only [go_sem, hz]
  refine W_block ?_
  refine W_loopS (α := Nat × Int) (fun ⟨i, n⟩ => [(7, I n), (8, I i)]) (fun ⟨i, n⟩ => i ≤ l.length ∧ res = (n + sealSum i (l.drop i)).tmod 997 ∧ 0 ≤ n ∧ n ≤ 10000 + i * 800) (fun ⟨i, n⟩ => l.length - i) ((0, (a + 1) * 101 + (b + 1) * 1009)) rfl (⟨Nat.zero_le _, by rw [← hres]; simp [sealOf], by omega, by simp; omega⟩) ?_
  rintro ⟨i, n⟩ ⟨hi, hinv, hn1, hn2⟩
  have hi8 : i ≤ 8 := by omega
  refine W_seq fun kz5 kq5 => ?_
  refine W_seq fun kz6 kq6 => ?_
  refine W_region [2, 7, 8, 19] fun R hR => ?_   -- r3
  simp only [go_sem, hz]
  refine hR _ _ (kq6 _ _ ?_); clear hR R; try clear kq6 kz6
  try simp only [go_sem, hz]
  refine W_cond rfl (fun c1 => ?_) (fun c1 => ?_)
  · -- c1 true
    try simp only [nrm] at c1
    have hi' : i < l.length := by first | assumption | omega
    obtain ⟨x, hx⟩ : ∃ x, l[i]? = some x := ⟨l[i], by simp [hi']⟩
    have hdrop : l.drop i = x :: l.drop (i + 1) := by
      rw [List.drop_eq_getElem_cons hi']; congr 1; exact (List.getElem?_eq_some_iff.1 hx).2
    rw [hdrop] at hinv
    simp only [sealSum] at hinv
    have hxb := h4 x (List.mem_of_getElem? hx)
    have hp1 : 0 ≤ ((i : Int) + 1) * x := Int.mul_nonneg (by omega) hxb.1
    have hp2 : ((i : Int) + 1) * x ≤ ((i : Int) + 1) * 100 := Int.mul_le_mul_of_nonneg_left hxb.2 (by omega)
    refine W_skip (kq5 _ _ ?_)
    refine W_seq fun kz7 kq7 => ?_
    refine W_block ?_
    refine W_region [2, 7, 8] fun R hR => ?_   -- r5
    simp only [go_sem, hz, hx]
    try simp (disch := omega) only [wrapI, wrapU]
    refine hR _ _ (kq7 _ _ ?_); clear hR R; try clear kq7 kz7
    try simp only [go_sem, hz, hx]
    refine W_region [2, 7, 8] fun R hR => ?_   -- r4
    simp only [go_sem, hz, hx]
    try simp (disch := omega) only [wrapI, wrapU]
    refine hR _ _ ?_; clear hR R
    try simp only [go_sem, hz, hx]
    refine ⟨(i + 1, n + ((i : Int) + 1) * x), ?_, by (try simp only []); omega, ?_⟩
    · first | exact Weak.refl | exact Weak.eq (by first | rfl | (simp only [go_sem]; done) | (simp only [go_sem]; rfl) | (simp [go_sem]; done) | (simp [go_sem]; omega)) (by first | rfl | (simp only [go_sem]; done) | (simp [go_sem]; done))
    · try dsimp only
      refine ⟨hi', ?_, by omega, by simp; omega⟩
      rw [hinv]; congr 1; omega
  · -- c1 false
    try simp only [nrm] at c1
    have hdrop : l.drop i = [] := List.drop_eq_nil_of_le (by omega)
    rw [hdrop] at hinv
    simp only [sealSum] at hinv
    refine W_exit ?_
    simp only [go_sem, hz]
    refine kq3 _ _ ?_
    refine W_seq fun kz8 kq8 => ?_
    refine W_region [6] fun R hR => ?_   -- r6
    simp only [go_sem, hz]
    try simp (disch := omega) only [wrapI, wrapU]
    refine hR _ _ (kq8 _ _ ?_); clear hR R; try clear kq8 kz8
    try simp only [go_sem, hz]
    refine W_ret ?_
    simp only [go_sem, hz]
    refine ⟨.inr (by trivial), ?_⟩
    first | refine Fin_same hcl rfl (Wk_eq ?_ (by simp only [go_sem])) | refine Fin_self hcl rfl (Wk_eq ?_ (by simp only [go_sem]))
    try simp only [go_sem]
    all_goals
      rw [hinv, Int.add_zero]
set_option maxHeartbeats 2000000 in
theorem rSeal_pc (Y : YEnv) (σ : Sg) (s : Scale) (a b : Int) (l : List Int) (o : Own) (hl : l.length < 2 ^ 40) (hs : s.Ok) :
    PC Try.prog Y 49 [scPV s, I a, I b, intsO o l] σ (.tuple [I (sealAns s (a, b) l).1, I (sealAns s (a, b) l).2]) (σ) := by
  refine PC_of_W Try.func49 rfl (by kernel_rfl) Try.ntmps49 (by simp) fun hcl hca => ?_
  refine W_seq fun kz1 kq1 => ?_
  refine W_region [1, 2, 3, 4] fun R hR => ?_   -- r0
  simp only [go_sem]
  refine hR _ _ (kq1 _ _ ?_); clear hR R; try clear kq1 kz1
  try simp only [go_sem]
  refine W_seq fun kz2 kq2 => ?_
  refine W_seq fun kz3 kq3 => ?_
  refine W_region [1, 2, 3, 4, 10] fun R hR => ?_   -- r1
  simp only [go_sem]
  refine GCall_of (rCheck_pc Y _ s hs) ?_   -- t14
  simp only [go_sem]
  refine hR _ _ (kq3 _ _ ?_); clear hR R; try clear kq3 kz3
  try simp only [go_sem]
  refine W_seq fun kz4 kq4 => ?_
  refine W_region [1, 2, 3, 4, 10, 16] fun R hR => ?_   -- r2
  simp only [go_sem]
  refine hR _ _ (kq4 _ _ ?_); clear hR R; try clear kq4 kz4
  try simp only [go_sem]
  refine W_cond rfl (fun c1 => ?_) (fun c1 => ?_)
  · -- c1 true
    try simp only [nrm] at c1
    refine W_seq fun kz5 kq5 => ?_
    refine W_region [8, 9] fun R hR => ?_   -- r3
    simp only [go_sem]
    refine hR _ _ (kq5 _ _ ?_); clear hR R; try clear kq5 kz5
    try simp only [go_sem]
    refine W_ret ?_
    simp only [go_sem]
    refine ⟨.inr (by trivial), ?_⟩
    first | refine Fin_same hcl rfl (Wk_eq ?_ (by simp only [go_sem])) | refine Fin_self hcl rfl (Wk_eq ?_ (by simp only [go_sem]))
    try simp only [go_sem]
    all_goals
      simp [sealAns, marked_r, *]
  · -- c1 false
    try simp only [nrm] at c1
    refine W_skip (kq2 _ _ ?_)
    refine W_seq fun kz6 kq6 => ?_
    refine W_seq fun kz7 kq7 => ?_
    refine W_region [1, 2, 3, 4, 11] fun R hR => ?_   -- r4
    simp only [go_sem]
    have hv := Scale.v c1
    refine GCall_of (rJudge_pc Y _ s a b hv) ?_   -- t21
    simp only [go_sem]
    refine hR _ _ (kq7 _ _ ?_); clear hR R; try clear kq7 kz7
    try simp only [go_sem]
    refine W_seq fun kz8 kq8 => ?_
    refine W_region [1, 2, 3, 4, 11, 23] fun R hR => ?_   -- r5
    simp only [go_sem]
    refine hR _ _ (kq8 _ _ ?_); clear hR R; try clear kq8 kz8
    try simp only [go_sem]
    refine W_cond rfl (fun c2 => ?_) (fun c2 => ?_)
    · -- c2 true
      try simp only [nrm] at c2
      refine W_seq fun kz9 kq9 => ?_
      refine W_region [8, 9] fun R hR => ?_   -- r6
      simp only [go_sem]
      refine hR _ _ (kq9 _ _ ?_); clear hR R; try clear kq9 kz9
      try simp only [go_sem]
      refine W_ret ?_
      simp only [go_sem]
      refine ⟨.inr (by trivial), ?_⟩
      first | refine Fin_same hcl rfl (Wk_eq ?_ (by simp only [go_sem])) | refine Fin_self hcl rfl (Wk_eq ?_ (by simp only [go_sem]))
      try simp only [go_sem]
      all_goals
        simp [sealAns, marked_r, *]
    · -- c2 false
      try simp only [nrm] at c2
      refine W_skip (kq6 _ _ ?_)
      refine W_seq fun kz10 kq10 => ?_
      refine W_seq fun kz11 kq11 => ?_
      refine W_region [1, 2, 3, 12] fun R hR => ?_   -- r7
      simp only [go_sem]
      refine GCall_of (rMarks_pc Y _ s l o hl) ?_   -- t27
      simp only [go_sem]
      refine hR _ _ (kq11 _ _ ?_); clear hR R; try clear kq11 kz11
      try simp only [go_sem]
      refine W_seq fun kz12 kq12 => ?_
      refine W_region [1, 2, 3, 12, 29] fun R hR => ?_   -- r8
      simp only [go_sem]
      refine hR _ _ (kq12 _ _ ?_); clear hR R; try clear kq12 kz12
      try simp only [go_sem]
      refine W_cond rfl (fun c3 => ?_) (fun c3 => ?_)
      · -- c3 true
        try simp only [nrm] at c3
        refine W_seq fun kz13 kq13 => ?_
        refine W_region [8, 9] fun R hR => ?_   -- r9
        simp only [go_sem]
        refine hR _ _ (kq13 _ _ ?_); clear hR R; try clear kq13 kz13
        try simp only [go_sem]
        refine W_ret ?_
        simp only [go_sem]
        refine ⟨.inr (by trivial), ?_⟩
        first | refine Fin_same hcl rfl (Wk_eq ?_ (by simp only [go_sem])) | refine Fin_self hcl rfl (Wk_eq ?_ (by simp only [go_sem]))
        try simp only [go_sem]
        all_goals
          simp [sealAns, marked_r, *]
      · -- c3 false
        try simp only [nrm] at c3
        refine W_skip (kq10 _ _ ?_)
        refine W_seq fun kz14 kq14 => ?_
        refine W_region [8, 9] fun R hR => ?_   -- r10
        simp only [go_sem]
        have hmk : marked s (a, b) l = 0 := by rw [marked_r]; simp [*]
        obtain ⟨k1, k2, k3⟩ := marked_ok hmk
        simp only [ofSc_true] at k1
        have q1 := hv.mt
        have q2 := hv.jd
        have q3 := hv.sc
        have q4 := hv.lo
        have q5 := hv.hi
        refine GCall_of (rseal_pc Y _ a b l o (by omega) (by omega) (by omega) (fun x hx => by have := k3 x hx; omega)) ?_   -- t34
        simp only [go_sem]
        refine hR _ _ (kq14 _ _ ?_); clear hR R; try clear kq14 kz14
        try simp only [go_sem]
        refine W_ret ?_
        simp only [go_sem]
        refine ⟨.inr (by trivial), ?_⟩
        first | refine Fin_same hcl rfl (Wk_eq ?_ (by simp only [go_sem])) | refine Fin_self hcl rfl (Wk_eq ?_ (by simp only [go_sem]))
        try simp only [go_sem]
        all_goals
          simp [sealAns, marked_r, *]
end Go.Proofs.Ytgelnjmddabgpaa
namespace Go.Proofs.Ytgelnjmddabgpaa
open Go Go.RowKit
set_option maxRecDepth 100000
theorem mem2 {a b r : Int} (h : r ∈ [a, b]) : r = a ∨ r = b := by simpa using h
theorem mem3 {a b c r : Int} (h : r ∈ [a, b, c]) : r = a ∨ r = b ∨ r = c := by simpa using h
noncomputable def scaleD (n : Int) : D Scale := dbind (mid 1 n) fun a => dbind (mid 1 3) fun mt => dbind (mid 1 3) fun jd => dbind (anyOf [0, 70, 98]) fun lo => dbind (roll jd) fun dr => dbind (anyOf [2, 30]) fun e => dbind (mid lo (min 100 (lo + e))) fun hi => dbind (orderD mt.toNat) fun od => dret ⟨a, mt, jd, dr, lo, hi, od⟩
theorem chkOrd_of {m : Int} : ∀ {l p : List Int}, (∀ x, x ∈ l → 0 ≤ x ∧ x ≤ m - 1) → l.Nodup → (∀ x, x ∈ l → x ∉ p) → chkOrd m p l = 0 := by
  intro l
  induction l with
  | nil => intro p _ _ _; rfl
  | cons n l ih =>
    intro p h1 h2 h3
    obtain ⟨a1, a2⟩ := List.nodup_cons.1 h2
    have hn := h1 n (by simp)
    have hin : inR n 0 (m - 1) = true := by rw [inR_true]; exact hn
    have hh : has p n = false := by
      cases h : has p n with
      | false => rfl
      | true => exact absurd (has_iff.1 h) (h3 n (by simp))
    simp only [chkOrd, hin, hh]
    refine ih (fun x hx => h1 x (by simp [hx])) a2 (fun x hx hp => ?_)
    rcases List.mem_append.1 hp with hp | hp
    · exact h3 x (by simp [hx]) hp
    · simp only [List.mem_singleton] at hp
      subst hp
      exact a1 hx
theorem nodup_range (n : Nat) : ((List.range n).map fun (i : Nat) => (i : Int)).Nodup := by
  rw [List.nodup_iff_pairwise_ne, List.pairwise_map]
  refine List.Pairwise.imp ?_ (List.nodup_range (n := n))
  intro a b h e
  exact h (by omega)
theorem order_ok {mt : Int} {od : List Int} (h : od.Perm ((List.range mt.toNat).map fun (i : Nat) => (i : Int))) : chkOrd mt [] od = 0 := by
  refine chkOrd_of (fun x hx => ?_) (h.nodup_iff.2 (nodup_range _)) (fun x _ hx => by cases hx)
  obtain ⟨i, hi, rfl⟩ := List.mem_map.1 (h.mem_iff.1 hx)
  have := List.mem_range.1 hi
  omega
theorem scaleD_ok (n : Int) (h1 : 1 ≤ n) (h2 : n ≤ 8) : Holds (scaleD n) fun s => chkSc s = 0 ∧ s.schools ≤ n ∧ s.matters ≤ 3 ∧ s.judges ≤ 3 := by
  unfold scaleD
  refine (mid_bd 1 n h1).bind fun a ha => (mid_bd 1 3 (by omega)).bind fun mt hmt => (mid_bd 1 3 (by omega)).bind fun jd hjd => (anyOf_mem [0, 70, 98] (by simp)).bind fun lo hlo => (roll_bd jd).bind fun dr hdr => (anyOf_mem [2, 30] (by simp)).bind fun e he => ?_
  have hlo' : 0 ≤ lo ∧ lo ≤ 98 := by rcases mem3 hlo with h | h | h <;> omega
  have he' : 2 ≤ e ∧ e ≤ 30 := by rcases mem2 he with h | h <;> omega
  refine (mid_bd lo (min 100 (lo + e)) (by omega)).bind fun hi hhi => (orderD_perm mt.toNat).bind fun od hod => .ret ⟨?_, by simp only []; omega, by simp only []; omega, by simp only []; omega⟩
  have hl : od.length = mt.toNat := by rw [hod.length_eq]; simp
  have hr : scRange ⟨a, mt, jd, dr, lo, hi, od⟩ = true := by
    simp only [scRange, Bool.and_eq_true, inR_true]
    omega
  unfold chkSc
  rw [hr]
  simp only [Bool.not_true, Bool.false_eq_true, if_false]
  rw [if_neg (by omega), if_neg (by omega)]
  exact order_ok hod
noncomputable def marksC (s : Scale) : Nat → List Int → D (List Int)
  | 0, acc => dret acc
  | k + 1, acc => dbind (mid s.low s.high) fun m => dbind (anyOf [s.low, s.high, m]) fun x => marksC s k (acc ++ [x])
noncomputable def marksD (s : Scale) : D (List Int) := marksC s s.schools.toNat []
theorem marksC_ok {s : Scale} (h : s.low ≤ s.high) : ∀ (k : Nat) (acc : List Int), (∀ x, x ∈ acc → s.low ≤ x ∧ x ≤ s.high) → Holds (marksC s k acc) fun l => l.length = acc.length + k ∧ ∀ x, x ∈ l → s.low ≤ x ∧ x ≤ s.high := by
  intro k
  induction k with
  | zero => intro acc ha; exact .ret ⟨rfl, ha⟩
  | succ k ih =>
    intro acc ha
    refine (mid_bd s.low s.high h).bind fun m hm => (anyOf_mem [s.low, s.high, m] (by simp)).bind fun x hx => (ih (acc ++ [x]) fun y hy => ?_).mono fun l hl => ⟨by rw [hl.1]; simp; omega, hl.2⟩
    rcases List.mem_append.1 hy with hy | hy
    · exact ha y hy
    · simp only [List.mem_singleton] at hy
      subst hy
      rcases mem3 hx with h | h | h <;> omega
theorem marksD_ok {s : Scale} (hv : s.V) : Holds (marksD s) fun l => (l.length : Int) = s.schools ∧ ∀ x, x ∈ l → s.low ≤ x ∧ x ≤ s.high := by
  have q := hv.sc
  exact (marksC_ok hv.lh s.schools.toNat [] (fun x hx => by cases hx)).mono fun l hl => ⟨by rw [hl.1]; simp; omega, hl.2⟩
def sealedE (s : Scale) (m j : Int) (l : List Int) : Envl := ⟨m, j, l, (sealAns s (m, j) l).1⟩
set_option maxHeartbeats 8000000 in
theorem ScaleOf_pc (Y : YEnv) (σ : Sg) (d : Nat) (b : Int) (hd : σ.store[d]? = some (some [.int .u64 b])) (n : Int) (h1 : 1 ≤ n) (h2 : n ≤ 8) :
    PC Try.prog Y 10 [.ptr d 0, I n] σ (scPV (scaleD n b).1) (σ.setVar d [.int .u64 (scaleD n b).2]) := by
  refine PC_of_W Try.func10 rfl (by kernel_rfl) Try.ntmps10 (by simp) fun hcl hca => ?_
  have hlt := lt_of_get hd
  obtain ⟨a, ha⟩ : ∃ zz, (mid 1 n b).1 = zz := ⟨_, rfl⟩
  obtain ⟨b1, hb1⟩ : ∃ zz, (mid 1 n b).2 = zz := ⟨_, rfl⟩
  have da := mid_bd 1 n h1 b
  simp only [ha] at da
  obtain ⟨mt, hmt⟩ : ∃ zz, (mid 1 3 b1).1 = zz := ⟨_, rfl⟩
  obtain ⟨b2, hb2⟩ : ∃ zz, (mid 1 3 b1).2 = zz := ⟨_, rfl⟩
  have dmt := mid_bd 1 3 (by omega) b1
  simp only [hmt] at dmt
  obtain ⟨jd, hjd⟩ : ∃ zz, (mid 1 3 b2).1 = zz := ⟨_, rfl⟩
  obtain ⟨b3, hb3⟩ : ∃ zz, (mid 1 3 b2).2 = zz := ⟨_, rfl⟩
  have djd := mid_bd 1 3 (by omega) b2
  simp only [hjd] at djd
  obtain ⟨lo, hlo⟩ : ∃ zz, (anyOf [0, 70, 98] b3).1 = zz := ⟨_, rfl⟩
  obtain ⟨b4, hb4⟩ : ∃ zz, (anyOf [0, 70, 98] b3).2 = zz := ⟨_, rfl⟩
  have dlo := anyOf_mem [0, 70, 98] (by simp) b3
  simp only [hlo] at dlo
  obtain ⟨dr, hdr⟩ : ∃ zz, (roll jd b4).1 = zz := ⟨_, rfl⟩
  obtain ⟨b5, hb5⟩ : ∃ zz, (roll jd b4).2 = zz := ⟨_, rfl⟩
  have ddr := roll_bd jd b4
  simp only [hdr] at ddr
  obtain ⟨e, he⟩ : ∃ zz, (anyOf [2, 30] b5).1 = zz := ⟨_, rfl⟩
  obtain ⟨b6, hb6⟩ : ∃ zz, (anyOf [2, 30] b5).2 = zz := ⟨_, rfl⟩
  have de := anyOf_mem [2, 30] (by simp) b5
  simp only [he] at de
  have hlo' : 0 ≤ lo ∧ lo ≤ 98 := by rcases mem3 dlo with h | h | h <;> omega
  have he' : 2 ≤ e ∧ e ≤ 30 := by rcases mem2 de with h | h <;> omega
  obtain ⟨mtn, hmtn⟩ : ∃ z : Nat, mt = z := ⟨mt.toNat, by omega⟩
  subst hmtn
  obtain ⟨hi, hhi⟩ : ∃ zz, (mid lo (min 100 (lo + e)) b6).1 = zz := ⟨_, rfl⟩
  obtain ⟨b7, hb7⟩ : ∃ zz, (mid lo (min 100 (lo + e)) b6).2 = zz := ⟨_, rfl⟩
  have dhi := mid_bd lo (min 100 (lo + e)) (by omega) b6
  simp only [hhi] at dhi
  obtain ⟨od, hod⟩ : ∃ zz, (orderD mtn b7).1 = zz := ⟨_, rfl⟩
  obtain ⟨b8, hb8⟩ : ∃ zz, (orderD mtn b7).2 = zz := ⟨_, rfl⟩
  have dod := orderD_perm mtn b7
  simp only [hod] at dod
  have hmin : (if (100 : Int) ≤ lo + e then 100 else lo + e) = min 100 (lo + e) := by split <;> omega
  have hres : scaleD n b = (⟨a, mtn, jd, dr, lo, hi, od⟩, b8) := by
    simp only [scaleD, dbind, ha, hb1, hmt, hb2, hjd, hb3, hlo, hb4, hdr, hb5, he, hb6, hhi, hb7, Int.toNat_natCast, hod, hb8, dret]
  rw [hres]
  refine W_seq fun kz1 kq1 => ?_
  refine W_region [0, 1, 4] fun R hR => ?_   -- r0
  simp only [go_sem, ldS_at hd, stX_at hd, ldS_sv hlt, stX_sv hlt, sv_ext hlt, sv_ext_sv hlt, ha, hb1, hmt, hb2, hjd, hb3, hlo, hb4, hdr, hb5, he, hb6, hhi, hb7, hod, hb8]
  refine hR _ _ (kq1 _ _ ?_); clear hR R; try clear kq1 kz1
  try simp only [go_sem, ldS_at hd, stX_at hd, ldS_sv hlt, stX_sv hlt, sv_ext hlt, sv_ext_sv hlt, ha, hb1, hmt, hb2, hjd, hb3, hlo, hb4, hdr, hb5, he, hb6, hhi, hb7, hod, hb8]
  refine W_seq fun kz2 kq2 => ?_
  refine W_region [0, 4, 5] fun R hR => ?_   -- r1
  simp only [go_sem, ldS_at hd, stX_at hd, ldS_sv hlt, stX_sv hlt, sv_ext hlt, sv_ext_sv hlt, ha, hb1, hmt, hb2, hjd, hb3, hlo, hb4, hdr, hb5, he, hb6, hhi, hb7, hod, hb8]
  refine GCall_of (Mid_pc Y _ d b (by first | exact hd | exact sv_get hlt | exact get_svx hlt | exact get_extx hd) 1 n (by omega) (by omega) (by omega) (by omega)) ?_   -- t8
  simp only [go_sem, ldS_at hd, stX_at hd, ldS_sv hlt, stX_sv hlt, sv_ext hlt, sv_ext_sv hlt, ha, hb1, hmt, hb2, hjd, hb3, hlo, hb4, hdr, hb5, he, hb6, hhi, hb7, hod, hb8]
  refine GCall_of (Mid_pc Y _ d b1 (by first | exact hd | exact sv_get hlt | exact get_svx hlt | exact get_extx hd) 1 3 (by omega) (by omega) (by omega) (by omega)) ?_   -- t10
  simp only [go_sem, ldS_at hd, stX_at hd, ldS_sv hlt, stX_sv hlt, sv_ext hlt, sv_ext_sv hlt, ha, hb1, hmt, hb2, hjd, hb3, hlo, hb4, hdr, hb5, he, hb6, hhi, hb7, hod, hb8]
  refine GCall_of (Mid_pc Y _ d b2 (by first | exact hd | exact sv_get hlt | exact get_svx hlt | exact get_extx hd) 1 3 (by omega) (by omega) (by omega) (by omega)) ?_   -- t12
  simp only [go_sem, ldS_at hd, stX_at hd, ldS_sv hlt, stX_sv hlt, sv_ext hlt, sv_ext_sv hlt, ha, hb1, hmt, hb2, hjd, hb3, hlo, hb4, hdr, hb5, he, hb6, hhi, hb7, hod, hb8]
  refine GCall_of (Any_pc Y _ d b3 (by first | exact hd | exact sv_get hlt | exact get_svx hlt | exact get_extx hd) [0, 70, 98] (by simp) (by simp)) ?_   -- t15
  simp only [go_sem, ldS_at hd, stX_at hd, ldS_sv hlt, stX_sv hlt, sv_ext hlt, sv_ext_sv hlt, ha, hb1, hmt, hb2, hjd, hb3, hlo, hb4, hdr, hb5, he, hb6, hhi, hb7, hod, hb8]
  refine hR _ _ (kq2 _ _ ?_); clear hR R; try clear kq2 kz2
  try simp only [go_sem, ldS_at hd, stX_at hd, ldS_sv hlt, stX_sv hlt, sv_ext hlt, sv_ext_sv hlt, ha, hb1, hmt, hb2, hjd, hb3, hlo, hb4, hdr, hb5, he, hb6, hhi, hb7, hod, hb8]
  refine W_seq fun kz3 kq3 => ?_
  have hmin2 : min (100 : Int) (lo + e) = min 100 (lo + e) := rfl
  refine W_draw [4, 5] [0, 1, 2, 3, 4, 5, 6, 7, 8, 9, 10, 11, 12, 13, 14, 15, 16, 17, 18, 19, 20, 21, 22, 23, 24] [(4, 3), (4, 14), (5, 3), (5, 14), (6, 3), (6, 14), (7, 3), (7, 14), (8, 3), (8, 14), (9, 3), (10, 3), (15, 3), (15, 11), (15, 14), (16, 3), (16, 11), (16, 14), (17, 3), (17, 11), (17, 14), (19, 11), (19, 14), (19, 18)] [[], [], [1], [0, 1, 2], [], [], [5], [], [7], [], [], [0, 1, 2, 3, 9, 10], [0, 1, 2, 3, 7, 8, 9, 10, 11], [0, 1, 2, 3, 7, 8, 9, 10, 11, 12], [0, 1, 2, 3, 4, 5, 6, 7, 8, 9, 10, 11, 12, 13], [], [], [16], [0, 1, 2, 3, 4, 5, 6, 7, 8, 9, 10, 11, 12, 13, 14, 15, 16, 17], [0, 1, 2, 3, 5, 6, 7, 8, 16, 17], [0, 1, 2, 3, 4, 5, 6, 7, 8, 9, 10, 11, 12, 13, 14, 15, 16, 17, 18, 19], [0, 1, 2, 3, 4, 5, 6, 7, 8, 9, 10, 11, 12, 13, 14, 15, 16, 17, 18, 19, 20], [0, 1, 2, 3, 4, 5, 6, 7, 8, 9, 10, 11, 12, 13, 14, 15, 16, 17, 18, 19, 20, 21], [0, 1, 2, 3, 4, 5, 6, 7, 8, 9, 10, 11, 12, 13, 14, 15, 16, 17, 18, 19, 20, 21, 22], [0, 1, 2, 3, 4, 5, 6, 7, 8, 9, 10, 11, 12, 13, 14, 15, 16, 17, 18, 19, 20, 21, 22, 23]] mixed (by kernel_rfl) fun R hR => ?_   -- r2
  simp only [go_sem, ldS_at hd, stX_at hd, ldS_sv hlt, stX_sv hlt, sv_ext hlt, sv_ext_sv hlt, ha, hb1, hmt, hb2, hjd, hb3, hlo, hb4, hdr, hb5, he, hb6, hhi, hb7, hod, hb8]
  refine GCall_of (Roll_pc Y _ d b4 (by first | exact hd | exact sv_get hlt | exact get_svx hlt | exact get_extx hd) jd (by omega)) ?_   -- t20
  simp only [go_sem, ldS_at hd, stX_at hd, ldS_sv hlt, stX_sv hlt, sv_ext hlt, sv_ext_sv hlt, ha, hb1, hmt, hb2, hjd, hb3, hlo, hb4, hdr, hb5, he, hb6, hhi, hb7, hod, hb8]
  refine GCall_of (Any_pc Y _ d b5 (by first | exact hd | exact sv_get hlt | exact get_svx hlt | exact get_extx hd) [2, 30] (by simp) (by simp)) ?_   -- t28
  simp only [go_sem, ldS_at hd, stX_at hd, ldS_sv hlt, stX_sv hlt, sv_ext hlt, sv_ext_sv hlt, ha, hb1, hmt, hb2, hjd, hb3, hlo, hb4, hdr, hb5, he, hb6, hhi, hb7, hod, hb8]
  try simp (disch := omega) only [wrapI]
  try simp only [hmin, hmin2]
  try simp (disch := omega) only [wrapI, wrapU]
  refine GCall_of (Mid_pc Y _ d b6 (by first | exact hd | exact sv_get hlt | exact get_svx hlt | exact get_extx hd) lo (min 100 (lo + e)) (by omega) (by omega) (by omega) (by omega)) ?_   -- t31
  simp only [go_sem, ldS_at hd, stX_at hd, ldS_sv hlt, stX_sv hlt, sv_ext hlt, sv_ext_sv hlt, ha, hb1, hmt, hb2, hjd, hb3, hlo, hb4, hdr, hb5, he, hb6, hhi, hb7, hod, hb8]
  try simp (disch := omega) only [wrapI, wrapU]
  refine GCall_of (Order_pc Y _ d b7 (by first | exact hd | exact sv_get hlt | exact get_svx hlt | exact get_extx hd) mtn (by omega)) ?_   -- t35
  simp only [go_sem, ldS_at hd, stX_at hd, ldS_sv hlt, stX_sv hlt, sv_ext hlt, sv_ext_sv hlt, ha, hb1, hmt, hb2, hjd, hb3, hlo, hb4, hdr, hb5, he, hb6, hhi, hb7, hod, hb8]
  try simp (disch := omega) only [wrapI, wrapU]
  try refine And.intro (by repeat' (first | refine And.intro ?_ ?_ | exact GOr_right (fun _ => by simp only [go_sem, ldS_at hd, stX_at hd, ldS_sv hlt, stX_sv hlt, sv_ext hlt, sv_ext_sv hlt, ha, hb1, hmt, hb2, hjd, hb3, hlo, hb4, hdr, hb5, he, hb6, hhi, hb7, hod, hb8]))) ?_
  refine hR _ _ (kq3 _ _ ?_); clear hR R; try clear kq3 kz3
  try simp only [go_sem, ldS_at hd, stX_at hd, ldS_sv hlt, stX_sv hlt, sv_ext hlt, sv_ext_sv hlt, ha, hb1, hmt, hb2, hjd, hb3, hlo, hb4, hdr, hb5, he, hb6, hhi, hb7, hod, hb8]
  refine W_seq fun kz4 kq4 => ?_
  refine W_region [4] fun R hR => ?_   -- r3
  simp only [go_sem, ldS_at hd, stX_at hd, ldS_sv hlt, stX_sv hlt, sv_ext hlt, sv_ext_sv hlt, ha, hb1, hmt, hb2, hjd, hb3, hlo, hb4, hdr, hb5, he, hb6, hhi, hb7, hod, hb8]
  refine hR _ _ (kq4 _ _ ?_); clear hR R; try clear kq4 kz4
  try simp only [go_sem, ldS_at hd, stX_at hd, ldS_sv hlt, stX_sv hlt, sv_ext hlt, sv_ext_sv hlt, ha, hb1, hmt, hb2, hjd, hb3, hlo, hb4, hdr, hb5, he, hb6, hhi, hb7, hod, hb8]
  refine W_ret ?_
  simp only [go_sem, ldS_at hd, stX_at hd, ldS_sv hlt, stX_sv hlt, sv_ext hlt, sv_ext_sv hlt, ha, hb1, hmt, hb2, hjd, hb3, hlo, hb4, hdr, hb5, he, hb6, hhi, hb7, hod, hb8]
  refine ⟨.inr (by trivial), ?_⟩
  first | refine Fin_set hcl (by simp only [go_sem]) (by show resPV Try.prog _ _ [.cell 4 26] = some _; simp only [resPV, go_sem]; rfl) (Wk_eq ?_ (by simp only [go_sem])) | refine Fin_set0 hcl (by simp only [go_sem]) (by show resPV Try.prog _ _ [.cell 4 26] = some _; simp only [resPV, go_sem]; rfl) (Wk_eq ?_ (by simp only [go_sem]))
  try simp only [go_sem]
  all_goals
    skip
set_option maxHeartbeats 2000000 in
theorem MarksOf_pc (Y : YEnv) (σ : Sg) (d : Nat) (b : Int) (hd : σ.store[d]? = some (some [.int .u64 b])) (s : Scale) (hv : s.V) :
    PC Try.prog Y 25 [.ptr d 0, scPV s] σ (ints (marksD s b).1) (σ.setVar d [.int .u64 (marksD s b).2]) := by
  refine PC_of_W Try.func25 rfl (by kernel_rfl) Try.ntmps25 (by simp) fun hcl hca => ?_
  have hlt := lt_of_get hd
  have q3 := hv.sc
  have q4 := hv.lo
  have q5 := hv.hi
  have q6 := hv.lh
  obtain ⟨N, hN⟩ : ∃ z : Nat, s.schools = z := ⟨s.schools.toNat, by omega⟩
  have hNi : (s.schools : Int) = (N : Int) := hN
  obtain ⟨res, hres⟩ : ∃ r, marksD s b = r := ⟨_, rfl⟩
  rw [hres]
  unfold marksD at hres
  rw [hN, Int.toNat_natCast] at hres
  refine W_seq fun kz1 kq1 => ?_
  refine W_region [0, 3] fun R hR => ?_   -- r0
  simp only [go_sem, ldS_at hd, stX_at hd, ldS_sv hlt, stX_sv hlt, sv_ext hlt, sv_ext_sv hlt]
  refine hR _ _ (kq1 _ _ ?_); clear hR R; try clear kq1 kz1
  try simp only [go_sem, ldS_at hd, stX_at hd, ldS_sv hlt, stX_sv hlt, sv_ext hlt, sv_ext_sv hlt]
  refine W_seq fun kz2 kq2 => ?_
  refine W_region [0, 3, 5] fun R hR => ?_   -- r1
  simp only [go_sem, ldS_at hd, stX_at hd, ldS_sv hlt, stX_sv hlt, sv_ext hlt, sv_ext_sv hlt]
  refine hR _ _ (kq2 _ _ ?_); clear hR R; try clear kq2 kz2
  try simp only [go_sem, ldS_at hd, stX_at hd, ldS_sv hlt, stX_sv hlt, sv_ext hlt, sv_ext_sv hlt]
  refine W_seq fun kz3 kq3 => ?_
  refine W_seq fun kz4 kq4 => ?_
  refine W_region [0, 3, 5, 6] fun R hR => ?_   -- r2
  simp only [go_sem, ldS_at hd, stX_at hd, ldS_sv hlt, stX_sv hlt, sv_ext hlt, sv_ext_sv hlt]
  refine hR _ _ (kq4 _ _ ?_); clear hR R; try clear kq4 kz4
  try simp only [go_sem, ldS_at hd, stX_at hd, ldS_sv hlt, stX_sv hlt, sv_ext hlt, sv_ext_sv hlt]
  refine W_block ?_
  refine W_weak (Weak.room (t := 5) (es := 1) rfl (by simp)) ?_
  refine W_weak (Weak.keep [0, 3, 5, 6]) ?_
  simp only [go_sem, ldS_at hd, stX_at hd, ldS_sv hlt, stX_sv hlt, sv_ext hlt, sv_ext_sv hlt]
  refine W_loopT (α := Nat × (List Int) × Int) (fun ⟨i, acc, b⟩ => [(5, .isl (acc.map I) (.tok σ.rooms.length acc.length 1)), (6, I i)]) (fun ⟨i, acc, b⟩ => (σ.setVar d [.int .u64 b]).ext [some (scCells s)] [acc.length]) (fun ⟨i, acc, b⟩ => i ≤ N ∧ acc.length = i ∧ res = marksC s (N - i) acc b) (fun ⟨i, acc, b⟩ => N - i) ((0, [], b)) rfl (by simp only [go_sem, sv_self hd]) (⟨Nat.zero_le _, rfl, hres.symm⟩) ?_
  rintro ⟨i, acc, b⟩ ⟨hi, hal, hinv⟩
  refine W_seq fun kz5 kq5 => ?_
  refine W_seq fun kz6 kq6 => ?_
  refine W_region [0, 3, 5, 6, 10] fun R hR => ?_   -- r3
  simp only [go_sem, ldS_at hd, stX_at hd, ldS_sv hlt, stX_sv hlt, sv_ext hlt, sv_ext_sv hlt]
  refine hR _ _ (kq6 _ _ ?_); clear hR R; try clear kq6 kz6
  try simp only [go_sem, ldS_at hd, stX_at hd, ldS_sv hlt, stX_sv hlt, sv_ext hlt, sv_ext_sv hlt]
  refine W_cond rfl (fun c1 => ?_) (fun c1 => ?_)
  · -- c1 true
    try simp only [nrm] at c1
    have hiN : i < N := by first | omega | (simp at c1; omega)
    rw [show N - i = (N - (i + 1)) + 1 by omega] at hinv
    simp only [marksC, dbind] at hinv
    obtain ⟨m, hm⟩ : ∃ zz, (mid s.low s.high b).1 = zz := ⟨_, rfl⟩
    obtain ⟨b1, hb1⟩ : ∃ zz, (mid s.low s.high b).2 = zz := ⟨_, rfl⟩
    have dm := mid_bd s.low s.high q6 b
    simp only [hm] at dm
    obtain ⟨x, hx⟩ : ∃ zz, (anyOf [s.low, s.high, m] b1).1 = zz := ⟨_, rfl⟩
    obtain ⟨b2, hb2⟩ : ∃ zz, (anyOf [s.low, s.high, m] b1).2 = zz := ⟨_, rfl⟩
    simp only [hm, hb1, hx, hb2] at hinv
    refine W_skip (kq5 _ _ ?_)
    refine W_seq fun kz7 kq7 => ?_
    refine W_block ?_
    refine W_draw [0, 3, 5, 6] [0, 1, 2, 3, 4, 5, 6, 7, 8, 9, 10, 11, 12, 13, 14, 15, 16] [(0, 13), (0, 15), (1, 13), (2, 13), (3, 13), (4, 13), (5, 13)] [[], [], [], [2], [], [4], [], [], [7], [], [9], [6, 7, 8, 9, 10], [2, 3, 4, 5, 6, 7, 8, 9, 10, 11], [1, 2, 3, 4, 5, 6, 7, 8, 9, 10, 11, 12], [1, 2, 3, 4, 5, 6, 7, 8, 9, 10, 11, 12, 13], [0, 1, 2, 3, 4, 5, 6, 7, 8, 9, 10, 11, 12, 13, 14], [0, 1, 2, 3, 4, 5, 6, 7, 8, 9, 10, 11, 12, 13, 14, 15]] mixed (by kernel_rfl) fun R hR => ?_   -- r5
    simp only [go_sem, ldS_at hd, stX_at hd, ldS_sv hlt, stX_sv hlt, sv_ext hlt, sv_ext_sv hlt, hm, hb1, hx, hb2]
    refine GCall_of (Mid_pc Y _ d b (by first | exact hd | exact sv_get hlt | exact get_svx hlt | exact get_extx hd) s.low s.high (by omega) (by omega) (by omega) (by omega)) ?_   -- t24
    simp only [go_sem, ldS_at hd, stX_at hd, ldS_sv hlt, stX_sv hlt, sv_ext hlt, sv_ext_sv hlt, hm, hb1, hx, hb2]
    refine GCall_of (Any_pc Y _ d b1 (by first | exact hd | exact sv_get hlt | exact get_svx hlt | exact get_extx hd) [s.low, s.high, m] (by simp) (by simp)) ?_   -- t26
    simp only [go_sem, ldS_at hd, stX_at hd, ldS_sv hlt, stX_sv hlt, sv_ext hlt, sv_ext_sv hlt, hm, hb1, hx, hb2]
    try simp (disch := first | omega | (simp only [go_sem] <;> omega)) only [wrapI, wrapU, appX_exact, appX_tok]
    try simp only [go_sem, ldS_at hd, stX_at hd, ldS_sv hlt, stX_sv hlt, sv_ext hlt, sv_ext_sv hlt, hm, hb1, hx, hb2]
    try refine And.intro (by repeat' (first | refine And.intro ?_ ?_ | exact GOr_right (fun _ => by simp only [go_sem, ldS_at hd, stX_at hd, ldS_sv hlt, stX_sv hlt, sv_ext hlt, sv_ext_sv hlt, hm, hb1, hx, hb2]))) ?_
    refine hR _ _ (kq7 _ _ ?_); clear hR R; try clear kq7 kz7
    try simp only [go_sem, ldS_at hd, stX_at hd, ldS_sv hlt, stX_sv hlt, sv_ext hlt, sv_ext_sv hlt, hm, hb1, hx, hb2]
    refine W_region [0, 3, 5, 6] fun R hR => ?_   -- r4
    simp only [go_sem, ldS_at hd, stX_at hd, ldS_sv hlt, stX_sv hlt, sv_ext hlt, sv_ext_sv hlt, hm, hb1, hx, hb2]
    try simp (disch := omega) only [wrapI, wrapU]
    refine hR _ _ ?_; clear hR R
    try simp only [go_sem, ldS_at hd, stX_at hd, ldS_sv hlt, stX_sv hlt, sv_ext hlt, sv_ext_sv hlt, hm, hb1, hx, hb2]
    refine ⟨(i + 1, acc ++ [x], b2), ?_, by (try simp only []); omega, ?_⟩
    · first | exact Weak.refl | exact Weak.eq (by first | rfl | (simp only [go_sem]; done) | (simp only [go_sem]; rfl) | (simp [go_sem]; done) | (simp [go_sem]; omega)) (by first | rfl | (simp only [go_sem]; done) | (simp [go_sem]; done))
    · try dsimp only
      exact ⟨by omega, by simp [hal], hinv⟩
  · -- c1 false
    try simp only [nrm] at c1
    have hie : N = i := by first | omega | (simp at c1; omega)
    subst hie
    rw [Nat.sub_self] at hinv
    simp only [marksC, dret] at hinv
    refine W_exit ?_
    simp only [go_sem, ldS_at hd, stX_at hd, ldS_sv hlt, stX_sv hlt, sv_ext hlt, sv_ext_sv hlt]
    refine kq3 _ _ ?_
    refine W_seq fun kz8 kq8 => ?_
    refine W_region [4] fun R hR => ?_   -- r6
    simp only [go_sem, ldS_at hd, stX_at hd, ldS_sv hlt, stX_sv hlt, sv_ext hlt, sv_ext_sv hlt]
    refine hR _ _ (kq8 _ _ ?_); clear hR R; try clear kq8 kz8
    try simp only [go_sem, ldS_at hd, stX_at hd, ldS_sv hlt, stX_sv hlt, sv_ext hlt, sv_ext_sv hlt]
    refine W_ret ?_
    simp only [go_sem, ldS_at hd, stX_at hd, ldS_sv hlt, stX_sv hlt, sv_ext hlt, sv_ext_sv hlt]
    refine ⟨.inr (by trivial), ?_⟩
    rw [hinv]; refine Fin_set hcl (by simp only [go_sem]) rfl (Wk.ro (by simp only [go_sem]) ?_)
    try simp only [go_sem]
    all_goals
      simp only [go_sem]
set_option maxHeartbeats 2000000 in
theorem Sealed_pc (Y : YEnv) (σ : Sg) (s : Scale) (m j : Int) (l : List Int) (hl : l.length < 2 ^ 40) (hs : s.Ok) :
    PC Try.prog Y 24 [scPV s, I m, I j, ints l] σ (evPV (sealedE s m j l)) (σ) := by
  refine PC_of_W Try.func24 rfl (by kernel_rfl) Try.ntmps24 (by simp) fun hcl hca => ?_
  refine W_seq fun kz1 kq1 => ?_
  refine W_region [1, 2, 3, 4, 8] fun R hR => ?_   -- r0
  simp only [go_sem, sealedE]
  refine hR _ _ (kq1 _ _ ?_); clear hR R; try clear kq1 kz1
  try simp only [go_sem, sealedE]
  refine W_seq fun kz2 kq2 => ?_
  refine W_region [1, 2, 3, 8, 9] fun R hR => ?_   -- r1
  simp only [go_sem, sealedE]
  refine GCall_of (rSeal_pc Y _ s m j l .ro hl hs) ?_   -- t16
  simp only [go_sem, sealedE]
  refine hR _ _ (kq2 _ _ ?_); clear hR R; try clear kq2 kz2
  try simp only [go_sem, sealedE]
  refine W_seq fun kz3 kq3 => ?_
  refine W_region [8] fun R hR => ?_   -- r2
  simp only [go_sem, sealedE]
  refine hR _ _ (kq3 _ _ ?_); clear hR R; try clear kq3 kz3
  try simp only [go_sem, sealedE]
  refine W_ret ?_
  simp only [go_sem, sealedE]
  refine ⟨.inr (by trivial), ?_⟩
  first | refine Fin_same hcl (by show resPV Try.prog _ _ [.cell 8 37] = some _; simp only [resPV, go_sem]; rfl) (Wk_eq ?_ (by simp only [go_sem])) | refine Fin_same hcl rfl (Wk_eq ?_ (by simp only [go_sem]))
  try simp only [go_sem]
  all_goals
    first | rfl | simp [sealedE]
end Go.Proofs.Ytgelnjmddabgpaa
