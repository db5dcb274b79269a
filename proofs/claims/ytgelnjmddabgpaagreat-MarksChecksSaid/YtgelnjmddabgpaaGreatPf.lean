/-
  Walks: lists compared; the chapter's examples.
  Walks: copies and comparisons of scales and nights (bateriakit); what is too wide.
  Walks: a night copied, to be lengthened (bateriakit).
  Numbers that follow from numbers (bateriakit): the drum.
  Walks: drums made of numbers, spans (bateriakit).
  Walks: an order made of numbers (bateriakit).
  Walks: scales, marks, envelopes made of numbers (bateriakit).
  Walks: nights made of numbers (bateriakit).
  Nights made of numbers are nights that may be. The plain law.
  Walks: the chapter's examples checked.
  The law MarksChecks, walked: scales and nights that may be, seals, who is missing.
-/
import Derived.Test.YtgelnjmddabgpaaGreatPe
import Derived.CallsIn
import Derived.RangeFuncLeaves
import Derived.RangeFuncRecord
import Derived.OrdersIn
import Derived.Below
import Derived.Laws.World
import Derived.Laws.StructEq
import Derived.Laws.Append
import Derived.MapKept
import Derived.ProofKit
import Derived.Carry
import Derived.Handed
import Derived.ChangeCalls
import Derived.RangeFuncIn
import Derived.RangeFuncNested
import Derived.Test.YtgelnjmddabgpaaGreatProg
import Derived.KernelRfl
import Derived.IntWalk
import Derived.Test.YtgelnjmddabgpaaGreatRows
import Derived.Sort.OwnSortedInts
import Derived.Lib.SlicesCompact
import Derived.Shelf.Sort.Plain
import Derived.Shelf.Slices.In.SortNone
import Derived.Shelf.Small.Bits
import Derived.JoinedOf
set_option linter.unusedSimpArgs false
set_option linter.unusedVariables false
namespace Go.Proofs.YtgelnjmddabgpaaGreat
open Go Go.RowKit
set_option maxRecDepth 100000
def insI (x : Int) : List Int → List Int
  | [] => [x]
  | y :: l => if x ≤ y then x :: y :: l else y :: insI x l
def isortI : List Int → List Int
  | [] => []
  | x :: l => insI x (isortI l)
theorem sorted_sortI (l : List Int) : (sortI l).Pairwise (· ≤ ·) := by
  have h := List.pairwise_mergeSort (le := fun (a b : Int) => decide (a ≤ b)) (by intro a b c h1 h2; simp at *; omega) (by intro a b; simp; omega) l
  exact h.imp fun h => by simpa using h
theorem perm_sortI (l : List Int) : (sortI l).Perm l := List.mergeSort_perm l _
theorem insI_perm (x : Int) : ∀ l : List Int, (insI x l).Perm (x :: l) := by
  intro l
  induction l with
  | nil => exact .refl _
  | cons y l ih =>
    simp only [insI]
    split
    · exact .refl _
    · exact (ih.cons y).trans (.swap x y l)
theorem insI_sorted (x : Int) : ∀ {l : List Int}, l.Pairwise (· ≤ ·) → (insI x l).Pairwise (· ≤ ·) := by
  intro l
  induction l with
  | nil => intro _; simp [insI]
  | cons y l ih =>
    intro h
    obtain ⟨h1, h2⟩ := List.pairwise_cons.1 h
    simp only [insI]
    split
    · rename_i hxy
      exact List.pairwise_cons.2 ⟨fun z hz => by rcases List.mem_cons.1 hz with rfl | hz; exact hxy; exact Int.le_trans hxy (h1 z hz), h⟩
    · rename_i hxy
      refine List.pairwise_cons.2 ⟨fun z hz => ?_, ih h2⟩
      rcases List.mem_cons.1 ((insI_perm x l).mem_iff.1 hz) with rfl | hz
      · omega
      · exact h1 z hz
theorem isortI_perm : ∀ l : List Int, (isortI l).Perm l := by
  intro l
  induction l with
  | nil => exact .refl _
  | cons x l ih => exact (insI_perm x _).trans (ih.cons x)
theorem isortI_sorted : ∀ l : List Int, (isortI l).Pairwise (· ≤ ·) := by
  intro l
  induction l with
  | nil => exact .nil
  | cons x l ih => exact insI_sorted x ih
theorem sorted_unique : ∀ {l m : List Int}, l.Perm m → l.Pairwise (· ≤ ·) → m.Pairwise (· ≤ ·) → l = m := by
  intro l
  induction l with
  | nil => intro m h _ _; exact h.nil_eq
  | cons x l ih =>
    intro m h h1 h2
    obtain ⟨a1, a2⟩ := List.pairwise_cons.1 h1
    cases m with
    | nil => exact absurd h.length_eq (by simp)
    | cons y m =>
      obtain ⟨b1, b2⟩ := List.pairwise_cons.1 h2
      have e : x = y := by
        have hx : x ∈ y :: m := h.mem_iff.1 (by simp)
        have hy : y ∈ x :: l := h.mem_iff.2 (by simp)
        rcases List.mem_cons.1 hx with e | hx
        · exact e
        · rcases List.mem_cons.1 hy with e | hy
          · exact e.symm
          · have := b1 x hx; have := a1 y hy; omega
      subst e
      rw [ih ((List.perm_cons x).1 h) a2 b2]
theorem sortI_eq : sortI = isortI := by
  funext l
  exact sorted_unique ((perm_sortI l).trans (isortI_perm l).symm) (sorted_sortI l) (isortI_sorted l)
def exScale : Scale := ⟨3, 2, 3, 1, 50, 100, [1, 0]⟩
def exNight : Night := ⟨[⟨0, 0, [100, 90, 80], 633⟩, ⟨0, 1, [90, 100, 80], 655⟩, ⟨0, 2, [95, 95, 95], 707⟩, ⟨1, 0, [80, 90, 100], 774⟩, ⟨1, 1, [100, 70, 90], 736⟩], [(1, 2)], [(2, 5)]⟩
def exBefore : Night := ⟨[⟨0, 0, [100, 90, 80], 633⟩, ⟨0, 1, [90, 100, 80], 655⟩, ⟨0, 2, [95, 95, 95], 707⟩, ⟨1, 0, [80, 90, 100], 774⟩], [(1, 2)], [(2, 5)]⟩
theorem exTable : tableP exScale exNight = ([⟨0, 385, [195, 190]⟩, ⟨2, 365, [175, 195]⟩, ⟨1, 365, [195, 170]⟩], 0) := by
  simp only [tableP, tblP, sdUp, standK, pointsL, pointsK, sortI_eq]
  decide +kernel
theorem exTotals : totalsA exScale exBefore = ([(340, 385), (355, 390), (345, 370)], 0) := by
  simp only [totalsA, standK, pointsL, pointsK, sortI_eq]
  decide +kernel
theorem exPlace : placeA exScale exBefore 0 = ((1, 3), 0) := by
  simp only [placeA, placeK, standK, pointsL, pointsK, sortI_eq]
  decide +kernel
theorem exScale_ok : exScale.Ok := ⟨by decide⟩
theorem exNight_ok : exNight.Ok := ⟨by decide, by decide, by decide, by decide⟩
theorem exBefore_ok : exBefore.Ok := ⟨by decide, by decide, by decide, by decide⟩
set_option maxHeartbeats 2000000 in
theorem EqInts_pc (Y : YEnv) (σ : Sg) (xs ys : List Int) (o o2 : Own) (hx : xs.length < 2 ^ 50) :
    PC Tryz.prog Y 48 [.isl (xs.map I) o, .isl (ys.map I) o2] σ (.bool (decide (xs = ys))) (σ) := by
  refine PC_of_W Tryz.func48 rfl (by kernel_rfl) Tryz.ntmps48 (by simp) fun hcl hca => ?_
  refine W_seq fun kz1 kq1 => ?_
  refine W_region [0, 1] fun R hR => ?_   -- r0
  simp only [go_sem]
  refine hR _ _ (kq1 _ _ ?_); clear hR R; try clear kq1 kz1
  try simp only [go_sem]
  refine W_seq fun kz2 kq2 => ?_
  refine W_seq fun kz3 kq3 => ?_
  refine W_region [0, 1, 10] fun R hR => ?_   -- r1
  simp only [go_sem]
  refine hR _ _ (kq3 _ _ ?_); clear hR R; try clear kq3 kz3
  try simp only [go_sem]
  refine W_cond rfl (fun c1 => ?_) (fun c1 => ?_)
  · -- c1 true
    try simp only [nrm] at c1
    refine W_seq fun kz4 kq4 => ?_
    refine W_region [4] fun R hR => ?_   -- r2
    simp only [go_sem]
    refine hR _ _ (kq4 _ _ ?_); clear hR R; try clear kq4 kz4
    try simp only [go_sem]
    refine W_ret ?_
    simp only [go_sem]
    refine ⟨.inr (by trivial), ?_⟩
    first | refine Fin_same hcl rfl (Wk_eq ?_ (by simp only [go_sem])) | refine Fin_self hcl rfl (Wk_eq ?_ (by simp only [go_sem]))
    try simp only [go_sem]
    all_goals
      simp; intro h; subst h; exact c1 rfl
  · -- c1 false
    try simp only [nrm] at c1
    refine W_skip (kq2 _ _ ?_)
    refine W_seq fun kz5 kq5 => ?_
    refine W_seq fun kz6 kq6 => ?_
    refine W_region [0, 1, 5] fun R hR => ?_   -- r3
    simp only [go_sem]
    refine hR _ _ (kq6 _ _ ?_); clear hR R; try clear kq6 kz6
    try simp only [go_sem]
    refine W_block ?_
    refine W_loopS (α := Nat) (fun (i : Nat) => [(5, I i)]) (fun (i : Nat) => i ≤ xs.length ∧ xs.take i = ys.take i) (fun (i : Nat) => xs.length - i) (0) rfl (⟨Nat.zero_le _, rfl⟩) ?_
    rintro i ⟨hi, ht⟩
    refine W_seq fun kz7 kq7 => ?_
    refine W_seq fun kz8 kq8 => ?_
    refine W_region [0, 1, 5, 14] fun R hR => ?_   -- r4
    simp only [go_sem]
    refine hR _ _ (kq8 _ _ ?_); clear hR R; try clear kq8 kz8
    try simp only [go_sem]
    refine W_cond rfl (fun c2 => ?_) (fun c2 => ?_)
    · -- c2 true
      try simp only [nrm] at c2
      have hi' : i < xs.length := by first | assumption | omega
      obtain ⟨x, hxi⟩ : ∃ x, xs[i]? = some x := ⟨xs[i], by simp⟩
      obtain ⟨y, hyi⟩ : ∃ y, ys[i]? = some y := ⟨ys[i]'(by omega), by simp⟩
      refine W_skip (kq7 _ _ ?_)
      refine W_seq fun kz9 kq9 => ?_
      refine W_block ?_
      refine W_seq fun kz10 kq10 => ?_
      refine W_draw [0, 1, 5, 25] [0, 1, 2, 3, 4, 5, 6, 7, 8] [] [[], [], [0, 1], [0, 1, 2], [], [], [4, 5], [4, 5, 6], [0, 1, 2, 3, 4, 5, 6, 7]] mixed (by kernel_rfl) fun R hR => ?_   -- r6
      simp only [go_sem, hxi, hyi]
      try refine And.intro (by repeat' (first | refine And.intro ?_ ?_ | exact GOr_right (fun _ => by simp only [go_sem, hxi, hyi]))) ?_
      refine hR _ _ (kq10 _ _ ?_); clear hR R; try clear kq10 kz10
      try simp only [go_sem, hxi, hyi]
      refine W_cond rfl (fun c3 => ?_) (fun c3 => ?_)
      · -- c3 true
        try simp only [nrm] at c3
        refine W_seq fun kz11 kq11 => ?_
        refine W_region [4] fun R hR => ?_   -- r7
        simp only [go_sem, hxi, hyi]
        refine hR _ _ (kq11 _ _ ?_); clear hR R; try clear kq11 kz11
        try simp only [go_sem, hxi, hyi]
        refine W_ret ?_
        simp only [go_sem, hxi, hyi]
        refine ⟨.inr (by trivial), ?_⟩
        first | refine Fin_same hcl rfl (Wk_eq ?_ (by simp only [go_sem])) | refine Fin_self hcl rfl (Wk_eq ?_ (by simp only [go_sem]))
        try simp only [go_sem]
        all_goals
          simp; intro h; subst h; rw [hxi] at hyi; injection hyi with h; exact c3 h
      · -- c3 false
        try simp only [nrm] at c3
        refine W_skip (kq9 _ _ ?_)
        refine W_region [0, 1, 5] fun R hR => ?_   -- r5
        simp only [go_sem, hxi, hyi]
        try simp (disch := omega) only [wrapI, wrapU]
        refine hR _ _ ?_; clear hR R
        try simp only [go_sem, hxi, hyi]
        refine ⟨i + 1, ?_, by (try simp only []); omega, ?_⟩
        · first | exact Weak.refl | exact Weak.eq (by first | rfl | (simp only [go_sem]; done) | (simp only [go_sem]; rfl) | (simp [go_sem]; done) | (simp [go_sem]; omega)) (by first | rfl | (simp only [go_sem]; done) | (simp [go_sem]; done))
        · try dsimp only
          refine ⟨hi', ?_⟩
          rw [List.take_add_one, List.take_add_one, ht, hxi, hyi, c3]
    · -- c2 false
      try simp only [nrm] at c2
      have hie : i = xs.length := by omega
      subst hie
      have hxy : xs = ys := by rw [List.take_length] at ht; rw [c1, List.take_length] at ht; exact ht
      refine W_exit ?_
      simp only [go_sem]
      refine kq5 _ _ ?_
      refine W_seq fun kz12 kq12 => ?_
      refine W_region [4] fun R hR => ?_   -- r8
      simp only [go_sem]
      refine hR _ _ (kq12 _ _ ?_); clear hR R; try clear kq12 kz12
      try simp only [go_sem]
      refine W_ret ?_
      simp only [go_sem]
      refine ⟨.inr (by trivial), ?_⟩
      first | refine Fin_same hcl rfl (Wk_eq ?_ (by simp only [go_sem])) | refine Fin_self hcl rfl (Wk_eq ?_ (by simp only [go_sem]))
      try simp only [go_sem]
      all_goals
        simp [hxy]
theorem eqSp {a b c d : Int} : eqPV Tryz.prog 63 (.agg [.int .i64 a, .int .i64 b]) (.agg [.int .i64 c, .int .i64 d]) = some (decide ((a, b) = (c, d))) := by
  rw [eqs63]
  refine congrArg some ?_
  rw [Bool.eq_iff_iff]
  simp
attribute [go_sem high] eqSp
set_option maxHeartbeats 2000000 in
theorem EqSpans_pc (Y : YEnv) (σ : Sg) (xs ys : List (Int × Int)) (o o2 : Own) (hx : xs.length < 2 ^ 50) :
    PC Tryz.prog Y 32 [.isl (xs.map stPV) o, .isl (ys.map stPV) o2] σ (.bool (decide (xs = ys))) (σ) := by
  refine PC_of_W Tryz.func32 rfl (by kernel_rfl) Tryz.ntmps32 (by simp) fun hcl hca => ?_
  refine W_seq fun kz1 kq1 => ?_
  refine W_region [0, 1] fun R hR => ?_   -- r0
  simp only [go_sem]
  refine hR _ _ (kq1 _ _ ?_); clear hR R; try clear kq1 kz1
  try simp only [go_sem]
  refine W_seq fun kz2 kq2 => ?_
  refine W_seq fun kz3 kq3 => ?_
  refine W_region [0, 1, 10] fun R hR => ?_   -- r1
  simp only [go_sem]
  refine hR _ _ (kq3 _ _ ?_); clear hR R; try clear kq3 kz3
  try simp only [go_sem]
  refine W_cond rfl (fun c1 => ?_) (fun c1 => ?_)
  · -- c1 true
    try simp only [nrm] at c1
    refine W_seq fun kz4 kq4 => ?_
    refine W_region [4] fun R hR => ?_   -- r2
    simp only [go_sem]
    refine hR _ _ (kq4 _ _ ?_); clear hR R; try clear kq4 kz4
    try simp only [go_sem]
    refine W_ret ?_
    simp only [go_sem]
    refine ⟨.inr (by trivial), ?_⟩
    first | refine Fin_same hcl rfl (Wk_eq ?_ (by simp only [go_sem])) | refine Fin_self hcl rfl (Wk_eq ?_ (by simp only [go_sem]))
    try simp only [go_sem]
    all_goals
      simp; intro h; subst h; exact c1 rfl
  · -- c1 false
    try simp only [nrm] at c1
    refine W_skip (kq2 _ _ ?_)
    refine W_seq fun kz5 kq5 => ?_
    refine W_seq fun kz6 kq6 => ?_
    refine W_region [0, 1, 5] fun R hR => ?_   -- r3
    simp only [go_sem]
    refine hR _ _ (kq6 _ _ ?_); clear hR R; try clear kq6 kz6
    try simp only [go_sem]
    refine W_block ?_
    refine W_loopS (α := Nat) (fun (i : Nat) => [(5, I i)]) (fun (i : Nat) => i ≤ xs.length ∧ xs.take i = ys.take i) (fun (i : Nat) => xs.length - i) (0) rfl (⟨Nat.zero_le _, rfl⟩) ?_
    rintro i ⟨hi, ht⟩
    refine W_seq fun kz7 kq7 => ?_
    refine W_seq fun kz8 kq8 => ?_
    refine W_region [0, 1, 5, 14] fun R hR => ?_   -- r4
    simp only [go_sem]
    refine hR _ _ (kq8 _ _ ?_); clear hR R; try clear kq8 kz8
    try simp only [go_sem]
    refine W_cond rfl (fun c2 => ?_) (fun c2 => ?_)
    · -- c2 true
      try simp only [nrm] at c2
      have hi' : i < xs.length := by first | assumption | omega
      obtain ⟨x, hxi⟩ : ∃ x, xs[i]? = some x := ⟨xs[i], by simp⟩
      obtain ⟨y, hyi⟩ : ∃ y, ys[i]? = some y := ⟨ys[i]'(by omega), by simp⟩
      refine W_skip (kq7 _ _ ?_)
      refine W_seq fun kz9 kq9 => ?_
      refine W_block ?_
      refine W_seq fun kz10 kq10 => ?_
      refine W_draw [0, 1, 5, 25] [0, 1, 2, 3, 4, 5, 6, 7, 8] [] [[], [], [0, 1], [0, 1, 2], [], [], [4, 5], [4, 5, 6], [0, 1, 2, 3, 4, 5, 6, 7]] mixed (by kernel_rfl) fun R hR => ?_   -- r6
      simp only [go_sem, hxi, hyi]
      try refine And.intro (by repeat' (first | refine And.intro ?_ ?_ | exact GOr_right (fun _ => by simp only [go_sem, hxi, hyi]))) ?_
      refine hR _ _ (kq10 _ _ ?_); clear hR R; try clear kq10 kz10
      try simp only [go_sem, hxi, hyi]
      refine W_cond rfl (fun c3 => ?_) (fun c3 => ?_)
      · -- c3 true
        try simp only [nrm] at c3
        refine W_seq fun kz11 kq11 => ?_
        refine W_region [4] fun R hR => ?_   -- r7
        simp only [go_sem, hxi, hyi]
        refine hR _ _ (kq11 _ _ ?_); clear hR R; try clear kq11 kz11
        try simp only [go_sem, hxi, hyi]
        refine W_ret ?_
        simp only [go_sem, hxi, hyi]
        refine ⟨.inr (by trivial), ?_⟩
        first | refine Fin_same hcl rfl (Wk_eq ?_ (by simp only [go_sem])) | refine Fin_self hcl rfl (Wk_eq ?_ (by simp only [go_sem]))
        try simp only [go_sem]
        all_goals
          simp; intro h; subst h; rw [hxi] at hyi; injection hyi with h; subst h; simp at c3
      · -- c3 false
        try simp only [nrm] at c3
        refine W_skip (kq9 _ _ ?_)
        refine W_region [0, 1, 5] fun R hR => ?_   -- r5
        simp only [go_sem, hxi, hyi]
        try simp (disch := omega) only [wrapI, wrapU]
        refine hR _ _ ?_; clear hR R
        try simp only [go_sem, hxi, hyi]
        refine ⟨i + 1, ?_, by (try simp only []); omega, ?_⟩
        · first | exact Weak.refl | exact Weak.eq (by first | rfl | (simp only [go_sem]; done) | (simp only [go_sem]; rfl) | (simp [go_sem]; done) | (simp [go_sem]; omega)) (by first | rfl | (simp only [go_sem]; done) | (simp [go_sem]; done))
        · try dsimp only
          refine ⟨hi', ?_⟩
          rw [List.take_add_one, List.take_add_one, ht, hxi, hyi, show x = y by obtain ⟨a, b⟩ := x; obtain ⟨c, d⟩ := y; simpa using c3]
    · -- c2 false
      try simp only [nrm] at c2
      have hie : i = xs.length := by omega
      subst hie
      have hxy : xs = ys := by rw [List.take_length] at ht; rw [c1, List.take_length] at ht; exact ht
      refine W_exit ?_
      simp only [go_sem]
      refine kq5 _ _ ?_
      refine W_seq fun kz12 kq12 => ?_
      refine W_region [4] fun R hR => ?_   -- r8
      simp only [go_sem]
      refine hR _ _ (kq12 _ _ ?_); clear hR R; try clear kq12 kz12
      try simp only [go_sem]
      refine W_ret ?_
      simp only [go_sem]
      refine ⟨.inr (by trivial), ?_⟩
      first | refine Fin_same hcl rfl (Wk_eq ?_ (by simp only [go_sem])) | refine Fin_self hcl rfl (Wk_eq ?_ (by simp only [go_sem]))
      try simp only [go_sem]
      all_goals
        simp [hxy]
set_option maxHeartbeats 2000000 in
theorem EqTables_pc (Y : YEnv) (σ : Sg) (xs ys : List Stand) (o o2 : Own) (hx : xs.length < 2 ^ 50) (hy : ∀ x, x ∈ xs → x.points.length < 2 ^ 40) :
    PC Tryz.prog Y 19 [.isl (xs.map sdPV) o, .isl (ys.map sdPV) o2] σ (.bool (decide (xs = ys))) (σ) := by
  refine PC_of_W Tryz.func19 rfl (by kernel_rfl) Tryz.ntmps19 (by simp) fun hcl hca => ?_
  refine W_seq fun kz1 kq1 => ?_
  refine W_region [0, 1] fun R hR => ?_   -- r0
  simp only [go_sem]
  refine hR _ _ (kq1 _ _ ?_); clear hR R; try clear kq1 kz1
  try simp only [go_sem]
  refine W_seq fun kz2 kq2 => ?_
  refine W_seq fun kz3 kq3 => ?_
  refine W_region [0, 1, 10] fun R hR => ?_   -- r1
  simp only [go_sem]
  refine hR _ _ (kq3 _ _ ?_); clear hR R; try clear kq3 kz3
  try simp only [go_sem]
  refine W_cond rfl (fun c1 => ?_) (fun c1 => ?_)
  · -- c1 true
    try simp only [nrm] at c1
    refine W_seq fun kz4 kq4 => ?_
    refine W_region [4] fun R hR => ?_   -- r2
    simp only [go_sem]
    refine hR _ _ (kq4 _ _ ?_); clear hR R; try clear kq4 kz4
    try simp only [go_sem]
    refine W_ret ?_
    simp only [go_sem]
    refine ⟨.inr (by trivial), ?_⟩
    first | refine Fin_same hcl rfl (Wk_eq ?_ (by simp only [go_sem])) | refine Fin_self hcl rfl (Wk_eq ?_ (by simp only [go_sem]))
    try simp only [go_sem]
    all_goals
      simp; intro h; subst h; exact c1 rfl
  · -- c1 false
    try simp only [nrm] at c1
    refine W_skip (kq2 _ _ ?_)
    refine W_seq fun kz5 kq5 => ?_
    refine W_seq fun kz6 kq6 => ?_
    refine W_region [0, 1, 5] fun R hR => ?_   -- r3
    simp only [go_sem]
    refine hR _ _ (kq6 _ _ ?_); clear hR R; try clear kq6 kz6
    try simp only [go_sem]
    refine W_block ?_
    refine W_loopS (α := Nat) (fun (i : Nat) => [(5, I i)]) (fun (i : Nat) => i ≤ xs.length ∧ xs.take i = ys.take i) (fun (i : Nat) => xs.length - i) (0) rfl (⟨Nat.zero_le _, rfl⟩) ?_
    rintro i ⟨hi, ht⟩
    refine W_seq fun kz7 kq7 => ?_
    refine W_seq fun kz8 kq8 => ?_
    refine W_region [0, 1, 5, 14] fun R hR => ?_   -- r4
    simp only [go_sem]
    refine hR _ _ (kq8 _ _ ?_); clear hR R; try clear kq8 kz8
    try simp only [go_sem]
    refine W_cond rfl (fun c2 => ?_) (fun c2 => ?_)
    · -- c2 true
      try simp only [nrm] at c2
      have hi' : i < xs.length := by first | assumption | omega
      obtain ⟨x, hxi⟩ : ∃ x, xs[i]? = some x := ⟨xs[i], by simp⟩
      obtain ⟨y, hyi⟩ : ∃ y, ys[i]? = some y := ⟨ys[i]'(by omega), by simp⟩
      refine W_skip (kq7 _ _ ?_)
      refine W_seq fun kz9 kq9 => ?_
      refine W_block ?_
      refine W_seq fun kz10 kq10 => ?_
      refine W_draw [0, 1, 5, 54] [0, 1, 2, 3, 4, 5, 6, 7, 8, 9, 10, 11, 12, 13, 14, 15, 16, 17, 18, 19, 20, 21, 22, 23, 24, 25, 26, 27, 28, 29, 30, 31, 32, 33, 34, 35, 36, 37] [] [[], [], [0, 1], [0, 1, 2], [0, 1, 2, 3], [], [], [5, 6], [5, 6, 7], [5, 6, 7, 8], [0, 1, 2, 3, 4, 5, 6, 7, 8, 9], [0, 1, 2, 3, 4, 5, 6, 7, 8, 9, 10], [0, 1, 2, 3, 4, 5, 6, 7, 8, 9, 10, 11], [0, 1, 2, 3, 4, 5, 6, 7, 8, 9, 10, 11], [0, 1, 2, 3, 4, 5, 6, 7, 8, 9, 10, 11, 12, 13], [0, 1, 2, 3, 4, 5, 6, 7, 8, 9, 10, 11, 12, 13, 14], [0, 1, 2, 3, 4, 5, 6, 7, 8, 9, 10, 11, 12, 13, 14, 15], [0, 1, 2, 3, 4, 5, 6, 7, 8, 9, 10, 11], [0, 1, 2, 3, 4, 5, 6, 7, 8, 9, 10, 11], [0, 1, 2, 3, 4, 5, 6, 7, 8, 9, 10, 11, 17, 18], [0, 1, 2, 3, 4, 5, 6, 7, 8, 9, 10, 11, 17, 18, 19], [0, 1, 2, 3, 4, 5, 6, 7, 8, 9, 10, 11, 17, 18, 19, 20], [0, 1, 2, 3, 4, 5, 6, 7, 8, 9, 10, 11, 12, 13, 14, 15, 16, 17, 18, 19, 20, 21], [0, 1, 2, 3, 4, 5, 6, 7, 8, 9, 10, 11, 12, 13, 14, 15, 16, 17, 18, 19, 20, 21, 22], [0, 1, 2, 3, 4, 5, 6, 7, 8, 9, 10, 11, 12, 13, 14, 15, 16, 17, 18, 19, 20, 21, 22, 23], [0, 1, 2, 3, 4, 5, 6, 7, 8, 9, 10, 11, 12, 13, 14, 15, 16, 17, 18, 19, 20, 21, 22, 23, 24], [0, 1, 2, 3, 4, 5, 6, 7, 8, 9, 10, 11, 12, 13, 14, 15, 16, 17, 18, 19, 20, 21, 22, 23, 24], [0, 1, 2, 3, 4, 5, 6, 7, 8, 9, 10, 11, 12, 13, 14, 15, 16, 17, 18, 19, 20, 21, 22, 23, 24, 25, 26], [0, 1, 2, 3, 4, 5, 6, 7, 8, 9, 10, 11, 12, 13, 14, 15, 16, 17, 18, 19, 20, 21, 22, 23, 24, 25, 26, 27], [0, 1, 2, 3, 4, 5, 6, 7, 8, 9, 10, 11, 12, 13, 14, 15, 16, 17, 18, 19, 20, 21, 22, 23, 24, 25, 26, 27, 28], [0, 1, 2, 3, 4, 5, 6, 7, 8, 9, 10, 11, 12, 13, 14, 15, 16, 17, 18, 19, 20, 21, 22, 23, 24], [0, 1, 2, 3, 4, 5, 6, 7, 8, 9, 10, 11, 12, 13, 14, 15, 16, 17, 18, 19, 20, 21, 22, 23, 24], [0, 1, 2, 3, 4, 5, 6, 7, 8, 9, 10, 11, 12, 13, 14, 15, 16, 17, 18, 19, 20, 21, 22, 23, 24, 30, 31], [0, 1, 2, 3, 4, 5, 6, 7, 8, 9, 10, 11, 12, 13, 14, 15, 16, 17, 18, 19, 20, 21, 22, 23, 24, 30, 31, 32], [0, 1, 2, 3, 4, 5, 6, 7, 8, 9, 10, 11, 12, 13, 14, 15, 16, 17, 18, 19, 20, 21, 22, 23, 24, 30, 31, 32, 33], [0, 1, 2, 3, 4, 5, 6, 7, 8, 9, 10, 11, 12, 13, 14, 15, 16, 17, 18, 19, 20, 21, 22, 23, 24, 25, 26, 27, 28, 29, 30, 31, 32, 33, 34], [0, 1, 2, 3, 4, 5, 6, 7, 8, 9, 10, 11, 12, 13, 14, 15, 16, 17, 18, 19, 20, 21, 22, 23, 24, 25, 26, 27, 28, 29, 30, 31, 32, 33, 34, 35], [0, 1, 2, 3, 4, 5, 6, 7, 8, 9, 10, 11, 12, 13, 14, 15, 16, 17, 18, 19, 20, 21, 22, 23, 24, 25, 26, 27, 28, 29, 30, 31, 32, 33, 34, 35, 36]] mixed (by kernel_rfl) fun R hR => ?_   -- r6
      simp only [go_sem, hxi, hyi]
      refine GWant_split (fun g1 => ?_) (fun g1 => ?_)
      · try simp only [Bool.not_eq_true', Bool.not_eq_false'] at g1
        have n1 := g1; try simp only [nrm] at n1
        simp only [go_sem, hxi, hyi, g1]
        refine GWant_split (fun g2 => ?_) (fun g2 => ?_)
        · try simp only [Bool.not_eq_true', Bool.not_eq_false'] at g2
          have n2 := g2; try simp only [nrm] at n2
          simp only [go_sem, hxi, hyi, g1, g2]
          refine GCall_of (EqInts_pc Y _ x.points y.points .ro .ro (by have := hy x (List.mem_of_getElem? hxi); omega)) ?_   -- t52
          simp only [go_sem, hxi, hyi, g1, g2]
          try refine And.intro (by repeat' (first | refine And.intro ?_ ?_ | exact GOr_right (fun _ => by simp only [go_sem, hxi, hyi]))) ?_
          refine hR _ _ (kq10 _ _ ?_); clear hR R; try clear kq10 kz10
          try simp only [go_sem, hxi, hyi]
          refine W_cond rfl (fun c3 => ?_) (fun c3 => ?_)
          · -- c3 true
            try simp only [nrm] at c3
            refine W_seq fun kz11 kq11 => ?_
            refine W_region [4] fun R hR => ?_   -- r7
            simp only [go_sem, hxi, hyi]
            refine hR _ _ (kq11 _ _ ?_); clear hR R; try clear kq11 kz11
            try simp only [go_sem, hxi, hyi]
            refine W_ret ?_
            simp only [go_sem, hxi, hyi]
            refine ⟨.inr (by trivial), ?_⟩
            first | refine Fin_same hcl rfl (Wk_eq ?_ (by simp only [go_sem])) | refine Fin_self hcl rfl (Wk_eq ?_ (by simp only [go_sem]))
            try simp only [go_sem]
            all_goals
              simp; intro h; subst h; rw [hxi] at hyi; injection hyi with h; subst h; simp_all
          · -- c3 false
            try simp only [nrm] at c3
            refine W_skip (kq9 _ _ ?_)
            refine W_region [0, 1, 5] fun R hR => ?_   -- r5
            simp only [go_sem, hxi, hyi]
            try simp (disch := omega) only [wrapI, wrapU]
            refine hR _ _ ?_; clear hR R
            try simp only [go_sem, hxi, hyi]
            refine ⟨i + 1, ?_, by (try simp only []); omega, ?_⟩
            · first | exact Weak.refl | exact Weak.eq (by first | rfl | (simp only [go_sem]; done) | (simp only [go_sem]; rfl) | (simp [go_sem]; done) | (simp [go_sem]; omega)) (by first | rfl | (simp only [go_sem]; done) | (simp [go_sem]; done))
            · try dsimp only
              refine ⟨hi', ?_⟩
              rw [List.take_add_one, List.take_add_one, ht, hxi, hyi, show x = y by obtain ⟨a, b, c⟩ := x; obtain ⟨a2, b2, c2⟩ := y; simp_all]
        · try simp only [Bool.not_eq_true', Bool.not_eq_false'] at g2
          have n2 := g2; try simp only [nrm] at n2
          simp only [go_sem, hxi, hyi, g1, g2]
          try refine And.intro (by repeat' (first | refine And.intro ?_ ?_ | exact GOr_right (fun _ => by simp only [go_sem, hxi, hyi]))) ?_
          refine hR _ _ (kq10 _ _ ?_); clear hR R; try clear kq10 kz10
          try simp only [go_sem, hxi, hyi]
          refine W_cond_true rfl ?_
          refine W_seq fun kz12 kq12 => ?_
          refine W_region [4] fun R hR => ?_   -- r7
          simp only [go_sem, hxi, hyi]
          refine hR _ _ (kq12 _ _ ?_); clear hR R; try clear kq12 kz12
          try simp only [go_sem, hxi, hyi]
          refine W_ret ?_
          simp only [go_sem, hxi, hyi]
          refine ⟨.inr (by trivial), ?_⟩
          first | refine Fin_same hcl rfl (Wk_eq ?_ (by simp only [go_sem])) | refine Fin_self hcl rfl (Wk_eq ?_ (by simp only [go_sem]))
          try simp only [go_sem]
          all_goals
            simp; intro h; subst h; rw [hxi] at hyi; injection hyi with h; subst h; simp_all
      · try simp only [Bool.not_eq_true', Bool.not_eq_false'] at g1
        have n1 := g1; try simp only [nrm] at n1
        simp only [go_sem, hxi, hyi, g1]
        try refine And.intro (by repeat' (first | refine And.intro ?_ ?_ | exact GOr_right (fun _ => by simp only [go_sem, hxi, hyi]))) ?_
        refine hR _ _ (kq10 _ _ ?_); clear hR R; try clear kq10 kz10
        try simp only [go_sem, hxi, hyi]
        refine W_cond_true rfl ?_
        refine W_seq fun kz13 kq13 => ?_
        refine W_region [4] fun R hR => ?_   -- r7
        simp only [go_sem, hxi, hyi]
        refine hR _ _ (kq13 _ _ ?_); clear hR R; try clear kq13 kz13
        try simp only [go_sem, hxi, hyi]
        refine W_ret ?_
        simp only [go_sem, hxi, hyi]
        refine ⟨.inr (by trivial), ?_⟩
        first | refine Fin_same hcl rfl (Wk_eq ?_ (by simp only [go_sem])) | refine Fin_self hcl rfl (Wk_eq ?_ (by simp only [go_sem]))
        try simp only [go_sem]
        all_goals
          simp; intro h; subst h; rw [hxi] at hyi; injection hyi with h; subst h; simp_all
    · -- c2 false
      try simp only [nrm] at c2
      have hie : i = xs.length := by omega
      subst hie
      have hxy : xs = ys := by rw [List.take_length] at ht; rw [c1, List.take_length] at ht; exact ht
      refine W_exit ?_
      simp only [go_sem]
      refine kq5 _ _ ?_
      refine W_seq fun kz14 kq14 => ?_
      refine W_region [4] fun R hR => ?_   -- r8
      simp only [go_sem]
      refine hR _ _ (kq14 _ _ ?_); clear hR R; try clear kq14 kz14
      try simp only [go_sem]
      refine W_ret ?_
      simp only [go_sem]
      refine ⟨.inr (by trivial), ?_⟩
      first | refine Fin_same hcl rfl (Wk_eq ?_ (by simp only [go_sem])) | refine Fin_self hcl rfl (Wk_eq ?_ (by simp only [go_sem]))
      try simp only [go_sem]
      all_goals
        simp [hxy]
set_option maxHeartbeats 2000000 in
theorem span_pc (Y : YEnv) (σ : Sg) (a b : Int) :
    PC Tryz.prog Y 36 [I a, I b] σ (.agg [I a, I b]) (σ) := by
  refine PC_of_W Tryz.func36 rfl (by kernel_rfl) Tryz.ntmps36 (by simp) fun hcl hca => ?_
  refine W_seq fun kz1 kq1 => ?_
  refine W_region [0, 1, 4] fun R hR => ?_   -- r0
  simp only [go_sem]
  refine hR _ _ (kq1 _ _ ?_); clear hR R; try clear kq1 kz1
  try simp only [go_sem]
  refine W_seq fun kz2 kq2 => ?_
  refine W_region [4] fun R hR => ?_   -- r1
  simp only [go_sem]
  refine hR _ _ (kq2 _ _ ?_); clear hR R; try clear kq2 kz2
  try simp only [go_sem]
  refine W_ret ?_
  simp only [go_sem]
  refine ⟨.inr (by trivial), ?_⟩
  first | refine Fin_same hcl (by show resPV Tryz.prog _ _ [.cell 4 63] = some _; simp only [resPV, go_sem]; rfl) (Wk_eq ?_ (by simp only [go_sem])) | refine Fin_same hcl rfl (Wk_eq ?_ (by simp only [go_sem]))
  try simp only [go_sem]
  all_goals
    first | rfl | (simp_all; done) | (simp_all; omega)
set_option maxHeartbeats 2000000 in
theorem scale_pc (Y : YEnv) (σ : Sg)  :
    PC Tryz.prog Y 49 [] σ (scPV exScale) (σ) := by
  refine PC_of_W Tryz.func49 rfl (by kernel_rfl) Tryz.ntmps49 (by simp) fun hcl hca => ?_
  refine W_seq fun kz1 kq1 => ?_
  refine W_region [0] fun R hR => ?_   -- r0
  simp only [go_sem]
  refine hR _ _ (kq1 _ _ ?_); clear hR R; try clear kq1 kz1
  try simp only [go_sem]
  refine W_seq fun kz2 kq2 => ?_
  refine W_region [0] fun R hR => ?_   -- r1
  simp only [go_sem]
  refine hR _ _ (kq2 _ _ ?_); clear hR R; try clear kq2 kz2
  try simp only [go_sem]
  refine W_ret ?_
  simp only [go_sem]
  refine ⟨.inr (by trivial), ?_⟩
  refine Fin_same hcl (by show resPV Tryz.prog _ _ [.cell 0 24] = some _; simp only [resPV, go_sem]; rfl) (Wk.ro (by simp only [go_sem]) ?_)
  try simp only [go_sem]
  all_goals
    rfl
set_option maxHeartbeats 2000000 in
theorem night_pc (Y : YEnv) (σ : Sg)  :
    PC Tryz.prog Y 50 [] σ (ngPV exNight) (σ) := by
  refine PC_of_W Tryz.func50 rfl (by kernel_rfl) Tryz.ntmps50 (by simp) fun hcl hca => ?_
  refine W_seq fun kz1 kq1 => ?_
  refine W_region [0] fun R hR => ?_   -- r0
  simp only [go_sem]
  refine hR _ _ (kq1 _ _ ?_); clear hR R; try clear kq1 kz1
  try simp only [go_sem]
  refine W_seq fun kz2 kq2 => ?_
  refine W_region [0] fun R hR => ?_   -- r1
  simp only [go_sem]
  refine hR _ _ (kq2 _ _ ?_); clear hR R; try clear kq2 kz2
  try simp only [go_sem]
  refine W_ret ?_
  simp only [go_sem]
  refine ⟨.inr (by trivial), ?_⟩
  refine Fin_same hcl (by show resPV Tryz.prog _ _ [.cell 0 29] = some _; simp only [resPV, go_sem]; rfl) (Wk.ro (by simp only [go_sem]) ?_)
  try simp only [go_sem]
  all_goals
    rfl
set_option maxHeartbeats 2000000 in
theorem before_pc (Y : YEnv) (σ : Sg)  :
    PC Tryz.prog Y 51 [] σ (ngPV exBefore) (σ) := by
  refine PC_of_W Tryz.func51 rfl (by kernel_rfl) Tryz.ntmps51 (by simp) fun hcl hca => ?_
  refine W_seq fun kz1 kq1 => ?_
  refine W_region [0] fun R hR => ?_   -- r0
  simp only [go_sem]
  refine hR _ _ (kq1 _ _ ?_); clear hR R; try clear kq1 kz1
  try simp only [go_sem]
  refine W_seq fun kz2 kq2 => ?_
  refine W_region [0, 1] fun R hR => ?_   -- r1
  simp only [go_sem]
  refine GCall_of (night_pc Y _) ?_   -- t2
  simp only [go_sem]
  refine hR _ _ (kq2 _ _ ?_); clear hR R; try clear kq2 kz2
  try simp only [go_sem]
  refine W_seq fun kz3 kq3 => ?_
  have hz4 : ((0 : Int) ≤ 4) = True := by decide
  have hb4 : (Int.toNat 4 ≤ exNight.opened.length) = True := by decide
  refine W_region [0, 1] fun R hR => ?_   -- r2
  simp only [go_sem, hz4, hb4]
  refine hR _ _ (kq3 _ _ ?_); clear hR R; try clear kq3 kz3
  try simp only [go_sem]
  refine W_seq fun kz4 kq4 => ?_
  refine W_region [0] fun R hR => ?_   -- r3
  simp only [go_sem]
  refine hR _ _ (kq4 _ _ ?_); clear hR R; try clear kq4 kz4
  try simp only [go_sem]
  refine W_ret ?_
  simp only [go_sem]
  refine ⟨.inr (by trivial), ?_⟩
  refine Fin_same hcl (by show resPV Tryz.prog _ _ [.cell 0 29] = some _; simp only [resPV, go_sem]; rfl) (Wk.ro (by simp only [go_sem]) ?_)
  try simp only [go_sem]
  all_goals
    rfl
end Go.Proofs.YtgelnjmddabgpaaGreat
namespace Go.Proofs.YtgelnjmddabgpaaGreat
open Go Go.RowKit
set_option maxRecDepth 100000
def wideB (s : Scale) (n : Night) : Bool := (n.opened.take 70).any (fun x => decide (20 < (x.marks.length : Int))) || (decide (20 < (s.order.length : Int)) || (decide (70 < (n.opened.length : Int)) || (decide (70 < (n.absent.length : Int)) || decide (20 < (n.fines.length : Int)))))
structure Few (s : Scale) (n : Night) : Prop where
  od : s.order.length ≤ 20
  op : n.opened.length ≤ 70
  ab : n.absent.length ≤ 70
  fi : n.fines.length ≤ 20
  mm : ∀ x, x ∈ n.opened → x.marks.length ≤ 20
theorem wide_not {s : Scale} {n : Night} (h : wideB s n = false) : Few s n := by
  unfold wideB at h
  simp only [Bool.or_eq_false_iff, decide_eq_false_iff_not, List.any_eq_false, decide_eq_true_eq] at h
  obtain ⟨h1, h2, h3, h4, h5⟩ := h
  refine ⟨by omega, by omega, by omega, by omega, fun x hx => ?_⟩
  rw [List.take_of_length_le (by omega)] at h1
  have := h1 x hx
  omega
theorem Few.okS {s : Scale} {n : Night} (h : Few s n) : s.Ok := ⟨by have := h.od; omega⟩
theorem Few.okN {s : Scale} {n : Night} (h : Few s n) : n.Ok := ⟨by have := h.op; omega, by have := h.ab; omega, by have := h.fi; omega, fun x hx => by have := h.mm x hx; omega⟩
theorem eqAb {a b c d : Int} : eqPV Tryz.prog 94 (.agg [.int .i64 a, .int .i64 b]) (.agg [.int .i64 c, .int .i64 d]) = some (decide ((a, b) = (c, d))) := by
  rw [eqs94]
  refine congrArg some ?_
  rw [Bool.eq_iff_iff]
  simp
theorem eqFi {a b c d : Int} : eqPV Tryz.prog 97 (.agg [.int .i64 a, .int .i64 b]) (.agg [.int .i64 c, .int .i64 d]) = some (decide ((a, b) = (c, d))) := by
  rw [eqs97]
  refine congrArg some ?_
  rw [Bool.eq_iff_iff]
  simp
attribute [go_sem high] eqAb eqFi
set_option maxHeartbeats 2000000 in
theorem EqAbsent_pc (Y : YEnv) (σ : Sg) (xs ys : List (Int × Int)) (o o2 : Own) (hx : xs.length < 2 ^ 50) :
    PC Tryz.prog Y 47 [.isl (xs.map stPV) o, .isl (ys.map stPV) o2] σ (.bool (decide (xs = ys))) (σ) := by
  refine PC_of_W Tryz.func47 rfl (by kernel_rfl) Tryz.ntmps47 (by simp) fun hcl hca => ?_
  refine W_seq fun kz1 kq1 => ?_
  refine W_region [0, 1] fun R hR => ?_   -- r0
  simp only [go_sem]
  refine hR _ _ (kq1 _ _ ?_); clear hR R; try clear kq1 kz1
  try simp only [go_sem]
  refine W_seq fun kz2 kq2 => ?_
  refine W_seq fun kz3 kq3 => ?_
  refine W_region [0, 1, 10] fun R hR => ?_   -- r1
  simp only [go_sem]
  refine hR _ _ (kq3 _ _ ?_); clear hR R; try clear kq3 kz3
  try simp only [go_sem]
  refine W_cond rfl (fun c1 => ?_) (fun c1 => ?_)
  · -- c1 true
    try simp only [nrm] at c1
    refine W_seq fun kz4 kq4 => ?_
    refine W_region [4] fun R hR => ?_   -- r2
    simp only [go_sem]
    refine hR _ _ (kq4 _ _ ?_); clear hR R; try clear kq4 kz4
    try simp only [go_sem]
    refine W_ret ?_
    simp only [go_sem]
    refine ⟨.inr (by trivial), ?_⟩
    first | refine Fin_same hcl rfl (Wk_eq ?_ (by simp only [go_sem])) | refine Fin_self hcl rfl (Wk_eq ?_ (by simp only [go_sem]))
    try simp only [go_sem]
    all_goals
      simp; intro h; subst h; exact c1 rfl
  · -- c1 false
    try simp only [nrm] at c1
    refine W_skip (kq2 _ _ ?_)
    refine W_seq fun kz5 kq5 => ?_
    refine W_seq fun kz6 kq6 => ?_
    refine W_region [0, 1, 5] fun R hR => ?_   -- r3
    simp only [go_sem]
    refine hR _ _ (kq6 _ _ ?_); clear hR R; try clear kq6 kz6
    try simp only [go_sem]
    refine W_block ?_
    refine W_loopS (α := Nat) (fun (i : Nat) => [(5, I i)]) (fun (i : Nat) => i ≤ xs.length ∧ xs.take i = ys.take i) (fun (i : Nat) => xs.length - i) (0) rfl (⟨Nat.zero_le _, rfl⟩) ?_
    rintro i ⟨hi, ht⟩
    refine W_seq fun kz7 kq7 => ?_
    refine W_seq fun kz8 kq8 => ?_
    refine W_region [0, 1, 5, 14] fun R hR => ?_   -- r4
    simp only [go_sem]
    refine hR _ _ (kq8 _ _ ?_); clear hR R; try clear kq8 kz8
    try simp only [go_sem]
    refine W_cond rfl (fun c2 => ?_) (fun c2 => ?_)
    · -- c2 true
      try simp only [nrm] at c2
      have hi' : i < xs.length := by first | assumption | omega
      obtain ⟨x, hxi⟩ : ∃ x, xs[i]? = some x := ⟨xs[i], by simp⟩
      obtain ⟨y, hyi⟩ : ∃ y, ys[i]? = some y := ⟨ys[i]'(by omega), by simp⟩
      refine W_skip (kq7 _ _ ?_)
      refine W_seq fun kz9 kq9 => ?_
      refine W_block ?_
      refine W_seq fun kz10 kq10 => ?_
      refine W_draw [0, 1, 5, 25] [0, 1, 2, 3, 4, 5, 6, 7, 8] [] [[], [], [0, 1], [0, 1, 2], [], [], [4, 5], [4, 5, 6], [0, 1, 2, 3, 4, 5, 6, 7]] mixed (by kernel_rfl) fun R hR => ?_   -- r6
      simp only [go_sem, hxi, hyi]
      try refine And.intro (by repeat' (first | refine And.intro ?_ ?_ | exact GOr_right (fun _ => by simp only [go_sem, hxi, hyi]))) ?_
      refine hR _ _ (kq10 _ _ ?_); clear hR R; try clear kq10 kz10
      try simp only [go_sem, hxi, hyi]
      refine W_cond rfl (fun c3 => ?_) (fun c3 => ?_)
      · -- c3 true
        try simp only [nrm] at c3
        refine W_seq fun kz11 kq11 => ?_
        refine W_region [4] fun R hR => ?_   -- r7
        simp only [go_sem, hxi, hyi]
        refine hR _ _ (kq11 _ _ ?_); clear hR R; try clear kq11 kz11
        try simp only [go_sem, hxi, hyi]
        refine W_ret ?_
        simp only [go_sem, hxi, hyi]
        refine ⟨.inr (by trivial), ?_⟩
        first | refine Fin_same hcl rfl (Wk_eq ?_ (by simp only [go_sem])) | refine Fin_self hcl rfl (Wk_eq ?_ (by simp only [go_sem]))
        try simp only [go_sem]
        all_goals
          simp; intro h; subst h; rw [hxi] at hyi; injection hyi with h; subst h; simp at c3
      · -- c3 false
        try simp only [nrm] at c3
        refine W_skip (kq9 _ _ ?_)
        refine W_region [0, 1, 5] fun R hR => ?_   -- r5
        simp only [go_sem, hxi, hyi]
        try simp (disch := omega) only [wrapI, wrapU]
        refine hR _ _ ?_; clear hR R
        try simp only [go_sem, hxi, hyi]
        refine ⟨i + 1, ?_, by (try simp only []); omega, ?_⟩
        · first | exact Weak.refl | exact Weak.eq (by first | rfl | (simp only [go_sem]; done) | (simp only [go_sem]; rfl) | (simp [go_sem]; done) | (simp [go_sem]; omega)) (by first | rfl | (simp only [go_sem]; done) | (simp [go_sem]; done))
        · try dsimp only
          refine ⟨hi', ?_⟩
          rw [List.take_add_one, List.take_add_one, ht, hxi, hyi, show x = y by obtain ⟨a, b⟩ := x; obtain ⟨c, d⟩ := y; simpa using c3]
    · -- c2 false
      try simp only [nrm] at c2
      have hie : i = xs.length := by omega
      subst hie
      have hxy : xs = ys := by rw [List.take_length] at ht; rw [c1, List.take_length] at ht; exact ht
      refine W_exit ?_
      simp only [go_sem]
      refine kq5 _ _ ?_
      refine W_seq fun kz12 kq12 => ?_
      refine W_region [4] fun R hR => ?_   -- r8
      simp only [go_sem]
      refine hR _ _ (kq12 _ _ ?_); clear hR R; try clear kq12 kz12
      try simp only [go_sem]
      refine W_ret ?_
      simp only [go_sem]
      refine ⟨.inr (by trivial), ?_⟩
      first | refine Fin_same hcl rfl (Wk_eq ?_ (by simp only [go_sem])) | refine Fin_self hcl rfl (Wk_eq ?_ (by simp only [go_sem]))
      try simp only [go_sem]
      all_goals
        simp [hxy]
set_option maxHeartbeats 2000000 in
theorem OwnScale_pc (Y : YEnv) (σ : Sg) (s : Scale) (hs : s.Ok) :
    PC Tryz.prog Y 15 [scPV s] σ (scPV s) (σ) := by
  refine PC_of_W Tryz.func15 rfl (by kernel_rfl) Tryz.ntmps15 (by simp) fun hcl hca => ?_
  refine W_seq fun kz1 kq1 => ?_
  refine W_region [1, 2] fun R hR => ?_   -- r0
  simp only [go_sem]
  refine hR _ _ (kq1 _ _ ?_); clear hR R; try clear kq1 kz1
  try simp only [go_sem]
  refine W_seq fun kz2 kq2 => ?_
  refine W_region [1, 2] fun R hR => ?_   -- r1
  simp only [go_sem]
  refine GCall_of (Ints_pc Y _ s.order .ro hs.ho) ?_   -- t5
  simp only [go_sem]
  refine hR _ _ (kq2 _ _ ?_); clear hR R; try clear kq2 kz2
  try simp only [go_sem]
  refine W_seq fun kz3 kq3 => ?_
  refine W_region [2] fun R hR => ?_   -- r2
  simp only [go_sem]
  refine hR _ _ (kq3 _ _ ?_); clear hR R; try clear kq3 kz3
  try simp only [go_sem]
  refine W_ret ?_
  simp only [go_sem]
  refine ⟨.inr (by trivial), ?_⟩
  refine Fin_same hcl (by show resPV Tryz.prog _ _ [.cell 2 24] = some _; simp only [resPV, go_sem]; rfl) (Wk.ro (by simp only [go_sem]) ?_)
  try simp only [go_sem]
  all_goals
    first | rfl | simp only [go_sem]
set_option maxHeartbeats 4000000 in
theorem OwnNight_pc (Y : YEnv) (σ : Sg) (n : Night) (hn : n.Ok) :
    PC Tryz.prog Y 16 [ngPV n] σ (ngPV n) (σ) := by
  refine PC_of_W Tryz.func16 rfl (by kernel_rfl) Tryz.ntmps16 (by simp) fun hcl hca => ?_
  have ho := hn.ho
  have ha := hn.ha
  have hf := hn.hf
  have hm := hn.hm
  refine W_seq fun kz1 kq1 => ?_
  refine W_region [1, 2] fun R hR => ?_   -- r0
  simp only [go_sem]
  refine hR _ _ (kq1 _ _ ?_); clear hR R; try clear kq1 kz1
  try simp only [go_sem]
  refine W_seq fun kz2 kq2 => ?_
  refine W_region [1, 2, 3] fun R hR => ?_   -- r1
  simp only [go_sem]
  refine hR _ _ (kq2 _ _ ?_); clear hR R; try clear kq2 kz2
  try simp only [go_sem]
  refine W_seq fun kz3 kq3 => ?_
  refine W_draw [1, 2, 3] [0, 1, 2, 3, 4, 5, 6, 7, 8, 9, 10, 11, 12, 13] [(4, 3), (5, 3), (6, 3), (8, 3), (8, 7)] [[], [], [1], [0, 1, 2], [], [], [5], [0, 1, 2, 3, 4, 5, 6], [1, 2, 5, 6], [0, 1, 2, 3, 4, 5, 6, 7, 8], [0, 1, 2, 3, 4, 5, 6, 7, 8, 9], [0, 1, 2, 3, 4, 5, 6, 7, 8, 9, 10], [0, 1, 2, 3, 4, 5, 6, 7, 8, 9, 10, 11], [0, 1, 2, 3, 4, 5, 6, 7, 8, 9, 10, 11, 12]] mixed (by kernel_rfl) fun R hR => ?_   -- r2
  simp only [go_sem]
  try simp (disch := first | omega | (simp only [go_sem] <;> omega)) only [wrapI, wrapU, appX_exact, appX_tok]
  try simp only [go_sem]
  try simp (disch := first | omega | (simp only [go_sem] <;> omega)) only [wrapI, wrapU, appX_exact, appX_tok]
  try simp only [go_sem]
  try refine And.intro (by repeat' (first | refine And.intro ?_ ?_ | exact GOr_right (fun _ => by simp only [go_sem]))) ?_
  refine hR _ _ (kq3 _ _ ?_); clear hR R; try clear kq3 kz3
  try simp only [go_sem]
  refine W_seq fun kz4 kq4 => ?_
  refine W_seq fun kz5 kq5 => ?_
  refine W_region [1, 2, 3, 4] fun R hR => ?_   -- r3
  simp only [go_sem]
  refine hR _ _ (kq5 _ _ ?_); clear hR R; try clear kq5 kz5
  try simp only [go_sem]
  refine W_block ?_
  refine W_weak (Weak.roomX (j := 0) (off := 0) (es := 4) rfl rfl (by simp)) ?_
  simp only [go_sem]
  refine W_loopT (α := Nat) (fun (i : Nat) => [(4, I i)]) (fun (i : Nat) => σ.ext [some [.isl ((n.opened.take i).map evPV) (.tok (σ.rooms.length + 2) i 4), .isl (n.absent.map stPV) (.tok σ.rooms.length n.absent.length 2), .isl (n.fines.map stPV) (.tok (σ.rooms.length + 1) n.fines.length 2)], some [.isl [] .exact, .isl [] .exact, .isl [] .exact]] [n.absent.length, n.fines.length, i]) (fun (i : Nat) => i ≤ n.opened.length) (fun (i : Nat) => n.opened.length - i) (0) rfl (by first | rfl | (simp only [go_sem]; done) | (simp only [go_sem]; rfl)) (Nat.zero_le _) ?_
  rintro i hi
  refine W_seq fun kz6 kq6 => ?_
  refine W_seq fun kz7 kq7 => ?_
  refine W_region [1, 2, 3, 4, 22] fun R hR => ?_   -- r4
  simp only [go_sem]
  refine hR _ _ (kq7 _ _ ?_); clear hR R; try clear kq7 kz7
  try simp only [go_sem]
  refine W_cond rfl (fun c1 => ?_) (fun c1 => ?_)
  · -- c1 true
    try simp only [nrm] at c1
    have hi' : i < n.opened.length := by first | assumption | omega
    obtain ⟨x, hx⟩ : ∃ x, n.opened[i]? = some x := ⟨n.opened[i], by simp [hi']⟩
    have hdrop : n.opened.drop i = x :: n.opened.drop (i + 1) := by
      rw [List.drop_eq_getElem_cons hi']; congr 1; exact (List.getElem?_eq_some_iff.1 hx).2
    have htl : (n.opened.take i).length = i := by rw [List.length_take]; omega
    have hsn : (n.opened.take (i + 1)).map evPV = (n.opened.take i).map evPV ++ [evPV x] := by rw [List.take_add_one, hx]; simp
    refine W_skip (kq6 _ _ ?_)
    refine W_seq fun kz8 kq8 => ?_
    refine W_block ?_
    refine W_seq fun kz9 kq9 => ?_
    refine W_region [1, 2, 3, 4, 5] fun R hR => ?_   -- r6
    simp only [go_sem, hx, htl]
    refine hR _ _ (kq9 _ _ ?_); clear hR R; try clear kq9 kz9
    try simp only [go_sem, hx, htl]
    refine W_seq fun kz10 kq10 => ?_
    refine W_region [1, 2, 3, 4, 5] fun R hR => ?_   -- r7
    simp only [go_sem, hx, htl]
    refine GCall_of (Ints_pc Y _ x.marks .ro (hm x (List.mem_of_getElem? hx))) ?_   -- t31
    simp only [go_sem, hx, htl]
    refine hR _ _ (kq10 _ _ ?_); clear hR R; try clear kq10 kz10
    try simp only [go_sem, hx, htl]
    refine W_region [1, 2, 3, 4] fun R hR => ?_   -- r8
    simp only [go_sem, hx, htl]
    try simp (disch := first | omega | (simp only [go_sem] <;> omega)) only [wrapI, wrapU, appX_exact, appX_tok]
    try simp only [go_sem, hx, htl]
    refine hR _ _ (kq8 _ _ ?_); clear hR R; try clear kq8 kz8
    try simp only [go_sem, hx, htl]
    refine W_region [1, 2, 3, 4] fun R hR => ?_   -- r5
    simp only [go_sem, hx, htl]
    try simp (disch := omega) only [wrapI, wrapU]
    refine hR _ _ ?_; clear hR R
    try simp only [go_sem, hx, htl]
    refine ⟨i + 1, ?_, by (try simp only []); omega, ?_⟩
    · refine Weak.trans (Weak.cutX 2 3 (by omega) (by omega) hcl (by simp only [go_sem] <;> omega) (by simp only [go_sem] <;> omega)) ?_
      simp only [go_sem]
      refine Weak.eq (by first | rfl | (simp only [go_sem]; done) | (simp [go_sem]; done)) ?_
      simp only [go_sem, hsn]
      first | done | rfl | simp [evPV, evCells]
    · try dsimp only
      omega
  · -- c1 false
    try simp only [nrm] at c1
    have hdrop : n.opened.drop i = [] := List.drop_eq_nil_of_le (by omega)
    have hie : n.opened.length = i := by omega
    rw [← hie, List.take_length]
    refine W_exit ?_
    simp only [go_sem]
    refine kq4 _ _ ?_
    refine W_seq fun kz11 kq11 => ?_
    refine W_region [2] fun R hR => ?_   -- r9
    simp only [go_sem]
    refine hR _ _ (kq11 _ _ ?_); clear hR R; try clear kq11 kz11
    try simp only [go_sem]
    refine W_ret ?_
    simp only [go_sem]
    refine ⟨.inr (by trivial), ?_⟩
    refine Fin_same hcl (by show resPV Tryz.prog _ _ [.cell 2 29] = some _; simp only [resPV, go_sem]; rfl) (Wk.ro (by simp only [go_sem]) ?_)
    try simp only [go_sem]
    all_goals
      first | rfl | simp only [go_sem]
set_option maxHeartbeats 2000000 in
theorem EqScales_pc (Y : YEnv) (σ : Sg) (s : Scale) (hs : s.Ok) :
    PC Tryz.prog Y 20 [scPV s, scPV s] σ (.bool true) (σ) := by
  refine PC_of_W Tryz.func20 rfl (by kernel_rfl) Tryz.ntmps20 (by simp) fun hcl hca => ?_
  refine W_seq fun kz1 kq1 => ?_
  refine W_region [2, 3] fun R hR => ?_   -- r0
  simp only [go_sem]
  refine hR _ _ (kq1 _ _ ?_); clear hR R; try clear kq1 kz1
  try simp only [go_sem]
  refine W_seq fun kz2 kq2 => ?_
  refine W_region [4] fun R hR => ?_   -- r1
  simp only [go_sem]
  refine GCall_of (PC.val (v' := .bool true) (EqInts_pc Y _ s.order s.order .ro .ro (by have := hs.ho; omega)) (by simp)) ?_   -- t50
  simp only [go_sem]
  refine hR _ _ (kq2 _ _ ?_); clear hR R; try clear kq2 kz2
  try simp only [go_sem]
  refine W_ret ?_
  simp only [go_sem]
  refine ⟨.inr (by trivial), ?_⟩
  first | refine Fin_same hcl rfl (Wk_eq ?_ (by simp only [go_sem])) | refine Fin_self hcl rfl (Wk_eq ?_ (by simp only [go_sem]))
  try simp only [go_sem]
  all_goals
    first | rfl | (simp_all; done) | (simp_all; omega)
set_option maxHeartbeats 2000000 in
theorem EqNights_pc (Y : YEnv) (σ : Sg) (n : Night) (hn : n.Ok) :
    PC Tryz.prog Y 21 [ngPV n, ngPV n] σ (.bool true) (σ) := by
  refine PC_of_W Tryz.func21 rfl (by kernel_rfl) Tryz.ntmps21 (by simp) fun hcl hca => ?_
  have ho := hn.ho
  have ha := hn.ha
  have hf := hn.hf
  have hm := hn.hm
  refine W_seq fun kz1 kq1 => ?_
  refine W_region [2, 3] fun R hR => ?_   -- r0
  simp only [go_sem]
  refine hR _ _ (kq1 _ _ ?_); clear hR R; try clear kq1 kz1
  try simp only [go_sem]
  refine W_seq fun kz2 kq2 => ?_
  refine W_seq fun kz3 kq3 => ?_
  refine W_regionJ [2, 3, 32] [(32, .bool false)] ?_ fun R hR => ?_   -- r1
  · refine kq3 _ _ ?_
    simp only [go_sem]
    refine W_cond rfl (fun c1 => ?_) (fun c1 => ?_)
    · -- c1 true
      try simp only [nrm] at c1
      exfalso
      simp at c1
    · -- c1 false
      try simp only [nrm] at c1
      refine W_skip (kq2 _ _ ?_)
      refine W_seq fun kz4 kq4 => ?_
      refine W_seq fun kz5 kq5 => ?_
      refine W_region [2, 3, 5] fun R hR => ?_   -- r3
      simp only [go_sem]
      refine hR _ _ (kq5 _ _ ?_); clear hR R; try clear kq5 kz5
      try simp only [go_sem]
      refine W_block ?_
      refine W_loopS (α := Nat) (fun (i : Nat) => [(5, I i)]) (fun (i : Nat) => i ≤ n.opened.length) (fun (i : Nat) => n.opened.length - i) (0) rfl (Nat.zero_le _) ?_
      rintro i hi
      refine W_seq fun kz6 kq6 => ?_
      refine W_seq fun kz7 kq7 => ?_
      refine W_region [2, 3, 5, 37] fun R hR => ?_   -- r4
      simp only [go_sem]
      refine hR _ _ (kq7 _ _ ?_); clear hR R; try clear kq7 kz7
      try simp only [go_sem]
      refine W_cond rfl (fun c2 => ?_) (fun c2 => ?_)
      · -- c2 true
        try simp only [nrm] at c2
        have hi' : i < n.opened.length := by first | assumption | omega
        obtain ⟨x, hx⟩ : ∃ x, n.opened[i]? = some x := ⟨n.opened[i], by simp [hi']⟩
        have hdrop : n.opened.drop i = x :: n.opened.drop (i + 1) := by
          rw [List.drop_eq_getElem_cons hi']; congr 1; exact (List.getElem?_eq_some_iff.1 hx).2
        refine W_skip (kq6 _ _ ?_)
        refine W_seq fun kz8 kq8 => ?_
        refine W_block ?_
        refine W_seq fun kz9 kq9 => ?_
        refine W_draw [2, 3, 5, 6, 7] [0, 1, 2, 3, 4, 5, 6, 7, 8, 9, 10, 11, 12, 13] [(0, 11), (0, 12), (1, 11), (1, 12), (2, 11), (2, 12), (3, 11), (3, 12), (4, 11), (4, 12), (5, 11), (5, 12), (5, 13), (6, 11), (6, 12), (6, 13), (7, 11), (7, 12), (7, 13), (8, 11), (8, 12), (8, 13), (9, 11), (9, 12), (9, 13)] [[], [0], [], [0, 1, 2], [0, 1, 2, 3], [], [5], [], [5, 6, 7], [5, 6, 7, 8], [], [], [0, 1, 2, 3, 4, 10, 11], [0, 1, 2, 3, 4, 5, 6, 7, 8, 9, 10, 11, 12]] mixed (by kernel_rfl) fun R hR => ?_   -- r6
        simp only [go_sem, hx]
        try refine And.intro (by repeat' (first | refine And.intro ?_ ?_ | exact GOr_right (fun _ => by simp only [go_sem, hx]))) ?_
        refine hR _ _ (kq9 _ _ ?_); clear hR R; try clear kq9 kz9
        try simp only [go_sem, hx]
        refine W_seq fun kz10 kq10 => ?_
        refine W_regionJ [2, 3, 5, 76] [(76, .bool false)] ?_ fun R hR => ?_   -- r7
        · refine kq10 _ _ ?_
          simp only [go_sem, hx]
          refine W_cond rfl (fun c3 => ?_) (fun c3 => ?_)
          · -- c3 true
            try simp only [nrm] at c3
            exfalso
            simp at c3
          · -- c3 false
            try simp only [nrm] at c3
            refine W_skip (kq8 _ _ ?_)
            refine W_region [2, 3, 5] fun R hR => ?_   -- r5
            simp only [go_sem, hx]
            try simp (disch := omega) only [wrapI, wrapU]
            refine hR _ _ ?_; clear hR R
            try simp only [go_sem, hx]
            refine ⟨i + 1, ?_, by (try simp only []); omega, ?_⟩
            · refine Weak.trans (Weak.cutX 2 0 (by omega) (by omega) hcl (by simp only [go_sem] <;> omega) (by simp only [go_sem] <;> omega)) ?_
              simp only [go_sem]
              exact Weak.eq (by first | rfl | (simp only [go_sem]; done) | (simp only [go_sem]; rfl) | (simp [go_sem]; done) | (simp [go_sem]; omega)) (by first | rfl | (simp only [go_sem]; done) | (simp [go_sem]; done))
            · try dsimp only
              omega
        · simp only [go_sem, hx]
          refine GCall_of (PC.val (v' := .bool true) (EqInts_pc Y _ x.marks x.marks .ro .ro (by have := hm x (List.mem_of_getElem? hx); omega)) (by simp)) ?_   -- t74
          simp only [go_sem, hx]
          refine hR _ ?_
          all_goals try simp only [go_sem, hx]
          all_goals
            first | rfl | (simp_all; done)
      · -- c2 false
        try simp only [nrm] at c2
        have hdrop : n.opened.drop i = [] := List.drop_eq_nil_of_le (by omega)
        refine W_exit ?_
        simp only [go_sem]
        refine kq4 _ _ ?_
        refine W_seq fun kz11 kq11 => ?_
        refine W_seq fun kz12 kq12 => ?_
        refine W_region [2, 3, 8] fun R hR => ?_   -- r9
        simp only [go_sem]
        refine hR _ _ (kq12 _ _ ?_); clear hR R; try clear kq12 kz12
        try simp only [go_sem]
        refine W_block ?_
        refine W_loopS (α := Nat) (fun (i : Nat) => [(8, I i)]) (fun (i : Nat) => i ≤ n.fines.length) (fun (i : Nat) => n.fines.length - i) (0) rfl (Nat.zero_le _) ?_
        rintro i hi
        refine W_seq fun kz13 kq13 => ?_
        refine W_seq fun kz14 kq14 => ?_
        refine W_region [2, 3, 8, 81] fun R hR => ?_   -- r10
        simp only [go_sem]
        refine hR _ _ (kq14 _ _ ?_); clear hR R; try clear kq14 kz14
        try simp only [go_sem]
        refine W_cond rfl (fun c4 => ?_) (fun c4 => ?_)
        · -- c4 true
          try simp only [nrm] at c4
          have hi' : i < n.fines.length := by first | assumption | omega
          obtain ⟨x, hx⟩ : ∃ x, n.fines[i]? = some x := ⟨n.fines[i], by simp [hi']⟩
          have hdrop : n.fines.drop i = x :: n.fines.drop (i + 1) := by
            rw [List.drop_eq_getElem_cons hi']; congr 1; exact (List.getElem?_eq_some_iff.1 hx).2
          refine W_skip (kq13 _ _ ?_)
          refine W_seq fun kz15 kq15 => ?_
          refine W_block ?_
          refine W_seq fun kz16 kq16 => ?_
          refine W_draw [2, 3, 8, 94] [0, 1, 2, 3, 4, 5, 6, 7, 8, 9, 10] [] [[], [0], [], [0, 1, 2], [0, 1, 2, 3], [], [5], [], [5, 6, 7], [5, 6, 7, 8], [0, 1, 2, 3, 4, 5, 6, 7, 8, 9]] mixed (by kernel_rfl) fun R hR => ?_   -- r12
          simp only [go_sem, hx]
          try refine And.intro (by repeat' (first | refine And.intro ?_ ?_ | exact GOr_right (fun _ => by simp only [go_sem, hx]))) ?_
          refine hR _ _ (kq16 _ _ ?_); clear hR R; try clear kq16 kz16
          try simp only [go_sem, hx]
          refine W_cond rfl (fun c5 => ?_) (fun c5 => ?_)
          · -- c5 true
            try simp only [nrm] at c5
            exfalso
            simp at c5
          · -- c5 false
            try simp only [nrm] at c5
            refine W_skip (kq15 _ _ ?_)
            refine W_region [2, 3, 8] fun R hR => ?_   -- r11
            simp only [go_sem, hx]
            try simp (disch := omega) only [wrapI, wrapU]
            refine hR _ _ ?_; clear hR R
            try simp only [go_sem, hx]
            refine ⟨i + 1, ?_, by (try simp only []); omega, ?_⟩
            · first | exact Weak.refl | exact Weak.eq (by first | rfl | (simp only [go_sem]; done) | (simp only [go_sem]; rfl) | (simp [go_sem]; done) | (simp [go_sem]; omega)) (by first | rfl | (simp only [go_sem]; done) | (simp [go_sem]; done))
            · try dsimp only
              omega
        · -- c4 false
          try simp only [nrm] at c4
          have hdrop : n.fines.drop i = [] := List.drop_eq_nil_of_le (by omega)
          refine W_exit ?_
          simp only [go_sem]
          refine kq11 _ _ ?_
          refine W_seq fun kz17 kq17 => ?_
          refine W_region [4] fun R hR => ?_   -- r14
          simp only [go_sem]
          refine hR _ _ (kq17 _ _ ?_); clear hR R; try clear kq17 kz17
          try simp only [go_sem]
          refine W_ret ?_
          simp only [go_sem]
          refine ⟨.inr (by trivial), ?_⟩
          first | refine Fin_same hcl rfl (Wk_eq ?_ (by simp only [go_sem])) | refine Fin_self hcl rfl (Wk_eq ?_ (by simp only [go_sem]))
          try simp only [go_sem]
          all_goals
            first | rfl | (simp_all; done) | (simp_all; omega)
  · simp only [go_sem]
    refine GCall_of (PC.val (v' := .bool true) (EqAbsent_pc Y _ n.absent n.absent .ro .ro (by omega)) (by simp)) ?_   -- t30
    simp only [go_sem]
    refine hR _ ?_
    all_goals try simp only [go_sem]
    all_goals
      first | rfl | (simp_all; done)
set_option maxHeartbeats 2000000 in
theorem wide_pc (Y : YEnv) (σ : Sg) (s : Scale) (n : Night) (hs : s.order.length < 2 ^ 50) (ho : n.opened.length < 2 ^ 50) (ha : n.absent.length < 2 ^ 50) (hf : n.fines.length < 2 ^ 50) (hm : ∀ x, x ∈ n.opened → x.marks.length < 2 ^ 50) :
    PC Tryz.prog Y 9 [scPV s, ngPV n] σ (.bool (wideB s n)) (σ) := by
  refine PC_of_W Tryz.func9 rfl (by kernel_rfl) Tryz.ntmps9 (by simp) fun hcl hca => ?_
  obtain ⟨res, hres⟩ : ∃ r, wideB s n = r := ⟨_, rfl⟩
  rw [hres]
  refine W_seq fun kz1 kq1 => ?_
  refine W_region [2, 3] fun R hR => ?_   -- r0
  simp only [go_sem]
  refine hR _ _ (kq1 _ _ ?_); clear hR R; try clear kq1 kz1
  try simp only [go_sem]
  refine W_seq fun kz2 kq2 => ?_
  refine W_seq fun kz3 kq3 => ?_
  refine W_region [2, 3, 5] fun R hR => ?_   -- r1
  simp only [go_sem]
  refine hR _ _ (kq3 _ _ ?_); clear hR R; try clear kq3 kz3
  try simp only [go_sem]
  refine W_block ?_
  refine W_loopS (α := Nat) (fun (i : Nat) => [(5, I i)]) (fun (i : Nat) => i ≤ n.opened.length ∧ i ≤ 70 ∧ ∀ x, x ∈ n.opened.take i → ¬ (20 < (x.marks.length : Int))) (fun (i : Nat) => n.opened.length - i) (0) rfl (⟨Nat.zero_le _, by omega, fun x hx => by simp at hx⟩) ?_
  rintro i ⟨hi, hi7, hal⟩
  refine W_seq fun kz4 kq4 => ?_
  refine W_seq fun kz5 kq5 => ?_
  refine W_regionJ [2, 3, 5, 14] [(14, .bool (decide (i < n.opened.length) && decide (i < 70)))] ?_ fun R hR => ?_   -- r2
  · refine kq5 _ _ ?_
    simp only [go_sem]
    refine W_cond rfl (fun c1 => ?_) (fun c1 => ?_)
    · -- c1 true
      try simp only [nrm] at c1
      have hb' : i < n.opened.length ∧ i < 70 := by simpa using c1
      have hi' := hb'.1
      have hi70 := hb'.2
      obtain ⟨x, hx⟩ : ∃ x, n.opened[i]? = some x := ⟨n.opened[i], by simp⟩
      have hxl := hm x (List.mem_of_getElem? hx)
      refine W_skip (kq4 _ _ ?_)
      refine W_seq fun kz6 kq6 => ?_
      refine W_block ?_
      refine W_seq fun kz7 kq7 => ?_
      refine W_region [2, 3, 5, 24] fun R hR => ?_   -- r4
      simp only [go_sem, hx]
      refine hR _ _ (kq7 _ _ ?_); clear hR R; try clear kq7 kz7
      try simp only [go_sem, hx]
      refine W_cond rfl (fun c2 => ?_) (fun c2 => ?_)
      · -- c2 true
        try simp only [nrm] at c2
        refine W_seq fun kz8 kq8 => ?_
        refine W_region [4] fun R hR => ?_   -- r5
        simp only [go_sem, hx]
        refine hR _ _ (kq8 _ _ ?_); clear hR R; try clear kq8 kz8
        try simp only [go_sem, hx]
        refine W_ret ?_
        simp only [go_sem, hx]
        refine ⟨.inr (by trivial), ?_⟩
        first | refine Fin_same hcl rfl (Wk_eq ?_ (by simp only [go_sem])) | refine Fin_self hcl rfl (Wk_eq ?_ (by simp only [go_sem]))
        try simp only [go_sem]
        all_goals
          have hany : (n.opened.take 70).any (fun x => decide (20 < (x.marks.length : Int))) = true := by
            rw [List.any_eq_true]
            refine ⟨x, List.mem_of_getElem? (i := i) (by rw [List.getElem?_take_of_lt hi70]; exact hx), ?_⟩
            rw [decide_eq_true_eq]; first | exact c2 | omega
          rw [← hres]; unfold wideB; rw [hany]; rfl
      · -- c2 false
        try simp only [nrm] at c2
        refine W_skip (kq6 _ _ ?_)
        refine W_region [2, 3, 5] fun R hR => ?_   -- r3
        simp only [go_sem, hx]
        try simp (disch := omega) only [wrapI, wrapU]
        refine hR _ _ ?_; clear hR R
        try simp only [go_sem, hx]
        refine ⟨i + 1, ?_, by (try simp only []); omega, ?_⟩
        · first | exact Weak.refl | exact Weak.eq (by first | rfl | (simp only [go_sem]; done) | (simp only [go_sem]; rfl) | (simp [go_sem]; done) | (simp [go_sem]; omega)) (by first | rfl | (simp only [go_sem]; done) | (simp [go_sem]; done))
        · try dsimp only
          refine ⟨by omega, by omega, fun y hy => ?_⟩
          rw [List.take_add_one, hx] at hy
          rcases List.mem_append.1 hy with h | h
          · exact hal y h
          · simp at h; subst h; first | exact c2 | omega | (simp at c2; omega)
    · -- c1 false
      try simp only [nrm] at c1
      have hb' : ¬ (i < n.opened.length ∧ i < 70) := by simpa using c1
      have htk : n.opened.take 70 = n.opened.take i := by
        by_cases e : i = n.opened.length
        · rw [e, List.take_length, List.take_of_length_le (by omega)]
        · have : i = 70 := by omega
          rw [this]
      have hany : (n.opened.take 70).any (fun x => decide (20 < (x.marks.length : Int))) = false := by
        rw [List.any_eq_false, htk]
        intro x hx
        simpa using hal x hx
      unfold wideB at hres
      rw [hany, Bool.false_or] at hres
      refine W_exit ?_
      simp only [go_sem]
      refine kq2 _ _ ?_
      refine W_seq fun kz9 kq9 => ?_
      refine W_region [4] fun R hR => ?_   -- r6
      simp only [go_sem]
      refine GWant_split (fun g1 => ?_) (fun g1 => ?_)
      · try simp only [Bool.not_eq_true', Bool.not_eq_false'] at g1
        have n1 := g1; try simp only [nrm] at n1
        simp only [go_sem, g1]
        refine GWant_split (fun g2 => ?_) (fun g2 => ?_)
        · try simp only [Bool.not_eq_true', Bool.not_eq_false'] at g2
          have n2 := g2; try simp only [nrm] at n2
          simp only [go_sem, g1, g2]
          refine GWant_split (fun g3 => ?_) (fun g3 => ?_)
          · try simp only [Bool.not_eq_true', Bool.not_eq_false'] at g3
            have n3 := g3; try simp only [nrm] at n3
            simp only [go_sem, g1, g2, g3]
            refine hR _ _ (kq9 _ _ ?_); clear hR R; try clear kq9 kz9
            try simp only [go_sem]
            refine W_ret ?_
            simp only [go_sem]
            refine ⟨.inr (by trivial), ?_⟩
            first | refine Fin_same hcl rfl (Wk_eq ?_ (by simp only [go_sem])) | refine Fin_self hcl rfl (Wk_eq ?_ (by simp only [go_sem]))
            try simp only [go_sem]
            all_goals
              rw [← hres]; first | rfl | (simp [*]; done) | (simp_all; done)
          · try simp only [Bool.not_eq_true', Bool.not_eq_false'] at g3
            have n3 := g3; try simp only [nrm] at n3
            simp only [go_sem, g1, g2, g3]
            refine hR _ _ (kq9 _ _ ?_); clear hR R; try clear kq9 kz9
            try simp only [go_sem]
            refine W_ret ?_
            simp only [go_sem]
            refine ⟨.inr (by trivial), ?_⟩
            first | refine Fin_same hcl rfl (Wk_eq ?_ (by simp only [go_sem])) | refine Fin_self hcl rfl (Wk_eq ?_ (by simp only [go_sem]))
            try simp only [go_sem]
            all_goals
              rw [← hres]; first | rfl | (simp [*]; done) | (simp_all; done)
        · try simp only [Bool.not_eq_true', Bool.not_eq_false'] at g2
          have n2 := g2; try simp only [nrm] at n2
          simp only [go_sem, g1, g2]
          refine hR _ _ (kq9 _ _ ?_); clear hR R; try clear kq9 kz9
          try simp only [go_sem]
          refine W_ret ?_
          simp only [go_sem]
          refine ⟨.inr (by trivial), ?_⟩
          first | refine Fin_same hcl rfl (Wk_eq ?_ (by simp only [go_sem])) | refine Fin_self hcl rfl (Wk_eq ?_ (by simp only [go_sem]))
          try simp only [go_sem]
          all_goals
            rw [← hres]; first | rfl | (simp [*]; done) | (simp_all; done)
      · try simp only [Bool.not_eq_true', Bool.not_eq_false'] at g1
        have n1 := g1; try simp only [nrm] at n1
        simp only [go_sem, g1]
        refine hR _ _ (kq9 _ _ ?_); clear hR R; try clear kq9 kz9
        try simp only [go_sem]
        refine W_ret ?_
        simp only [go_sem]
        refine ⟨.inr (by trivial), ?_⟩
        first | refine Fin_same hcl rfl (Wk_eq ?_ (by simp only [go_sem])) | refine Fin_self hcl rfl (Wk_eq ?_ (by simp only [go_sem]))
        try simp only [go_sem]
        all_goals
          rw [← hres]; first | rfl | (simp [*]; done) | (simp_all; done)
  · simp only [go_sem]
    refine GWant_split (fun g4 => ?_) (fun g4 => ?_)
    · try simp only [Bool.not_eq_true', Bool.not_eq_false'] at g4
      have n4 := g4; try simp only [nrm] at n4
      simp only [go_sem, g4]
      refine hR _ ?_
      all_goals try simp only [go_sem]
      all_goals
        first | (simp [*]; done) | (simp_all; done) | (simp_all; omega)
    · try simp only [Bool.not_eq_true', Bool.not_eq_false'] at g4
      have n4 := g4; try simp only [nrm] at n4
      simp only [go_sem, g4]
      refine hR _ ?_
      all_goals try simp only [go_sem]
      all_goals
        first | (simp [*]; done) | (simp_all; done) | (simp_all; omega)
end Go.Proofs.YtgelnjmddabgpaaGreat
namespace Go.Proofs.YtgelnjmddabgpaaGreat
open Go Go.RowKit
set_option maxRecDepth 100000
set_option maxHeartbeats 4000000 in
theorem OwnNightT_pc (Y : YEnv) (σ : Sg) (n : Night) (hn : n.Ok) :
    PC Tryz.prog Y 16 [ngPV n] σ (.agg [.isl (n.opened.map evPV) (.tok (σ.rooms.length + 2) n.opened.length 4), .isl (n.absent.map stPV) (.tok σ.rooms.length n.absent.length 2), .isl (n.fines.map stPV) (.tok (σ.rooms.length + 1) n.fines.length 2)]) (σ.ext [] [n.absent.length, n.fines.length, n.opened.length]) := by
  refine PC_of_W Tryz.func16 rfl (by kernel_rfl) Tryz.ntmps16 (by simp) fun hcl hca => ?_
  have ho := hn.ho
  have ha := hn.ha
  have hf := hn.hf
  have hm := hn.hm
  refine W_seq fun kz1 kq1 => ?_
  refine W_region [1, 2] fun R hR => ?_   -- r0
  simp only [go_sem]
  refine hR _ _ (kq1 _ _ ?_); clear hR R; try clear kq1 kz1
  try simp only [go_sem]
  refine W_seq fun kz2 kq2 => ?_
  refine W_region [1, 2, 3] fun R hR => ?_   -- r1
  simp only [go_sem]
  refine hR _ _ (kq2 _ _ ?_); clear hR R; try clear kq2 kz2
  try simp only [go_sem]
  refine W_seq fun kz3 kq3 => ?_
  refine W_draw [1, 2, 3] [0, 1, 2, 3, 4, 5, 6, 7, 8, 9, 10, 11, 12, 13] [(4, 3), (5, 3), (6, 3), (8, 3), (8, 7)] [[], [], [1], [0, 1, 2], [], [], [5], [0, 1, 2, 3, 4, 5, 6], [1, 2, 5, 6], [0, 1, 2, 3, 4, 5, 6, 7, 8], [0, 1, 2, 3, 4, 5, 6, 7, 8, 9], [0, 1, 2, 3, 4, 5, 6, 7, 8, 9, 10], [0, 1, 2, 3, 4, 5, 6, 7, 8, 9, 10, 11], [0, 1, 2, 3, 4, 5, 6, 7, 8, 9, 10, 11, 12]] mixed (by kernel_rfl) fun R hR => ?_   -- r2
  simp only [go_sem]
  try simp (disch := first | omega | (simp only [go_sem] <;> omega)) only [wrapI, wrapU, appX_exact, appX_tok]
  try simp only [go_sem]
  try simp (disch := first | omega | (simp only [go_sem] <;> omega)) only [wrapI, wrapU, appX_exact, appX_tok]
  try simp only [go_sem]
  try refine And.intro (by repeat' (first | refine And.intro ?_ ?_ | exact GOr_right (fun _ => by simp only [go_sem]))) ?_
  refine hR _ _ (kq3 _ _ ?_); clear hR R; try clear kq3 kz3
  try simp only [go_sem]
  refine W_seq fun kz4 kq4 => ?_
  refine W_seq fun kz5 kq5 => ?_
  refine W_region [1, 2, 3, 4] fun R hR => ?_   -- r3
  simp only [go_sem]
  refine hR _ _ (kq5 _ _ ?_); clear hR R; try clear kq5 kz5
  try simp only [go_sem]
  refine W_block ?_
  refine W_weak (Weak.roomX (j := 0) (off := 0) (es := 4) rfl rfl (by simp)) ?_
  simp only [go_sem]
  refine W_loopT (α := Nat) (fun (i : Nat) => [(4, I i)]) (fun (i : Nat) => σ.ext [some [.isl ((n.opened.take i).map evPV) (.tok (σ.rooms.length + 2) i 4), .isl (n.absent.map stPV) (.tok σ.rooms.length n.absent.length 2), .isl (n.fines.map stPV) (.tok (σ.rooms.length + 1) n.fines.length 2)], some [.isl [] .exact, .isl [] .exact, .isl [] .exact]] [n.absent.length, n.fines.length, i]) (fun (i : Nat) => i ≤ n.opened.length) (fun (i : Nat) => n.opened.length - i) (0) rfl (by first | rfl | (simp only [go_sem]; done) | (simp only [go_sem]; rfl)) (Nat.zero_le _) ?_
  rintro i hi
  refine W_seq fun kz6 kq6 => ?_
  refine W_seq fun kz7 kq7 => ?_
  refine W_region [1, 2, 3, 4, 22] fun R hR => ?_   -- r4
  simp only [go_sem]
  refine hR _ _ (kq7 _ _ ?_); clear hR R; try clear kq7 kz7
  try simp only [go_sem]
  refine W_cond rfl (fun c1 => ?_) (fun c1 => ?_)
  · -- c1 true
    try simp only [nrm] at c1
    have hi' : i < n.opened.length := by first | assumption | omega
    obtain ⟨x, hx⟩ : ∃ x, n.opened[i]? = some x := ⟨n.opened[i], by simp [hi']⟩
    have hdrop : n.opened.drop i = x :: n.opened.drop (i + 1) := by
      rw [List.drop_eq_getElem_cons hi']; congr 1; exact (List.getElem?_eq_some_iff.1 hx).2
    have htl : (n.opened.take i).length = i := by rw [List.length_take]; omega
    have hsn : (n.opened.take (i + 1)).map evPV = (n.opened.take i).map evPV ++ [evPV x] := by rw [List.take_add_one, hx]; simp
    refine W_skip (kq6 _ _ ?_)
    refine W_seq fun kz8 kq8 => ?_
    refine W_block ?_
    refine W_seq fun kz9 kq9 => ?_
    refine W_region [1, 2, 3, 4, 5] fun R hR => ?_   -- r6
    simp only [go_sem, hx, htl]
    refine hR _ _ (kq9 _ _ ?_); clear hR R; try clear kq9 kz9
    try simp only [go_sem, hx, htl]
    refine W_seq fun kz10 kq10 => ?_
    refine W_region [1, 2, 3, 4, 5] fun R hR => ?_   -- r7
    simp only [go_sem, hx, htl]
    refine GCall_of (Ints_pc Y _ x.marks .ro (hm x (List.mem_of_getElem? hx))) ?_   -- t31
    simp only [go_sem, hx, htl]
    refine hR _ _ (kq10 _ _ ?_); clear hR R; try clear kq10 kz10
    try simp only [go_sem, hx, htl]
    refine W_region [1, 2, 3, 4] fun R hR => ?_   -- r8
    simp only [go_sem, hx, htl]
    try simp (disch := first | omega | (simp only [go_sem] <;> omega)) only [wrapI, wrapU, appX_exact, appX_tok]
    try simp only [go_sem, hx, htl]
    refine hR _ _ (kq8 _ _ ?_); clear hR R; try clear kq8 kz8
    try simp only [go_sem, hx, htl]
    refine W_region [1, 2, 3, 4] fun R hR => ?_   -- r5
    simp only [go_sem, hx, htl]
    try simp (disch := omega) only [wrapI, wrapU]
    refine hR _ _ ?_; clear hR R
    try simp only [go_sem, hx, htl]
    refine ⟨i + 1, ?_, by (try simp only []); omega, ?_⟩
    · refine Weak.trans (Weak.cutX 2 3 (by omega) (by omega) hcl (by simp only [go_sem] <;> omega) (by simp only [go_sem] <;> omega)) ?_
      simp only [go_sem]
      refine Weak.eq (by first | rfl | (simp only [go_sem]; done) | (simp [go_sem]; done)) ?_
      simp only [go_sem, hsn]
      first | done | rfl | simp [evPV, evCells]
    · try dsimp only
      omega
  · -- c1 false
    try simp only [nrm] at c1
    have hdrop : n.opened.drop i = [] := List.drop_eq_nil_of_le (by omega)
    have hie : n.opened.length = i := by omega
    rw [← hie, List.take_length]
    refine W_exit ?_
    simp only [go_sem]
    refine kq4 _ _ ?_
    refine W_seq fun kz11 kq11 => ?_
    refine W_region [2] fun R hR => ?_   -- r9
    simp only [go_sem]
    refine hR _ _ (kq11 _ _ ?_); clear hR R; try clear kq11 kz11
    try simp only [go_sem]
    refine W_ret ?_
    simp only [go_sem]
    refine ⟨.inr (by trivial), ?_⟩
    exact Fin_ext 0 3 hcl (by show resPV Tryz.prog _ _ [.cell 2 29] = some _; simp only [resPV, go_sem]; rfl) (Wk_eq rfl (by simp only [go_sem] <;> omega)) (by show CleanLs _ _ _ _; simp only [go_sem, List.take_zero])
    try simp only [go_sem]
    all_goals
      skip
end Go.Proofs.YtgelnjmddabgpaaGreat
namespace Go.Proofs.YtgelnjmddabgpaaGreat
open Go Go.RowKit
set_option maxRecDepth 100000
/-- What depends on the drum's beat, and the beat behind it. -/
abbrev D (α : Type) := Int → α × Int
def dret {α : Type} (a : α) : D α := fun b => (a, b)
def dbind {α β : Type} (m : D α) (f : α → D β) : D β := fun b => f (m b).1 (m b).2
def Holds {α : Type} (m : D α) (R : α → Prop) : Prop := ∀ b, R (m b).1
theorem Holds.ret {α : Type} {a : α} {R : α → Prop} (h : R a) : Holds (dret a) R := fun _ => h
theorem Holds.bind {α β : Type} {m : D α} {f : α → D β} {R : α → Prop} {S : β → Prop} (h : Holds m R) (k : ∀ a, R a → Holds (f a) S) : Holds (dbind m f) S := fun b => k _ (h b) _
theorem Holds.mono {α : Type} {m : D α} {R S : α → Prop} (h : Holds m R) (k : ∀ a, R a → S a) : Holds m S := fun b => k _ (h b)
def xorU (a b : Int) : Int := match arith .xor .u64 a b with | some (.int _ n) => n | _ => 0
def hitB (b : Int) : Int := IntKind.u64.wrap (IntKind.u64.wrap (b * 15074714826142052245) + 11400714819323198485)
def hitM (x : Int) : Int := IntKind.u64.wrap (xorU x (x.fdiv 4294967296) * 15760922415973212899)
def hitX (b : Int) : Int := xorU (hitM (hitM (hitB b))) ((hitM (hitM (hitB b))).fdiv 4294967296)
theorem wrapU_bd (n : Int) : 0 ≤ IntKind.u64.wrap n ∧ IntKind.u64.wrap n ≤ 18446744073709551615 := by
  have h : IntKind.u64.wrap n = n % 18446744073709551616 := rfl
  rw [h]; omega
theorem hitX_bd (b : Int) : 0 ≤ hitX b ∧ hitX b ≤ 18446744073709551615 := wrapU_bd _
def roll0 (n : Int) : D Int := fun b => if n < 2 then (0, b) else ((hitX b / 2) % n, hitB b)
/-- A number drawn: sealed, so that nobody computes with it. -/
noncomputable def roll : Int → D Int := Classical.choose (⟨roll0, rfl⟩ : ∃ f, f = roll0)
theorem roll_eq : roll = fun n b => if n < 2 then (0, b) else ((hitX b / 2) % n, hitB b) := Classical.choose_spec (⟨roll0, rfl⟩ : ∃ f, f = roll0)
noncomputable def mid (lo hi : Int) : D Int := fun b => (lo + (roll (hi - lo + 1) b).1, (roll (hi - lo + 1) b).2)
noncomputable def anyOf (l : List Int) : D Int := fun b => ((l[(roll l.length b).1.toNat]?).getD 0, (roll l.length b).2)
theorem roll_bd (n : Int) : Holds (roll n) fun r => 0 ≤ r ∧ r < max n 1 := by
  intro b
  rw [roll_eq]
  dsimp only
  have := hitX_bd b
  by_cases h : n < 2
  · rw [if_pos h]; simp only []; omega
  · rw [if_neg h]
    have h1 := Int.emod_nonneg (hitX b / 2) (show n ≠ 0 by omega)
    have h2 := Int.emod_lt_of_pos (hitX b / 2) (show 0 < n by omega)
    simp only []; omega
theorem mid_bd (lo hi : Int) (h : lo ≤ hi) : Holds (mid lo hi) fun r => lo ≤ r ∧ r ≤ hi := by
  intro b
  have := roll_bd (hi - lo + 1) b
  simp only [mid] at *
  omega
theorem anyOf_mem (l : List Int) (h : l ≠ []) : Holds (anyOf l) fun r => r ∈ l := by
  intro b
  have := roll_bd l.length b
  simp only [anyOf] at *
  have hl : 0 < l.length := by cases l with | nil => exact absurd rfl h | cons => simp
  have hlt : (roll (l.length : Int) b).1.toNat < l.length := by omega
  rw [List.getElem?_eq_getElem hlt]
  exact List.getElem_mem hlt
set_option maxHeartbeats 2000000 in
theorem hit_pc (Y : YEnv) (σ : Sg) (d : Nat) (b : Int) (hd : σ.store[d]? = some (some [.int .u64 b])) :
    PC Tryz.prog Y 52 [.ptr d 0] σ (.int .u64 (hitX b)) (σ.setVar d [.int .u64 (hitB b)]) := by
  refine PC_of_W Tryz.func52 rfl (by kernel_rfl) Tryz.ntmps52 (by simp) fun hcl hca => ?_
  have hlt := lt_of_get hd
  refine W_seq fun kz1 kq1 => ?_
  refine W_region [0] fun R hR => ?_   -- r0
  simp only [go_sem, ldS_at hd, stX_at hd, ldS_sv hlt, stX_sv hlt, sv_ext hlt, sv_ext_sv hlt]
  refine hR _ _ (kq1 _ _ ?_); clear hR R; try clear kq1 kz1
  try simp only [go_sem, ldS_at hd, stX_at hd, ldS_sv hlt, stX_sv hlt, sv_ext hlt, sv_ext_sv hlt]
  refine W_seq fun kz2 kq2 => ?_
  refine W_region [0] fun R hR => ?_   -- r1
  simp only [go_sem, ldS_at hd, stX_at hd, ldS_sv hlt, stX_sv hlt, sv_ext hlt, sv_ext_sv hlt]
  try simp (disch := omega) only [wrapI, wrapU]
  refine hR _ _ (kq2 _ _ ?_); clear hR R; try clear kq2 kz2
  try simp only [go_sem, ldS_at hd, stX_at hd, ldS_sv hlt, stX_sv hlt, sv_ext hlt, sv_ext_sv hlt]
  refine W_seq fun kz3 kq3 => ?_
  refine W_region [3] fun R hR => ?_   -- r2
  simp only [go_sem, ldS_at hd, stX_at hd, ldS_sv hlt, stX_sv hlt, sv_ext hlt, sv_ext_sv hlt]
  refine hR _ _ (kq3 _ _ ?_); clear hR R; try clear kq3 kz3
  try simp only [go_sem, ldS_at hd, stX_at hd, ldS_sv hlt, stX_sv hlt, sv_ext hlt, sv_ext_sv hlt]
  refine W_seq fun kz4 kq4 => ?_
  refine W_region [3] fun R hR => ?_   -- r3
  simp only [go_sem, ldS_at hd, stX_at hd, ldS_sv hlt, stX_sv hlt, sv_ext hlt, sv_ext_sv hlt]
  try simp (disch := omega) only [wrapI, wrapU]
  refine hR _ _ (kq4 _ _ ?_); clear hR R; try clear kq4 kz4
  try simp only [go_sem, ldS_at hd, stX_at hd, ldS_sv hlt, stX_sv hlt, sv_ext hlt, sv_ext_sv hlt]
  refine W_seq fun kz5 kq5 => ?_
  refine W_region [3] fun R hR => ?_   -- r4
  simp only [go_sem, ldS_at hd, stX_at hd, ldS_sv hlt, stX_sv hlt, sv_ext hlt, sv_ext_sv hlt]
  try simp (disch := omega) only [wrapI, wrapU]
  refine hR _ _ (kq5 _ _ ?_); clear hR R; try clear kq5 kz5
  try simp only [go_sem, ldS_at hd, stX_at hd, ldS_sv hlt, stX_sv hlt, sv_ext hlt, sv_ext_sv hlt]
  refine W_seq fun kz6 kq6 => ?_
  refine W_region [2] fun R hR => ?_   -- r5
  simp only [go_sem, ldS_at hd, stX_at hd, ldS_sv hlt, stX_sv hlt, sv_ext hlt, sv_ext_sv hlt]
  refine hR _ _ (kq6 _ _ ?_); clear hR R; try clear kq6 kz6
  try simp only [go_sem, ldS_at hd, stX_at hd, ldS_sv hlt, stX_sv hlt, sv_ext hlt, sv_ext_sv hlt]
  refine W_ret ?_
  simp only [go_sem, ldS_at hd, stX_at hd, ldS_sv hlt, stX_sv hlt, sv_ext hlt, sv_ext_sv hlt]
  refine ⟨.inr (by trivial), ?_⟩
  first | refine Fin_set hcl (by simp only [go_sem]) rfl (Wk_eq ?_ (by simp only [go_sem])) | refine Fin_set0 hcl (by simp only [go_sem]) rfl (Wk_eq ?_ (by simp only [go_sem]))
  try simp only [go_sem]
  all_goals
    simp only [hitX, hitM, hitB, xorU, go_sem]; simp (disch := omega) only [wrapU]
set_option maxHeartbeats 2000000 in
theorem Roll_lo (Y : YEnv) (σ : Sg) (d : Nat) (n : Int) (hn : n < 2) :
    PC Tryz.prog Y 22 [.ptr d 0, I n] σ (I 0) (σ) := by
  refine PC_of_W Tryz.func22 rfl (by kernel_rfl) Tryz.ntmps22 (by simp) fun hcl hca => ?_
  refine W_seq fun kz1 kq1 => ?_
  refine W_region [0, 1] fun R hR => ?_   -- r0
  simp only [go_sem]
  refine hR _ _ (kq1 _ _ ?_); clear hR R; try clear kq1 kz1
  try simp only [go_sem]
  refine W_seq fun kz2 kq2 => ?_
  refine W_seq fun kz3 kq3 => ?_
  refine W_region [0, 1, 6] fun R hR => ?_   -- r1
  simp only [go_sem]
  refine hR _ _ (kq3 _ _ ?_); clear hR R; try clear kq3 kz3
  try simp only [go_sem]
  refine W_cond rfl (fun c1 => ?_) (fun c1 => ?_)
  · -- c1 true
    try simp only [nrm] at c1
    refine W_seq fun kz4 kq4 => ?_
    refine W_region [4] fun R hR => ?_   -- r2
    simp only [go_sem]
    refine hR _ _ (kq4 _ _ ?_); clear hR R; try clear kq4 kz4
    try simp only [go_sem]
    refine W_ret ?_
    simp only [go_sem]
    refine ⟨.inr (by trivial), ?_⟩
    first | refine Fin_same hcl rfl (Wk_eq ?_ (by simp only [go_sem])) | refine Fin_self hcl rfl (Wk_eq ?_ (by simp only [go_sem]))
    try simp only [go_sem]
    all_goals
      first | rfl | (simp_all; done) | (simp_all; omega)
  · -- c1 false
    try simp only [nrm] at c1
    exfalso
    omega
set_option maxHeartbeats 2000000 in
theorem Roll_hi (Y : YEnv) (σ : Sg) (d : Nat) (b : Int) (hd : σ.store[d]? = some (some [.int .u64 b])) (n : Int) (hn : 2 ≤ n) (hn2 : n < 2 ^ 62) :
    PC Tryz.prog Y 22 [.ptr d 0, I n] σ (I ((hitX b / 2) % n)) (σ.setVar d [.int .u64 (hitB b)]) := by
  refine PC_of_W Tryz.func22 rfl (by kernel_rfl) Tryz.ntmps22 (by simp) fun hcl hca => ?_
  have hlt := lt_of_get hd
  have hb := hitX_bd b
  have e1 : (hitX b).fdiv 2 = hitX b / 2 := Int.fdiv_eq_ediv_of_nonneg _ (by omega)
  have e2 : (hitX b / 2).tmod n = (hitX b / 2) % n := Int.tmod_eq_emod_of_nonneg (by omega)
  have h1 := Int.emod_nonneg (hitX b / 2) (show n ≠ 0 by omega)
  have h2 := Int.emod_lt_of_pos (hitX b / 2) (show 0 < n by omega)
  have e3 : ¬ n = 0 := by omega
  have e4 : IntKind.u64.wrap n = n := wrapU (by omega) (by omega)
  refine W_seq fun kz1 kq1 => ?_
  refine W_region [0, 1] fun R hR => ?_   -- r0
  simp only [go_sem, ldS_at hd, stX_at hd, ldS_sv hlt, stX_sv hlt, sv_ext hlt, sv_ext_sv hlt]
  refine hR _ _ (kq1 _ _ ?_); clear hR R; try clear kq1 kz1
  try simp only [go_sem, ldS_at hd, stX_at hd, ldS_sv hlt, stX_sv hlt, sv_ext hlt, sv_ext_sv hlt]
  refine W_seq fun kz2 kq2 => ?_
  refine W_seq fun kz3 kq3 => ?_
  refine W_region [0, 1, 6] fun R hR => ?_   -- r1
  simp only [go_sem, ldS_at hd, stX_at hd, ldS_sv hlt, stX_sv hlt, sv_ext hlt, sv_ext_sv hlt]
  refine hR _ _ (kq3 _ _ ?_); clear hR R; try clear kq3 kz3
  try simp only [go_sem, ldS_at hd, stX_at hd, ldS_sv hlt, stX_sv hlt, sv_ext hlt, sv_ext_sv hlt]
  refine W_cond rfl (fun c1 => ?_) (fun c1 => ?_)
  · -- c1 true
    try simp only [nrm] at c1
    exfalso
    omega
  · -- c1 false
    try simp only [nrm] at c1
    refine W_skip (kq2 _ _ ?_)
    refine W_seq fun kz4 kq4 => ?_
    refine W_region [4] fun R hR => ?_   -- r3
    simp only [go_sem, ldS_at hd, stX_at hd, ldS_sv hlt, stX_sv hlt, sv_ext hlt, sv_ext_sv hlt, e4, e1, e2, e3]
    refine GCall_of (hit_pc Y _ d b hd) ?_   -- t8
    simp only [go_sem, ldS_at hd, stX_at hd, ldS_sv hlt, stX_sv hlt, sv_ext hlt, sv_ext_sv hlt, e4, e1, e2, e3]
    try simp (disch := omega) only [wrapI, wrapU]
    refine hR _ _ (kq4 _ _ ?_); clear hR R; try clear kq4 kz4
    try simp only [go_sem, ldS_at hd, stX_at hd, ldS_sv hlt, stX_sv hlt, sv_ext hlt, sv_ext_sv hlt]
    refine W_ret ?_
    simp only [go_sem, ldS_at hd, stX_at hd, ldS_sv hlt, stX_sv hlt, sv_ext hlt, sv_ext_sv hlt]
    refine ⟨.inr (by trivial), ?_⟩
    first | refine Fin_set hcl (by simp only [go_sem]) rfl (Wk_eq ?_ (by simp only [go_sem])) | refine Fin_set0 hcl (by simp only [go_sem]) rfl (Wk_eq ?_ (by simp only [go_sem]))
    try simp only [go_sem]
    all_goals
      first | rfl | (simp_all; done) | (simp_all; omega)
theorem Roll_pc (Y : YEnv) (σ : Sg) (d : Nat) (b : Int) (hd : σ.store[d]? = some (some [.int .u64 b])) (n : Int) (hn2 : n < 2 ^ 62) : PC Tryz.prog Y 22 [.ptr d 0, I n] σ (I (roll n b).1) (σ.setVar d [.int .u64 (roll n b).2]) := by
  rw [roll_eq]
  dsimp only
  by_cases h : n < 2
  · rw [if_pos h]; simp only []; rw [sv_self hd]; exact Roll_lo Y σ d n h
  · rw [if_neg h]; exact Roll_hi Y σ d b hd n (by omega) hn2
set_option maxHeartbeats 2000000 in
theorem Mid_pc (Y : YEnv) (σ : Sg) (d : Nat) (b : Int) (hd : σ.store[d]? = some (some [.int .u64 b])) (lo hi : Int) (h1 : -2 ^ 60 ≤ lo) (h2 : lo ≤ 2 ^ 60) (h3 : -2 ^ 60 ≤ hi) (h4 : hi ≤ 2 ^ 60) :
    PC Tryz.prog Y 24 [.ptr d 0, I lo, I hi] σ (I (mid lo hi b).1) (σ.setVar d [.int .u64 (mid lo hi b).2]) := by
  refine PC_of_W Tryz.func24 rfl (by kernel_rfl) Tryz.ntmps24 (by simp) fun hcl hca => ?_
  have hlt := lt_of_get hd
  have hr := roll_bd (hi - lo + 1) b
  simp only [] at hr
  refine W_seq fun kz1 kq1 => ?_
  refine W_region [0, 1, 2] fun R hR => ?_   -- r0
  simp only [go_sem, ldS_at hd, stX_at hd, ldS_sv hlt, stX_sv hlt, sv_ext hlt, sv_ext_sv hlt]
  refine hR _ _ (kq1 _ _ ?_); clear hR R; try clear kq1 kz1
  try simp only [go_sem, ldS_at hd, stX_at hd, ldS_sv hlt, stX_sv hlt, sv_ext hlt, sv_ext_sv hlt]
  refine W_seq fun kz2 kq2 => ?_
  refine W_region [6] fun R hR => ?_   -- r1
  simp only [go_sem, ldS_at hd, stX_at hd, ldS_sv hlt, stX_sv hlt, sv_ext hlt, sv_ext_sv hlt]
  try simp (disch := omega) only [wrapI, wrapU]
  refine GCall_of (Roll_pc Y _ d b (by first | exact hd | exact sv_get hlt | exact get_svx hlt | exact get_extx hd) _ (by omega)) ?_   -- t13
  simp only [go_sem, ldS_at hd, stX_at hd, ldS_sv hlt, stX_sv hlt, sv_ext hlt, sv_ext_sv hlt]
  try simp (disch := omega) only [wrapI, wrapU]
  refine hR _ _ (kq2 _ _ ?_); clear hR R; try clear kq2 kz2
  try simp only [go_sem, ldS_at hd, stX_at hd, ldS_sv hlt, stX_sv hlt, sv_ext hlt, sv_ext_sv hlt]
  refine W_ret ?_
  simp only [go_sem, ldS_at hd, stX_at hd, ldS_sv hlt, stX_sv hlt, sv_ext hlt, sv_ext_sv hlt]
  refine ⟨.inr (by trivial), ?_⟩
  first | refine Fin_set hcl (by simp only [go_sem]) rfl (Wk_eq ?_ (by simp only [go_sem])) | refine Fin_set0 hcl (by simp only [go_sem]) rfl (Wk_eq ?_ (by simp only [go_sem]))
  try simp only [go_sem]
  all_goals
    first | rfl | (simp_all; done) | (simp_all; omega)
set_option maxHeartbeats 2000000 in
theorem Any_pc (Y : YEnv) (σ : Sg) (d : Nat) (b : Int) (hd : σ.store[d]? = some (some [.int .u64 b])) (l : List Int) (hl : l ≠ []) (hl2 : l.length < 2 ^ 50) :
    PC Tryz.prog Y 53 [.ptr d 0, .isl (l.map I) .exact] σ (I (anyOf l b).1) (σ.setVar d [.int .u64 (anyOf l b).2]) := by
  refine PC_of_W Tryz.func53 rfl (by kernel_rfl) Tryz.ntmps53 (by simp) fun hcl hca => ?_
  have hlt := lt_of_get hd
  have hr := roll_bd l.length b
  simp only [] at hr
  have hl0 : 0 < l.length := by cases l with | nil => exact absurd rfl hl | cons => simp
  have hlt2 : (roll (l.length : Int) b).1.toNat < l.length := by omega
  obtain ⟨x, hx⟩ : ∃ x, l[(roll (l.length : Int) b).1.toNat]? = some x := ⟨_, List.getElem?_eq_getElem hlt2⟩
  have hnn := hr.1
  refine W_seq fun kz1 kq1 => ?_
  refine W_region [0, 1] fun R hR => ?_   -- r0
  simp only [go_sem, ldS_at hd, stX_at hd, ldS_sv hlt, stX_sv hlt, sv_ext hlt, sv_ext_sv hlt]
  refine hR _ _ (kq1 _ _ ?_); clear hR R; try clear kq1 kz1
  try simp only [go_sem, ldS_at hd, stX_at hd, ldS_sv hlt, stX_sv hlt, sv_ext hlt, sv_ext_sv hlt]
  refine W_seq fun kz2 kq2 => ?_
  refine W_seq fun kz3 kq3 => ?_
  refine W_region [0, 1, 7] fun R hR => ?_   -- r1
  simp only [go_sem, ldS_at hd, stX_at hd, ldS_sv hlt, stX_sv hlt, sv_ext hlt, sv_ext_sv hlt]
  refine hR _ _ (kq3 _ _ ?_); clear hR R; try clear kq3 kz3
  try simp only [go_sem, ldS_at hd, stX_at hd, ldS_sv hlt, stX_sv hlt, sv_ext hlt, sv_ext_sv hlt]
  refine W_cond rfl (fun c1 => ?_) (fun c1 => ?_)
  · -- c1 true
    try simp only [nrm] at c1
    exfalso
    omega
  · -- c1 false
    try simp only [nrm] at c1
    refine W_skip (kq2 _ _ ?_)
    refine W_seq fun kz4 kq4 => ?_
    refine W_region [4] fun R hR => ?_   -- r3
    simp only [go_sem, ldS_at hd, stX_at hd, ldS_sv hlt, stX_sv hlt, sv_ext hlt, sv_ext_sv hlt, hnn, hx]
    refine GCall_of (Roll_pc Y _ d b (by first | exact hd | exact sv_get hlt | exact get_svx hlt | exact get_extx hd) _ (by omega)) ?_   -- t12
    simp only [go_sem, ldS_at hd, stX_at hd, ldS_sv hlt, stX_sv hlt, sv_ext hlt, sv_ext_sv hlt, hnn, hx]
    refine hR _ _ (kq4 _ _ ?_); clear hR R; try clear kq4 kz4
    try simp only [go_sem, ldS_at hd, stX_at hd, ldS_sv hlt, stX_sv hlt, sv_ext hlt, sv_ext_sv hlt]
    refine W_ret ?_
    simp only [go_sem, ldS_at hd, stX_at hd, ldS_sv hlt, stX_sv hlt, sv_ext hlt, sv_ext_sv hlt]
    refine ⟨.inr (by trivial), ?_⟩
    first | refine Fin_set hcl (by simp only [go_sem]) rfl (Wk_eq ?_ (by simp only [go_sem])) | refine Fin_set0 hcl (by simp only [go_sem]) rfl (Wk_eq ?_ (by simp only [go_sem]))
    try simp only [go_sem]
    all_goals
      simp only [anyOf, hx, Option.getD_some]
end Go.Proofs.YtgelnjmddabgpaaGreat
namespace Go.Proofs.YtgelnjmddabgpaaGreat
open Go Go.RowKit
set_option maxRecDepth 100000
def drumB : List Int → Int → Int
  | [], b => b
  | x :: r, b => drumB r (hitB (xorU b (IntKind.u64.wrap x)))
set_option maxHeartbeats 2000000 in
theorem DrumOf_pc (Y : YEnv) (σ : Sg) (nums : List Int) (hl : nums.length < 2 ^ 60) :
    PC Tryz.prog Y 11 [ints nums] σ (.ptr σ.store.length 0) (σ.ext [some [.int .u64 (drumB nums 2685821657736338717)]] []) := by
  refine PC_of_W Tryz.func11 rfl (by kernel_rfl) Tryz.ntmps11 (by simp) fun hcl hca => ?_
  refine W_seq fun kz1 kq1 => ?_
  refine W_region [0] fun R hR => ?_   -- r0
  simp only [go_sem]
  refine hR _ _ (kq1 _ _ ?_); clear hR R; try clear kq1 kz1
  try simp only [go_sem]
  refine W_seq fun kz2 kq2 => ?_
  refine W_region [0, 3] fun R hR => ?_   -- r1
  simp only [go_sem]
  refine hR _ _ (kq2 _ _ ?_); clear hR R; try clear kq2 kz2
  try simp only [go_sem]
  refine W_seq fun kz3 kq3 => ?_
  refine W_seq fun kz4 kq4 => ?_
  refine W_region [0, 3, 4] fun R hR => ?_   -- r2
  simp only [go_sem]
  refine hR _ _ (kq4 _ _ ?_); clear hR R; try clear kq4 kz4
  try simp only [go_sem]
  refine W_block ?_
  refine W_loopT (α := Nat × Int) (fun ⟨i, b⟩ => [(4, I i)]) (fun ⟨i, b⟩ => σ.ext [some [.int .u64 b]] []) (fun ⟨i, b⟩ => i ≤ nums.length ∧ drumB nums 2685821657736338717 = drumB (nums.drop i) b) (fun ⟨i, b⟩ => nums.length - i) ((0, 2685821657736338717)) rfl (by first | rfl | (simp only [go_sem]; done) | (simp only [go_sem]; rfl)) (⟨Nat.zero_le _, rfl⟩) ?_
  rintro ⟨i, b⟩ ⟨hi, hb⟩
  refine W_seq fun kz5 kq5 => ?_
  refine W_seq fun kz6 kq6 => ?_
  refine W_region [0, 3, 4, 10] fun R hR => ?_   -- r3
  simp only [go_sem]
  refine hR _ _ (kq6 _ _ ?_); clear hR R; try clear kq6 kz6
  try simp only [go_sem]
  refine W_cond rfl (fun c1 => ?_) (fun c1 => ?_)
  · -- c1 true
    try simp only [nrm] at c1
    have hi' : i < nums.length := by first | assumption | omega
    obtain ⟨x, hx⟩ : ∃ x, nums[i]? = some x := ⟨nums[i], by simp [hi']⟩
    have hdrop : nums.drop i = x :: nums.drop (i + 1) := by
      rw [List.drop_eq_getElem_cons hi']; congr 1; exact (List.getElem?_eq_some_iff.1 hx).2
    rw [hdrop] at hb
    simp only [drumB] at hb
    refine W_skip (kq5 _ _ ?_)
    refine W_seq fun kz7 kq7 => ?_
    refine W_block ?_
    refine W_seq fun kz8 kq8 => ?_
    refine W_draw [0, 3, 4] [0, 1, 2, 3, 4, 5, 6, 7, 8, 9, 10, 11, 12, 13] [] [[], [], [1], [1, 2], [1, 2, 3], [], [], [5, 6], [5, 6, 7], [5, 6, 7, 8], [1, 2, 3, 4, 5, 6, 7, 8, 9], [0, 1, 2, 3, 4, 5, 6, 7, 8, 9, 10], [0, 1, 2, 3, 4, 5, 6, 7, 8, 9, 10, 11], [0, 1, 2, 3, 4, 5, 6, 7, 8, 9, 10, 11, 12]] mixed (by kernel_rfl) fun R hR => ?_   -- r5
    simp only [go_sem, hx]
    try simp (disch := omega) only [wrapI, wrapU]
    try refine And.intro (by repeat' (first | refine And.intro ?_ ?_ | exact GOr_right (fun _ => by simp only [go_sem, hx]))) ?_
    refine hR _ _ (kq8 _ _ ?_); clear hR R; try clear kq8 kz8
    try simp only [go_sem, hx]
    refine W_region [0, 3, 4] fun R hR => ?_   -- r6
    simp only [go_sem, hx]
    refine GCall_of (hit_pc Y _ _ _ (Sg.get_ext0 _ _ _ _)) ?_   -- t27
    simp only [go_sem, hx]
    refine hR _ _ (kq7 _ _ ?_); clear hR R; try clear kq7 kz7
    try simp only [go_sem, hx]
    refine W_region [0, 3, 4] fun R hR => ?_   -- r4
    simp only [go_sem, hx]
    try simp (disch := omega) only [wrapI, wrapU]
    refine hR _ _ ?_; clear hR R
    try simp only [go_sem, hx]
    refine ⟨(i + 1, hitB (xorU b (IntKind.u64.wrap x))), ?_, by (try simp only []); omega, ?_⟩
    · exact Weak.eq (by rfl) (by simp only [xorU, go_sem]; simp (disch := omega) only [wrapU])
    · try dsimp only
      exact ⟨hi', hb⟩
  · -- c1 false
    try simp only [nrm] at c1
    have hdrop : nums.drop i = [] := List.drop_eq_nil_of_le (by omega)
    rw [hdrop] at hb
    simp only [drumB] at hb
    refine W_exit ?_
    simp only [go_sem]
    refine kq3 _ _ ?_
    refine W_seq fun kz9 kq9 => ?_
    refine W_region [2] fun R hR => ?_   -- r7
    simp only [go_sem]
    refine hR _ _ (kq9 _ _ ?_); clear hR R; try clear kq9 kz9
    try simp only [go_sem]
    refine W_ret ?_
    simp only [go_sem]
    refine ⟨.inr (by trivial), ?_⟩
    rw [hb]; exact Fin_ext 1 0 hcl rfl (Wk_eq rfl (by simp only [go_sem] <;> omega)) (by show CleanLs _ _ _ _; simp only [go_sem])
    try simp only [go_sem]
    all_goals
      skip
noncomputable def rare (n : Int) : D Bool := fun b => (decide ((roll n b).1 = 0), (roll n b).2)
set_option maxHeartbeats 2000000 in
theorem Rare_pc (Y : YEnv) (σ : Sg) (d : Nat) (b : Int) (hd : σ.store[d]? = some (some [.int .u64 b])) (n : Int) (hn : n < 2 ^ 62) :
    PC Tryz.prog Y 14 [.ptr d 0, I n] σ (.bool (rare n b).1) (σ.setVar d [.int .u64 (rare n b).2]) := by
  refine PC_of_W Tryz.func14 rfl (by kernel_rfl) Tryz.ntmps14 (by simp) fun hcl hca => ?_
  have hlt := lt_of_get hd
  refine W_seq fun kz1 kq1 => ?_
  refine W_region [0, 1] fun R hR => ?_   -- r0
  simp only [go_sem, ldS_at hd, stX_at hd, ldS_sv hlt, stX_sv hlt, sv_ext hlt, sv_ext_sv hlt]
  refine hR _ _ (kq1 _ _ ?_); clear hR R; try clear kq1 kz1
  try simp only [go_sem, ldS_at hd, stX_at hd, ldS_sv hlt, stX_sv hlt, sv_ext hlt, sv_ext_sv hlt]
  refine W_seq fun kz2 kq2 => ?_
  refine W_region [4] fun R hR => ?_   -- r1
  simp only [go_sem, ldS_at hd, stX_at hd, ldS_sv hlt, stX_sv hlt, sv_ext hlt, sv_ext_sv hlt]
  refine GCall_of (Roll_pc Y _ d b (by first | exact hd | exact sv_get hlt | exact get_svx hlt | exact get_extx hd) n hn) ?_   -- t7
  simp only [go_sem, ldS_at hd, stX_at hd, ldS_sv hlt, stX_sv hlt, sv_ext hlt, sv_ext_sv hlt]
  refine hR _ _ (kq2 _ _ ?_); clear hR R; try clear kq2 kz2
  try simp only [go_sem, ldS_at hd, stX_at hd, ldS_sv hlt, stX_sv hlt, sv_ext hlt, sv_ext_sv hlt]
  refine W_ret ?_
  simp only [go_sem, ldS_at hd, stX_at hd, ldS_sv hlt, stX_sv hlt, sv_ext hlt, sv_ext_sv hlt]
  refine ⟨.inr (by trivial), ?_⟩
  first | refine Fin_set hcl (by simp only [go_sem]) rfl (Wk_eq ?_ (by simp only [go_sem])) | refine Fin_set0 hcl (by simp only [go_sem]) rfl (Wk_eq ?_ (by simp only [go_sem]))
  try simp only [go_sem]
  all_goals
    congr 1
end Go.Proofs.YtgelnjmddabgpaaGreat
namespace Go.Proofs.YtgelnjmddabgpaaGreat
open Go Go.RowKit
set_option maxRecDepth 100000
/-- Two places exchanged. -/
def swapAt (l : List Int) (i k : Nat) : List Int := (l.set i ((l[k]?).getD 0)).set k ((l[i]?).getD 0)
theorem swapAt_len (l : List Int) (i k : Nat) : (swapAt l i k).length = l.length := by simp [swapAt]
theorem swapAt_perm {l : List Int} {i k : Nat} (hi : i < l.length) (hk : k < l.length) : (swapAt l i k).Perm l := by
  unfold swapAt
  rw [List.getElem?_eq_getElem hi, List.getElem?_eq_getElem hk]
  exact List.set_set_perm hi hk
noncomputable def orderA (n : Nat) : Nat → List Int → D (List Int)
  | 0, acc => dret acc
  | j + 1, acc => dbind (roll (((n - (j + 1) : Nat) : Int) + 1)) fun k => orderA n j (swapAt (acc ++ [((n - (j + 1) : Nat) : Int)]) (n - (j + 1)) k.toNat)
noncomputable def orderD (n : Nat) : D (List Int) := orderA n n []
theorem orderA_perm (n : Nat) : ∀ (j : Nat) (acc : List Int), j ≤ n → acc.Perm ((List.range (n - j)).map fun (i : Nat) => (i : Int)) → Holds (orderA n j acc) fun l => l.Perm ((List.range n).map fun (i : Nat) => (i : Int)) := by
  intro j
  induction j with
  | zero => intro acc _ h; exact .ret h
  | succ j ih =>
    intro acc hj h
    refine (roll_bd _).bind fun k hk => ih _ (by omega) ?_
    have hl : acc.length = n - (j + 1) := by rw [h.length_eq]; simp
    have hkl : k.toNat < (acc ++ [((n - (j + 1) : Nat) : Int)]).length := by simp; omega
    refine (swapAt_perm (by simp; omega) hkl).trans ?_
    have e : n - j = (n - (j + 1)) + 1 := by omega
    rw [e, List.range_succ, List.map_append]
    exact h.append_right _
theorem orderD_perm (n : Nat) : Holds (orderD n) fun l => l.Perm ((List.range n).map fun (i : Nat) => (i : Int)) := orderA_perm n n [] (Nat.le_refl _) (by simp)
theorem glI_of {l : List Int} {m : Nat} (h : l.length = m + 1) (n : Nat) : glI n l = .gsl (n + m) (m + 1) 1 := by
  cases l with
  | nil => simp at h
  | cons x l => simp only [List.length_cons] at h; simp only [glI]; rw [show l.length = m by omega]
theorem gsI_of {l : List Int} {m : Nat} (h : l.length = m + 1) : gsI l = List.replicate m none ++ [some (l.map I)] := by
  cases l with
  | nil => simp at h
  | cons x l => simp only [List.length_cons] at h; simp only [gsI]; rw [show l.length = m by omega]
theorem Weak.ungnilT {N : Nat} {lo : Nat × Nat} {E : Env} {σ : Sg} {t : Nat} (ht : E.get t = .gnil) : Weak N lo E σ (E.put (some t) (.isl [] .ro)) σ := by
  intro Ψ0 Ψ D a w hb le hr
  refine ⟨Ψ, le, hr.size, fun t' => ?_, hr.sg, hr.dsub, hr.defs⟩
  rw [get_put1]
  split
  · rename_i e
    subst e
    have hv := hr.env t'
    rw [ht] at hv
    exact VR.of_gnil hv
  · exact hr.env t'
/-- Read at last. -/
theorem Weak.readI {N : Nat} {lo : Nat × Nat} {E : Env} {σ : Sg} {t : Nat} {A : List (Option (List PV))} {rm : List Nat} {ys : List LState} {out : List Int} (ht : E.get t = glI (σ.store.length + A.length) out) :
    Weak N lo E (σ.ext (A ++ gsI out) rm ys) (E.put (some t) (ints out)) (σ.ext (A ++ List.replicate out.length none) rm ys) := by
  cases out with
  | nil =>
    have h := Weak.ungnilT (N := N) (lo := lo) (E := E) (σ := σ.ext A rm ys) (t := t) ht
    simp only [gsI, List.append_nil, List.length_nil, List.replicate_zero]
    exact h
  | cons z zs =>
    have h := Weak.freeze (N := N) (lo := lo) (E := E) (σ := σ.ext (A ++ gsI (z :: zs)) rm ys) (t := t) (id := σ.store.length + (A.length + zs.length)) (len := zs.length + 1) (es := 1) (l := (z :: zs).map I) (by rw [ht]; simp only [glI, Nat.add_assoc]) (by rw [Sg.get_ext, rowC_ints]; exact gsI_get) (by simp) (fun q hq => by obtain ⟨x, _, rfl⟩ := List.mem_map.1 hq; rfl)
    rw [Sg.drop_ext, gsI_set] at h
    have e : List.replicate (z :: zs).length (none : Option (List PV)) = List.replicate zs.length none ++ [none] := by simp [List.replicate_succ']
    rw [e]
    exact h
set_option maxHeartbeats 4000000 in
theorem Order_pc (Y : YEnv) (σ : Sg) (d : Nat) (b : Int) (hd : σ.store[d]? = some (some [.int .u64 b])) (n : Nat) (hn : n < 2 ^ 40) :
    PC Tryz.prog Y 54 [.ptr d 0, I n] σ (ints (orderD n b).1) (σ.setVar d [.int .u64 (orderD n b).2]) := by
  refine PC_of_W Tryz.func54 rfl (by kernel_rfl) Tryz.ntmps54 (by simp) fun hcl hca => ?_
  have hlt := lt_of_get hd
  obtain ⟨res, hres⟩ : ∃ r, orderD n b = r := ⟨_, rfl⟩
  rw [hres]
  refine W_seq fun kz1 kq1 => ?_
  refine W_region [0, 1] fun R hR => ?_   -- r0
  simp only [go_sem, ldS_at hd, stX_at hd, ldS_sv hlt, stX_sv hlt, sv_ext hlt, sv_ext_sv hlt]
  refine hR _ _ (kq1 _ _ ?_); clear hR R; try clear kq1 kz1
  try simp only [go_sem, ldS_at hd, stX_at hd, ldS_sv hlt, stX_sv hlt, sv_ext hlt, sv_ext_sv hlt]
  refine W_seq fun kz2 kq2 => ?_
  refine W_region [0, 1, 5] fun R hR => ?_   -- r1
  simp only [go_sem, ldS_at hd, stX_at hd, ldS_sv hlt, stX_sv hlt, sv_ext hlt, sv_ext_sv hlt]
  refine hR _ _ (kq2 _ _ ?_); clear hR R; try clear kq2 kz2
  try simp only [go_sem, ldS_at hd, stX_at hd, ldS_sv hlt, stX_sv hlt, sv_ext hlt, sv_ext_sv hlt]
  refine W_seq fun kz3 kq3 => ?_
  refine W_seq fun kz4 kq4 => ?_
  refine W_region [0, 1, 5, 6] fun R hR => ?_   -- r2
  simp only [go_sem, ldS_at hd, stX_at hd, ldS_sv hlt, stX_sv hlt, sv_ext hlt, sv_ext_sv hlt]
  refine hR _ _ (kq4 _ _ ?_); clear hR R; try clear kq4 kz4
  try simp only [go_sem, ldS_at hd, stX_at hd, ldS_sv hlt, stX_sv hlt, sv_ext hlt, sv_ext_sv hlt]
  refine W_block ?_
  refine W_weak (Weak.gnil (t := 5) rfl) ?_
  refine W_weak (Weak.keep [0, 1, 5, 6]) ?_
  simp only [go_sem]
  refine W_loopT (α := Nat × (List Int) × Int) (fun ⟨i, acc, b⟩ => [(5, glI σ.store.length acc), (6, I i)]) (fun ⟨i, acc, b⟩ => (σ.setVar d [.int .u64 b]).ext (gsI acc) []) (fun ⟨i, acc, b⟩ => i ≤ n ∧ acc.length = i ∧ res = orderA n (n - i) acc b) (fun ⟨i, acc, b⟩ => n - i) ((0, [], b)) rfl (by simp only [gsI, go_sem, sv_self hd]) (⟨Nat.zero_le _, rfl, hres.symm⟩) ?_
  rintro ⟨i, acc, b⟩ ⟨hi, hal, hinv⟩
  refine W_seq fun kz5 kq5 => ?_
  refine W_seq fun kz6 kq6 => ?_
  refine W_region [0, 1, 5, 6, 10] fun R hR => ?_   -- r3
  simp only [go_sem, ldS_at hd, stX_at hd, ldS_sv hlt, stX_sv hlt, sv_ext hlt, sv_ext_sv hlt]
  refine hR _ _ (kq6 _ _ ?_); clear hR R; try clear kq6 kz6
  try simp only [go_sem, ldS_at hd, stX_at hd, ldS_sv hlt, stX_sv hlt, sv_ext hlt, sv_ext_sv hlt]
  refine W_cond rfl (fun c1 => ?_) (fun c1 => ?_)
  · -- c1 true
    try simp only [nrm] at c1
    have hin : i < n := by first | omega | (simp at c1; omega)
    rw [show n - i = (n - (i + 1)) + 1 by omega] at hinv
    simp only [orderA, dbind] at hinv
    rw [show (n - (n - (i + 1) + 1) : Nat) = i by omega] at hinv
    have hkb := roll_bd ((i : Int) + 1) b
    obtain ⟨kz, hkz⟩ : ∃ z, (roll ((i : Int) + 1) b).1 = z := ⟨_, rfl⟩
    obtain ⟨b1, hb1⟩ : ∃ z, (roll ((i : Int) + 1) b).2 = z := ⟨_, rfl⟩
    simp only [hkz] at hkb
    obtain ⟨k, rfl⟩ : ∃ k : Nat, kz = k := ⟨kz.toNat, by omega⟩
    rw [hkz, hb1, Int.toNat_natCast] at hinv
    have hki : k < i + 1 := by omega
    have hL : (σ.setVar d [.int .u64 b1]).store.length = σ.store.length := sv_len
    have happ := appG_gl (σ := σ.setVar d [.int .u64 b1]) (A := []) (rm := []) (ys := []) (out := acc) (i : Int) (by omega)
    have hal2 : (acc ++ [(i : Int)]).length = i + 1 := by simp [hal]
    rw [glI_of hal2, gsI_of hal2] at happ
    obtain ⟨ac2, hac2⟩ : ∃ z, acc ++ [(i : Int)] = z := ⟨_, rfl⟩
    rw [hac2] at happ hal2 hinv
    simp only [go_sem, List.length_nil, hL] at happ
    obtain ⟨x, hx⟩ : ∃ z, ac2[i]? = some z := ⟨ac2[i]'(by omega), by simp⟩
    obtain ⟨y, hy⟩ : ∃ z, ac2[k]? = some z := ⟨ac2[k]'(by omega), by simp⟩
    have hsw : swapAt ac2 i k = (ac2.set i y).set k x := by simp only [swapAt, hx, hy, Option.getD_some]
    have hI1 : (i : Int) < ((i + 1 : Nat) : Int) := by omega
    have hI2 : (k : Int) < ((i + 1 : Nat) : Int) := by omega
    have hg1 : ∀ c : Option (List PV), (List.replicate i none ++ [c])[i]? = some c := fun c => by rw [List.getElem?_append_right (by simp)]; simp
    have hg2 : ∀ c c2 : Option (List PV), (List.replicate i none ++ [c]).set i c2 = List.replicate i none ++ [c2] := fun c c2 => by rw [List.set_append_right _ _ (by simp)]; simp
    have hm1 : i + 1 ≤ ac2.length := by omega
    have hm2 : k + 1 ≤ ac2.length := by omega
    have hsl : (swapAt ac2 i k).length = i + 1 := by rw [swapAt_len]; exact hal2
    refine W_skip (kq5 _ _ ?_)
    refine W_seq fun kz7 kq7 => ?_
    refine W_block ?_
    refine W_seq fun kz8 kq8 => ?_
    refine W_region [0, 1, 5, 6, 7] fun R hR => ?_   -- r5
    simp only [go_sem, ldS_at hd, stX_at hd, ldS_sv hlt, stX_sv hlt, sv_ext hlt, sv_ext_sv hlt, hkz, hb1, hL]
    try simp (disch := omega) only [wrapI, wrapU]
    refine GCall_of (Roll_pc Y _ d b (by first | exact hd | exact sv_get hlt | exact get_svx hlt | exact get_extx hd) ((i : Int) + 1) (by omega)) ?_   -- t16
    simp only [go_sem, ldS_at hd, stX_at hd, ldS_sv hlt, stX_sv hlt, sv_ext hlt, sv_ext_sv hlt, hkz, hb1, hL]
    try simp (disch := omega) only [wrapI, wrapU]
    refine hR _ _ (kq8 _ _ ?_); clear hR R; try clear kq8 kz8
    try simp only [go_sem, ldS_at hd, stX_at hd, ldS_sv hlt, stX_sv hlt, sv_ext hlt, sv_ext_sv hlt, hkz, hb1, hL]
    refine W_seq fun kz9 kq9 => ?_
    refine W_region [0, 1, 5, 6, 7] fun R hR => ?_   -- r6
    simp only [go_sem, ldS_at hd, stX_at hd, ldS_sv hlt, stX_sv hlt, sv_ext hlt, sv_ext_sv hlt, hkz, hb1, hL, happ]
    try simp (disch := first | omega | (simp only [go_sem] <;> omega)) only [wrapI, wrapU, appX_exact, appX_tok]
    try simp only [go_sem, ldS_at hd, stX_at hd, ldS_sv hlt, stX_sv hlt, sv_ext hlt, sv_ext_sv hlt, hkz, hb1, hL, happ]
    refine hR _ _ (kq9 _ _ ?_); clear hR R; try clear kq9 kz9
    try simp only [go_sem, ldS_at hd, stX_at hd, ldS_sv hlt, stX_sv hlt, sv_ext hlt, sv_ext_sv hlt, hkz, hb1, hL]
    refine W_draw [0, 1, 5, 6] [0, 1, 2, 3, 4, 5, 6, 7, 8, 9, 10, 11, 12, 13, 14, 15] [(2, 15), (3, 15)] [[], [], [], [], [], [], [4, 5], [4, 5, 6], [], [], [8, 9], [8, 9, 10], [0, 1, 4, 5, 6, 7, 8, 9, 10, 11], [0, 1, 4, 5, 6, 7, 8, 9, 10, 11, 12], [0, 1, 2, 3, 4, 5, 6, 7, 8, 9, 10, 11, 12, 13], [0, 1, 2, 3, 4, 5, 6, 7, 8, 9, 10, 11, 12, 13, 14]] mixed (by kernel_rfl) fun R hR => ?_   -- r7
    simp only [go_sem, ldS_at hd, stX_at hd, ldS_sv hlt, stX_sv hlt, sv_ext hlt, sv_ext_sv hlt, hkz, hb1, hL, hI1, hI2, iaM_nat (Int.ofNat_lt.1 hI1), iaM_nat (Int.ofNat_lt.1 hI2), Nat.mul_one, Nat.zero_add, hg1, hg2, hx, hy, hm1, hm2, List.getElem?_map, List.length_set]
    try refine And.intro (by repeat' (first | refine And.intro ?_ ?_ | exact GOr_right (fun _ => by simp only [go_sem, ldS_at hd, stX_at hd, ldS_sv hlt, stX_sv hlt, sv_ext hlt, sv_ext_sv hlt, hkz, hb1, hL, hI1, hI2, iaM_nat (Int.ofNat_lt.1 hI1), iaM_nat (Int.ofNat_lt.1 hI2), Nat.mul_one, Nat.zero_add, hg1, hg2, hx, hy, hm1, hm2, List.getElem?_map, List.length_set]))) ?_
    refine hR _ _ (kq7 _ _ ?_); clear hR R; try clear kq7 kz7
    try simp only [go_sem, ldS_at hd, stX_at hd, ldS_sv hlt, stX_sv hlt, sv_ext hlt, sv_ext_sv hlt, hkz, hb1, hL]
    refine W_region [0, 1, 5, 6] fun R hR => ?_   -- r4
    simp only [go_sem, ldS_at hd, stX_at hd, ldS_sv hlt, stX_sv hlt, sv_ext hlt, sv_ext_sv hlt, hkz, hb1, hL]
    try simp (disch := omega) only [wrapI, wrapU]
    refine hR _ _ ?_; clear hR R
    try simp only [go_sem, ldS_at hd, stX_at hd, ldS_sv hlt, stX_sv hlt, sv_ext hlt, sv_ext_sv hlt, hkz, hb1, hL]
    refine ⟨(i + 1, swapAt ac2 i k, b1), ?_, by (try simp only []); omega, ?_⟩
    · refine Weak.eq ?_ ?_
      · simp only [go_sem, glI_of hsl]
        first | done | rfl | simp
      · rw [gsI_of hsl, hsw]
    · try dsimp only
      exact ⟨by omega, hsl, by rw [hinv]⟩
  · -- c1 false
    try simp only [nrm] at c1
    have hie : n = i := by first | omega | (simp at c1; omega)
    subst hie
    rw [Nat.sub_self] at hinv
    simp only [orderA, dret] at hinv
    refine W_exit ?_
    simp only [go_sem, ldS_at hd, stX_at hd, ldS_sv hlt, stX_sv hlt, sv_ext hlt, sv_ext_sv hlt]
    refine kq3 _ _ ?_
    refine W_seq fun kz10 kq10 => ?_
    refine W_weak (Weak.readI (t := 5) (A := []) (out := acc) (by simp only [go_sem, sv_len])) ?_
    refine W_weak (Weak.keep [5]) ?_
    simp only [go_sem]
    refine W_region [4] fun R hR => ?_   -- r8
    simp only [go_sem, ldS_at hd, stX_at hd, ldS_sv hlt, stX_sv hlt, sv_ext hlt, sv_ext_sv hlt]
    refine hR _ _ (kq10 _ _ ?_); clear hR R; try clear kq10 kz10
    try simp only [go_sem, ldS_at hd, stX_at hd, ldS_sv hlt, stX_sv hlt, sv_ext hlt, sv_ext_sv hlt]
    refine W_ret ?_
    simp only [go_sem, ldS_at hd, stX_at hd, ldS_sv hlt, stX_sv hlt, sv_ext hlt, sv_ext_sv hlt]
    refine ⟨.inr (by trivial), ?_⟩
    rw [hinv]; refine Fin_set hcl (by simp only [go_sem]) rfl (Wk_eq rfl ?_)
    try simp only [go_sem]
    all_goals
      simp only [go_sem]
end Go.Proofs.YtgelnjmddabgpaaGreat
namespace Go.Proofs.YtgelnjmddabgpaaGreat
open Go Go.RowKit
set_option maxRecDepth 100000
theorem mem2 {a b r : Int} (h : r ∈ [a, b]) : r = a ∨ r = b := by simpa using h
theorem mem3 {a b c r : Int} (h : r ∈ [a, b, c]) : r = a ∨ r = b ∨ r = c := by simpa using h
noncomputable def scaleD (n : Int) : D Scale := dbind (mid 1 n) fun a => dbind (mid 1 3) fun mt => dbind (mid 1 3) fun jd => dbind (anyOf [0, 70, 98]) fun lo => dbind (roll jd) fun dr => dbind (anyOf [2, 30]) fun e => dbind (mid lo (min 100 (lo + e))) fun hi => dbind (orderD mt.toNat) fun od => dret ⟨a, mt, jd, dr, lo, hi, od⟩
theorem chkOrd_of {m : Int} : ∀ {l p : List Int}, (∀ x, x ∈ l → 0 ≤ x ∧ x ≤ m - 1) → l.Nodup → (∀ x, x ∈ l → x ∉ p) → chkOrd m p l = 0 := by
  intro l
  induction l with
  | nil => intro p _ _ _; rfl
  | cons n l ih =>
    intro p h1 h2 h3
    obtain ⟨a1, a2⟩ := List.nodup_cons.1 h2
    have hn := h1 n (by simp)
    have hin : inR n 0 (m - 1) = true := by rw [inR_true]; exact hn
    have hh : has p n = false := by
      cases h : has p n with
      | false => rfl
      | true => exact absurd (has_iff.1 h) (h3 n (by simp))
    simp only [chkOrd, hin, hh]
    refine ih (fun x hx => h1 x (by simp [hx])) a2 (fun x hx hp => ?_)
    rcases List.mem_append.1 hp with hp | hp
    · exact h3 x (by simp [hx]) hp
    · simp only [List.mem_singleton] at hp
      subst hp
      exact a1 hx
theorem nodup_range (n : Nat) : ((List.range n).map fun (i : Nat) => (i : Int)).Nodup := by
  rw [List.nodup_iff_pairwise_ne, List.pairwise_map]
  refine List.Pairwise.imp ?_ (List.nodup_range (n := n))
  intro a b h e
  exact h (by omega)
theorem order_ok {mt : Int} {od : List Int} (h : od.Perm ((List.range mt.toNat).map fun (i : Nat) => (i : Int))) : chkOrd mt [] od = 0 := by
  refine chkOrd_of (fun x hx => ?_) (h.nodup_iff.2 (nodup_range _)) (fun x _ hx => by cases hx)
  obtain ⟨i, hi, rfl⟩ := List.mem_map.1 (h.mem_iff.1 hx)
  have := List.mem_range.1 hi
  omega
theorem scaleD_ok (n : Int) (h1 : 1 ≤ n) (h2 : n ≤ 8) : Holds (scaleD n) fun s => chkSc s = 0 ∧ s.schools ≤ n ∧ s.matters ≤ 3 ∧ s.judges ≤ 3 := by
  unfold scaleD
  refine (mid_bd 1 n h1).bind fun a ha => (mid_bd 1 3 (by omega)).bind fun mt hmt => (mid_bd 1 3 (by omega)).bind fun jd hjd => (anyOf_mem [0, 70, 98] (by simp)).bind fun lo hlo => (roll_bd jd).bind fun dr hdr => (anyOf_mem [2, 30] (by simp)).bind fun e he => ?_
  have hlo' : 0 ≤ lo ∧ lo ≤ 98 := by rcases mem3 hlo with h | h | h <;> omega
  have he' : 2 ≤ e ∧ e ≤ 30 := by rcases mem2 he with h | h <;> omega
  refine (mid_bd lo (min 100 (lo + e)) (by omega)).bind fun hi hhi => (orderD_perm mt.toNat).bind fun od hod => .ret ⟨?_, by simp only []; omega, by simp only []; omega, by simp only []; omega⟩
  have hl : od.length = mt.toNat := by rw [hod.length_eq]; simp
  have hr : scRange ⟨a, mt, jd, dr, lo, hi, od⟩ = true := by
    simp only [scRange, Bool.and_eq_true, inR_true]
    omega
  unfold chkSc
  rw [hr]
  simp only [Bool.not_true, Bool.false_eq_true, if_false]
  rw [if_neg (by omega), if_neg (by omega)]
  exact order_ok hod
noncomputable def marksC (s : Scale) : Nat → List Int → D (List Int)
  | 0, acc => dret acc
  | k + 1, acc => dbind (mid s.low s.high) fun m => dbind (anyOf [s.low, s.high, m]) fun x => marksC s k (acc ++ [x])
noncomputable def marksD (s : Scale) : D (List Int) := marksC s s.schools.toNat []
theorem marksC_ok {s : Scale} (h : s.low ≤ s.high) : ∀ (k : Nat) (acc : List Int), (∀ x, x ∈ acc → s.low ≤ x ∧ x ≤ s.high) → Holds (marksC s k acc) fun l => l.length = acc.length + k ∧ ∀ x, x ∈ l → s.low ≤ x ∧ x ≤ s.high := by
  intro k
  induction k with
  | zero => intro acc ha; exact .ret ⟨rfl, ha⟩
  | succ k ih =>
    intro acc ha
    refine (mid_bd s.low s.high h).bind fun m hm => (anyOf_mem [s.low, s.high, m] (by simp)).bind fun x hx => (ih (acc ++ [x]) fun y hy => ?_).mono fun l hl => ⟨by rw [hl.1]; simp; omega, hl.2⟩
    rcases List.mem_append.1 hy with hy | hy
    · exact ha y hy
    · simp only [List.mem_singleton] at hy
      subst hy
      rcases mem3 hx with h | h | h <;> omega
theorem marksD_ok {s : Scale} (hv : s.V) : Holds (marksD s) fun l => (l.length : Int) = s.schools ∧ ∀ x, x ∈ l → s.low ≤ x ∧ x ≤ s.high := by
  have q := hv.sc
  exact (marksC_ok hv.lh s.schools.toNat [] (fun x hx => by cases hx)).mono fun l hl => ⟨by rw [hl.1]; simp; omega, hl.2⟩
def sealedE (s : Scale) (m j : Int) (l : List Int) : Envl := ⟨m, j, l, (sealAns s (m, j) l).1⟩
set_option maxHeartbeats 8000000 in
theorem ScaleOf_pc (Y : YEnv) (σ : Sg) (d : Nat) (b : Int) (hd : σ.store[d]? = some (some [.int .u64 b])) (n : Int) (h1 : 1 ≤ n) (h2 : n ≤ 8) :
    PC Tryz.prog Y 12 [.ptr d 0, I n] σ (scPV (scaleD n b).1) (σ.setVar d [.int .u64 (scaleD n b).2]) := by
  refine PC_of_W Tryz.func12 rfl (by kernel_rfl) Tryz.ntmps12 (by simp) fun hcl hca => ?_
  have hlt := lt_of_get hd
  obtain ⟨a, ha⟩ : ∃ zz, (mid 1 n b).1 = zz := ⟨_, rfl⟩
  obtain ⟨b1, hb1⟩ : ∃ zz, (mid 1 n b).2 = zz := ⟨_, rfl⟩
  have da := mid_bd 1 n h1 b
  simp only [ha] at da
  obtain ⟨mt, hmt⟩ : ∃ zz, (mid 1 3 b1).1 = zz := ⟨_, rfl⟩
  obtain ⟨b2, hb2⟩ : ∃ zz, (mid 1 3 b1).2 = zz := ⟨_, rfl⟩
  have dmt := mid_bd 1 3 (by omega) b1
  simp only [hmt] at dmt
  obtain ⟨jd, hjd⟩ : ∃ zz, (mid 1 3 b2).1 = zz := ⟨_, rfl⟩
  obtain ⟨b3, hb3⟩ : ∃ zz, (mid 1 3 b2).2 = zz := ⟨_, rfl⟩
  have djd := mid_bd 1 3 (by omega) b2
  simp only [hjd] at djd
  obtain ⟨lo, hlo⟩ : ∃ zz, (anyOf [0, 70, 98] b3).1 = zz := ⟨_, rfl⟩
  obtain ⟨b4, hb4⟩ : ∃ zz, (anyOf [0, 70, 98] b3).2 = zz := ⟨_, rfl⟩
  have dlo := anyOf_mem [0, 70, 98] (by simp) b3
  simp only [hlo] at dlo
  obtain ⟨dr, hdr⟩ : ∃ zz, (roll jd b4).1 = zz := ⟨_, rfl⟩
  obtain ⟨b5, hb5⟩ : ∃ zz, (roll jd b4).2 = zz := ⟨_, rfl⟩
  have ddr := roll_bd jd b4
  simp only [hdr] at ddr
  obtain ⟨e, he⟩ : ∃ zz, (anyOf [2, 30] b5).1 = zz := ⟨_, rfl⟩
  obtain ⟨b6, hb6⟩ : ∃ zz, (anyOf [2, 30] b5).2 = zz := ⟨_, rfl⟩
  have de := anyOf_mem [2, 30] (by simp) b5
  simp only [he] at de
  have hlo' : 0 ≤ lo ∧ lo ≤ 98 := by rcases mem3 dlo with h | h | h <;> omega
  have he' : 2 ≤ e ∧ e ≤ 30 := by rcases mem2 de with h | h <;> omega
  obtain ⟨mtn, hmtn⟩ : ∃ z : Nat, mt = z := ⟨mt.toNat, by omega⟩
  subst hmtn
  obtain ⟨hi, hhi⟩ : ∃ zz, (mid lo (min 100 (lo + e)) b6).1 = zz := ⟨_, rfl⟩
  obtain ⟨b7, hb7⟩ : ∃ zz, (mid lo (min 100 (lo + e)) b6).2 = zz := ⟨_, rfl⟩
  have dhi := mid_bd lo (min 100 (lo + e)) (by omega) b6
  simp only [hhi] at dhi
  obtain ⟨od, hod⟩ : ∃ zz, (orderD mtn b7).1 = zz := ⟨_, rfl⟩
  obtain ⟨b8, hb8⟩ : ∃ zz, (orderD mtn b7).2 = zz := ⟨_, rfl⟩
  have dod := orderD_perm mtn b7
  simp only [hod] at dod
  have hmin : (if (100 : Int) ≤ lo + e then 100 else lo + e) = min 100 (lo + e) := by split <;> omega
  have hres : scaleD n b = (⟨a, mtn, jd, dr, lo, hi, od⟩, b8) := by
    simp only [scaleD, dbind, ha, hb1, hmt, hb2, hjd, hb3, hlo, hb4, hdr, hb5, he, hb6, hhi, hb7, Int.toNat_natCast, hod, hb8, dret]
  rw [hres]
  refine W_seq fun kz1 kq1 => ?_
  refine W_region [0, 1, 4] fun R hR => ?_   -- r0
  simp only [go_sem, ldS_at hd, stX_at hd, ldS_sv hlt, stX_sv hlt, sv_ext hlt, sv_ext_sv hlt, ha, hb1, hmt, hb2, hjd, hb3, hlo, hb4, hdr, hb5, he, hb6, hhi, hb7, hod, hb8]
  refine hR _ _ (kq1 _ _ ?_); clear hR R; try clear kq1 kz1
  try simp only [go_sem, ldS_at hd, stX_at hd, ldS_sv hlt, stX_sv hlt, sv_ext hlt, sv_ext_sv hlt, ha, hb1, hmt, hb2, hjd, hb3, hlo, hb4, hdr, hb5, he, hb6, hhi, hb7, hod, hb8]
  refine W_seq fun kz2 kq2 => ?_
  refine W_region [0, 4, 5] fun R hR => ?_   -- r1
  simp only [go_sem, ldS_at hd, stX_at hd, ldS_sv hlt, stX_sv hlt, sv_ext hlt, sv_ext_sv hlt, ha, hb1, hmt, hb2, hjd, hb3, hlo, hb4, hdr, hb5, he, hb6, hhi, hb7, hod, hb8]
  refine GCall_of (Mid_pc Y _ d b (by first | exact hd | exact sv_get hlt | exact get_svx hlt | exact get_extx hd) 1 n (by omega) (by omega) (by omega) (by omega)) ?_   -- t8
  simp only [go_sem, ldS_at hd, stX_at hd, ldS_sv hlt, stX_sv hlt, sv_ext hlt, sv_ext_sv hlt, ha, hb1, hmt, hb2, hjd, hb3, hlo, hb4, hdr, hb5, he, hb6, hhi, hb7, hod, hb8]
  refine GCall_of (Mid_pc Y _ d b1 (by first | exact hd | exact sv_get hlt | exact get_svx hlt | exact get_extx hd) 1 3 (by omega) (by omega) (by omega) (by omega)) ?_   -- t10
  simp only [go_sem, ldS_at hd, stX_at hd, ldS_sv hlt, stX_sv hlt, sv_ext hlt, sv_ext_sv hlt, ha, hb1, hmt, hb2, hjd, hb3, hlo, hb4, hdr, hb5, he, hb6, hhi, hb7, hod, hb8]
  refine GCall_of (Mid_pc Y _ d b2 (by first | exact hd | exact sv_get hlt | exact get_svx hlt | exact get_extx hd) 1 3 (by omega) (by omega) (by omega) (by omega)) ?_   -- t12
  simp only [go_sem, ldS_at hd, stX_at hd, ldS_sv hlt, stX_sv hlt, sv_ext hlt, sv_ext_sv hlt, ha, hb1, hmt, hb2, hjd, hb3, hlo, hb4, hdr, hb5, he, hb6, hhi, hb7, hod, hb8]
  refine GCall_of (Any_pc Y _ d b3 (by first | exact hd | exact sv_get hlt | exact get_svx hlt | exact get_extx hd) [0, 70, 98] (by simp) (by simp)) ?_   -- t15
  simp only [go_sem, ldS_at hd, stX_at hd, ldS_sv hlt, stX_sv hlt, sv_ext hlt, sv_ext_sv hlt, ha, hb1, hmt, hb2, hjd, hb3, hlo, hb4, hdr, hb5, he, hb6, hhi, hb7, hod, hb8]
  refine hR _ _ (kq2 _ _ ?_); clear hR R; try clear kq2 kz2
  try simp only [go_sem, ldS_at hd, stX_at hd, ldS_sv hlt, stX_sv hlt, sv_ext hlt, sv_ext_sv hlt, ha, hb1, hmt, hb2, hjd, hb3, hlo, hb4, hdr, hb5, he, hb6, hhi, hb7, hod, hb8]
  refine W_seq fun kz3 kq3 => ?_
  have hmin2 : min (100 : Int) (lo + e) = min 100 (lo + e) := rfl
  refine W_draw [4, 5] [0, 1, 2, 3, 4, 5, 6, 7, 8, 9, 10, 11, 12, 13, 14, 15, 16, 17, 18, 19, 20, 21, 22, 23, 24] [(4, 3), (4, 14), (5, 3), (5, 14), (6, 3), (6, 14), (7, 3), (7, 14), (8, 3), (8, 14), (9, 3), (10, 3), (15, 3), (15, 11), (15, 14), (16, 3), (16, 11), (16, 14), (17, 3), (17, 11), (17, 14), (19, 11), (19, 14), (19, 18)] [[], [], [1], [0, 1, 2], [], [], [5], [], [7], [], [], [0, 1, 2, 3, 9, 10], [0, 1, 2, 3, 7, 8, 9, 10, 11], [0, 1, 2, 3, 7, 8, 9, 10, 11, 12], [0, 1, 2, 3, 4, 5, 6, 7, 8, 9, 10, 11, 12, 13], [], [], [16], [0, 1, 2, 3, 4, 5, 6, 7, 8, 9, 10, 11, 12, 13, 14, 15, 16, 17], [0, 1, 2, 3, 5, 6, 7, 8, 16, 17], [0, 1, 2, 3, 4, 5, 6, 7, 8, 9, 10, 11, 12, 13, 14, 15, 16, 17, 18, 19], [0, 1, 2, 3, 4, 5, 6, 7, 8, 9, 10, 11, 12, 13, 14, 15, 16, 17, 18, 19, 20], [0, 1, 2, 3, 4, 5, 6, 7, 8, 9, 10, 11, 12, 13, 14, 15, 16, 17, 18, 19, 20, 21], [0, 1, 2, 3, 4, 5, 6, 7, 8, 9, 10, 11, 12, 13, 14, 15, 16, 17, 18, 19, 20, 21, 22], [0, 1, 2, 3, 4, 5, 6, 7, 8, 9, 10, 11, 12, 13, 14, 15, 16, 17, 18, 19, 20, 21, 22, 23]] mixed (by kernel_rfl) fun R hR => ?_   -- r2
  simp only [go_sem, ldS_at hd, stX_at hd, ldS_sv hlt, stX_sv hlt, sv_ext hlt, sv_ext_sv hlt, ha, hb1, hmt, hb2, hjd, hb3, hlo, hb4, hdr, hb5, he, hb6, hhi, hb7, hod, hb8]
  refine GCall_of (Roll_pc Y _ d b4 (by first | exact hd | exact sv_get hlt | exact get_svx hlt | exact get_extx hd) jd (by omega)) ?_   -- t20
  simp only [go_sem, ldS_at hd, stX_at hd, ldS_sv hlt, stX_sv hlt, sv_ext hlt, sv_ext_sv hlt, ha, hb1, hmt, hb2, hjd, hb3, hlo, hb4, hdr, hb5, he, hb6, hhi, hb7, hod, hb8]
  refine GCall_of (Any_pc Y _ d b5 (by first | exact hd | exact sv_get hlt | exact get_svx hlt | exact get_extx hd) [2, 30] (by simp) (by simp)) ?_   -- t28
  simp only [go_sem, ldS_at hd, stX_at hd, ldS_sv hlt, stX_sv hlt, sv_ext hlt, sv_ext_sv hlt, ha, hb1, hmt, hb2, hjd, hb3, hlo, hb4, hdr, hb5, he, hb6, hhi, hb7, hod, hb8]
  try simp (disch := omega) only [wrapI]
  try simp only [hmin, hmin2]
  try simp (disch := omega) only [wrapI, wrapU]
  refine GCall_of (Mid_pc Y _ d b6 (by first | exact hd | exact sv_get hlt | exact get_svx hlt | exact get_extx hd) lo (min 100 (lo + e)) (by omega) (by omega) (by omega) (by omega)) ?_   -- t31
  simp only [go_sem, ldS_at hd, stX_at hd, ldS_sv hlt, stX_sv hlt, sv_ext hlt, sv_ext_sv hlt, ha, hb1, hmt, hb2, hjd, hb3, hlo, hb4, hdr, hb5, he, hb6, hhi, hb7, hod, hb8]
  try simp (disch := omega) only [wrapI, wrapU]
  refine GCall_of (Order_pc Y _ d b7 (by first | exact hd | exact sv_get hlt | exact get_svx hlt | exact get_extx hd) mtn (by omega)) ?_   -- t35
  simp only [go_sem, ldS_at hd, stX_at hd, ldS_sv hlt, stX_sv hlt, sv_ext hlt, sv_ext_sv hlt, ha, hb1, hmt, hb2, hjd, hb3, hlo, hb4, hdr, hb5, he, hb6, hhi, hb7, hod, hb8]
  try simp (disch := omega) only [wrapI, wrapU]
  try refine And.intro (by repeat' (first | refine And.intro ?_ ?_ | exact GOr_right (fun _ => by simp only [go_sem, ldS_at hd, stX_at hd, ldS_sv hlt, stX_sv hlt, sv_ext hlt, sv_ext_sv hlt, ha, hb1, hmt, hb2, hjd, hb3, hlo, hb4, hdr, hb5, he, hb6, hhi, hb7, hod, hb8]))) ?_
  refine hR _ _ (kq3 _ _ ?_); clear hR R; try clear kq3 kz3
  try simp only [go_sem, ldS_at hd, stX_at hd, ldS_sv hlt, stX_sv hlt, sv_ext hlt, sv_ext_sv hlt, ha, hb1, hmt, hb2, hjd, hb3, hlo, hb4, hdr, hb5, he, hb6, hhi, hb7, hod, hb8]
  refine W_seq fun kz4 kq4 => ?_
  refine W_region [4] fun R hR => ?_   -- r3
  simp only [go_sem, ldS_at hd, stX_at hd, ldS_sv hlt, stX_sv hlt, sv_ext hlt, sv_ext_sv hlt, ha, hb1, hmt, hb2, hjd, hb3, hlo, hb4, hdr, hb5, he, hb6, hhi, hb7, hod, hb8]
  refine hR _ _ (kq4 _ _ ?_); clear hR R; try clear kq4 kz4
  try simp only [go_sem, ldS_at hd, stX_at hd, ldS_sv hlt, stX_sv hlt, sv_ext hlt, sv_ext_sv hlt, ha, hb1, hmt, hb2, hjd, hb3, hlo, hb4, hdr, hb5, he, hb6, hhi, hb7, hod, hb8]
  refine W_ret ?_
  simp only [go_sem, ldS_at hd, stX_at hd, ldS_sv hlt, stX_sv hlt, sv_ext hlt, sv_ext_sv hlt, ha, hb1, hmt, hb2, hjd, hb3, hlo, hb4, hdr, hb5, he, hb6, hhi, hb7, hod, hb8]
  refine ⟨.inr (by trivial), ?_⟩
  first | refine Fin_set hcl (by simp only [go_sem]) (by show resPV Tryz.prog _ _ [.cell 4 24] = some _; simp only [resPV, go_sem]; rfl) (Wk_eq ?_ (by simp only [go_sem])) | refine Fin_set0 hcl (by simp only [go_sem]) (by show resPV Tryz.prog _ _ [.cell 4 24] = some _; simp only [resPV, go_sem]; rfl) (Wk_eq ?_ (by simp only [go_sem]))
  try simp only [go_sem]
  all_goals
    skip
set_option maxHeartbeats 2000000 in
theorem MarksOf_pc (Y : YEnv) (σ : Sg) (d : Nat) (b : Int) (hd : σ.store[d]? = some (some [.int .u64 b])) (s : Scale) (hv : s.V) :
    PC Tryz.prog Y 37 [.ptr d 0, scPV s] σ (ints (marksD s b).1) (σ.setVar d [.int .u64 (marksD s b).2]) := by
  refine PC_of_W Tryz.func37 rfl (by kernel_rfl) Tryz.ntmps37 (by simp) fun hcl hca => ?_
  have hlt := lt_of_get hd
  have q3 := hv.sc
  have q4 := hv.lo
  have q5 := hv.hi
  have q6 := hv.lh
  obtain ⟨N, hN⟩ : ∃ z : Nat, s.schools = z := ⟨s.schools.toNat, by omega⟩
  have hNi : (s.schools : Int) = (N : Int) := hN
  obtain ⟨res, hres⟩ : ∃ r, marksD s b = r := ⟨_, rfl⟩
  rw [hres]
  unfold marksD at hres
  rw [hN, Int.toNat_natCast] at hres
  refine W_seq fun kz1 kq1 => ?_
  refine W_region [0, 3] fun R hR => ?_   -- r0
  simp only [go_sem, ldS_at hd, stX_at hd, ldS_sv hlt, stX_sv hlt, sv_ext hlt, sv_ext_sv hlt]
  refine hR _ _ (kq1 _ _ ?_); clear hR R; try clear kq1 kz1
  try simp only [go_sem, ldS_at hd, stX_at hd, ldS_sv hlt, stX_sv hlt, sv_ext hlt, sv_ext_sv hlt]
  refine W_seq fun kz2 kq2 => ?_
  refine W_region [0, 3, 5] fun R hR => ?_   -- r1
  simp only [go_sem, ldS_at hd, stX_at hd, ldS_sv hlt, stX_sv hlt, sv_ext hlt, sv_ext_sv hlt]
  refine hR _ _ (kq2 _ _ ?_); clear hR R; try clear kq2 kz2
  try simp only [go_sem, ldS_at hd, stX_at hd, ldS_sv hlt, stX_sv hlt, sv_ext hlt, sv_ext_sv hlt]
  refine W_seq fun kz3 kq3 => ?_
  refine W_seq fun kz4 kq4 => ?_
  refine W_region [0, 3, 5, 6] fun R hR => ?_   -- r2
  simp only [go_sem, ldS_at hd, stX_at hd, ldS_sv hlt, stX_sv hlt, sv_ext hlt, sv_ext_sv hlt]
  refine hR _ _ (kq4 _ _ ?_); clear hR R; try clear kq4 kz4
  try simp only [go_sem, ldS_at hd, stX_at hd, ldS_sv hlt, stX_sv hlt, sv_ext hlt, sv_ext_sv hlt]
  refine W_block ?_
  refine W_weak (Weak.room (t := 5) (es := 1) rfl (by simp)) ?_
  refine W_weak (Weak.keep [0, 3, 5, 6]) ?_
  simp only [go_sem, ldS_at hd, stX_at hd, ldS_sv hlt, stX_sv hlt, sv_ext hlt, sv_ext_sv hlt]
  refine W_loopT (α := Nat × (List Int) × Int) (fun ⟨i, acc, b⟩ => [(5, .isl (acc.map I) (.tok σ.rooms.length acc.length 1)), (6, I i)]) (fun ⟨i, acc, b⟩ => (σ.setVar d [.int .u64 b]).ext [some (scCells s)] [acc.length]) (fun ⟨i, acc, b⟩ => i ≤ N ∧ acc.length = i ∧ res = marksC s (N - i) acc b) (fun ⟨i, acc, b⟩ => N - i) ((0, [], b)) rfl (by simp only [go_sem, sv_self hd]) (⟨Nat.zero_le _, rfl, hres.symm⟩) ?_
  rintro ⟨i, acc, b⟩ ⟨hi, hal, hinv⟩
  refine W_seq fun kz5 kq5 => ?_
  refine W_seq fun kz6 kq6 => ?_
  refine W_region [0, 3, 5, 6, 10] fun R hR => ?_   -- r3
  simp only [go_sem, ldS_at hd, stX_at hd, ldS_sv hlt, stX_sv hlt, sv_ext hlt, sv_ext_sv hlt]
  refine hR _ _ (kq6 _ _ ?_); clear hR R; try clear kq6 kz6
  try simp only [go_sem, ldS_at hd, stX_at hd, ldS_sv hlt, stX_sv hlt, sv_ext hlt, sv_ext_sv hlt]
  refine W_cond rfl (fun c1 => ?_) (fun c1 => ?_)
  · -- c1 true
    try simp only [nrm] at c1
    have hiN : i < N := by first | omega | (simp at c1; omega)
    rw [show N - i = (N - (i + 1)) + 1 by omega] at hinv
    simp only [marksC, dbind] at hinv
    obtain ⟨m, hm⟩ : ∃ zz, (mid s.low s.high b).1 = zz := ⟨_, rfl⟩
    obtain ⟨b1, hb1⟩ : ∃ zz, (mid s.low s.high b).2 = zz := ⟨_, rfl⟩
    have dm := mid_bd s.low s.high q6 b
    simp only [hm] at dm
    obtain ⟨x, hx⟩ : ∃ zz, (anyOf [s.low, s.high, m] b1).1 = zz := ⟨_, rfl⟩
    obtain ⟨b2, hb2⟩ : ∃ zz, (anyOf [s.low, s.high, m] b1).2 = zz := ⟨_, rfl⟩
    simp only [hm, hb1, hx, hb2] at hinv
    refine W_skip (kq5 _ _ ?_)
    refine W_seq fun kz7 kq7 => ?_
    refine W_block ?_
    refine W_draw [0, 3, 5, 6] [0, 1, 2, 3, 4, 5, 6, 7, 8, 9, 10, 11, 12, 13, 14, 15, 16] [(0, 13), (0, 15), (1, 13), (2, 13), (3, 13), (4, 13), (5, 13)] [[], [], [], [2], [], [4], [], [], [7], [], [9], [6, 7, 8, 9, 10], [2, 3, 4, 5, 6, 7, 8, 9, 10, 11], [1, 2, 3, 4, 5, 6, 7, 8, 9, 10, 11, 12], [1, 2, 3, 4, 5, 6, 7, 8, 9, 10, 11, 12, 13], [0, 1, 2, 3, 4, 5, 6, 7, 8, 9, 10, 11, 12, 13, 14], [0, 1, 2, 3, 4, 5, 6, 7, 8, 9, 10, 11, 12, 13, 14, 15]] mixed (by kernel_rfl) fun R hR => ?_   -- r5
    simp only [go_sem, ldS_at hd, stX_at hd, ldS_sv hlt, stX_sv hlt, sv_ext hlt, sv_ext_sv hlt, hm, hb1, hx, hb2]
    refine GCall_of (Mid_pc Y _ d b (by first | exact hd | exact sv_get hlt | exact get_svx hlt | exact get_extx hd) s.low s.high (by omega) (by omega) (by omega) (by omega)) ?_   -- t24
    simp only [go_sem, ldS_at hd, stX_at hd, ldS_sv hlt, stX_sv hlt, sv_ext hlt, sv_ext_sv hlt, hm, hb1, hx, hb2]
    refine GCall_of (Any_pc Y _ d b1 (by first | exact hd | exact sv_get hlt | exact get_svx hlt | exact get_extx hd) [s.low, s.high, m] (by simp) (by simp)) ?_   -- t26
    simp only [go_sem, ldS_at hd, stX_at hd, ldS_sv hlt, stX_sv hlt, sv_ext hlt, sv_ext_sv hlt, hm, hb1, hx, hb2]
    try simp (disch := first | omega | (simp only [go_sem] <;> omega)) only [wrapI, wrapU, appX_exact, appX_tok]
    try simp only [go_sem, ldS_at hd, stX_at hd, ldS_sv hlt, stX_sv hlt, sv_ext hlt, sv_ext_sv hlt, hm, hb1, hx, hb2]
    try refine And.intro (by repeat' (first | refine And.intro ?_ ?_ | exact GOr_right (fun _ => by simp only [go_sem, ldS_at hd, stX_at hd, ldS_sv hlt, stX_sv hlt, sv_ext hlt, sv_ext_sv hlt, hm, hb1, hx, hb2]))) ?_
    refine hR _ _ (kq7 _ _ ?_); clear hR R; try clear kq7 kz7
    try simp only [go_sem, ldS_at hd, stX_at hd, ldS_sv hlt, stX_sv hlt, sv_ext hlt, sv_ext_sv hlt, hm, hb1, hx, hb2]
    refine W_region [0, 3, 5, 6] fun R hR => ?_   -- r4
    simp only [go_sem, ldS_at hd, stX_at hd, ldS_sv hlt, stX_sv hlt, sv_ext hlt, sv_ext_sv hlt, hm, hb1, hx, hb2]
    try simp (disch := omega) only [wrapI, wrapU]
    refine hR _ _ ?_; clear hR R
    try simp only [go_sem, ldS_at hd, stX_at hd, ldS_sv hlt, stX_sv hlt, sv_ext hlt, sv_ext_sv hlt, hm, hb1, hx, hb2]
    refine ⟨(i + 1, acc ++ [x], b2), ?_, by (try simp only []); omega, ?_⟩
    · first | exact Weak.refl | exact Weak.eq (by first | rfl | (simp only [go_sem]; done) | (simp only [go_sem]; rfl) | (simp [go_sem]; done) | (simp [go_sem]; omega)) (by first | rfl | (simp only [go_sem]; done) | (simp [go_sem]; done))
    · try dsimp only
      exact ⟨by omega, by simp [hal], hinv⟩
  · -- c1 false
    try simp only [nrm] at c1
    have hie : N = i := by first | omega | (simp at c1; omega)
    subst hie
    rw [Nat.sub_self] at hinv
    simp only [marksC, dret] at hinv
    refine W_exit ?_
    simp only [go_sem, ldS_at hd, stX_at hd, ldS_sv hlt, stX_sv hlt, sv_ext hlt, sv_ext_sv hlt]
    refine kq3 _ _ ?_
    refine W_seq fun kz8 kq8 => ?_
    refine W_region [4] fun R hR => ?_   -- r6
    simp only [go_sem, ldS_at hd, stX_at hd, ldS_sv hlt, stX_sv hlt, sv_ext hlt, sv_ext_sv hlt]
    refine hR _ _ (kq8 _ _ ?_); clear hR R; try clear kq8 kz8
    try simp only [go_sem, ldS_at hd, stX_at hd, ldS_sv hlt, stX_sv hlt, sv_ext hlt, sv_ext_sv hlt]
    refine W_ret ?_
    simp only [go_sem, ldS_at hd, stX_at hd, ldS_sv hlt, stX_sv hlt, sv_ext hlt, sv_ext_sv hlt]
    refine ⟨.inr (by trivial), ?_⟩
    rw [hinv]; refine Fin_set hcl (by simp only [go_sem]) rfl (Wk.ro (by simp only [go_sem]) ?_)
    try simp only [go_sem]
    all_goals
      simp only [go_sem]
set_option maxHeartbeats 2000000 in
theorem Sealed_pc (Y : YEnv) (σ : Sg) (s : Scale) (m j : Int) (l : List Int) (hl : l.length < 2 ^ 40) (hs : s.Ok) :
    PC Tryz.prog Y 55 [scPV s, I m, I j, ints l] σ (evPV (sealedE s m j l)) (σ) := by
  refine PC_of_W Tryz.func55 rfl (by kernel_rfl) Tryz.ntmps55 (by simp) fun hcl hca => ?_
  refine W_seq fun kz1 kq1 => ?_
  refine W_region [1, 2, 3, 4, 8] fun R hR => ?_   -- r0
  simp only [go_sem, sealedE]
  refine hR _ _ (kq1 _ _ ?_); clear hR R; try clear kq1 kz1
  try simp only [go_sem, sealedE]
  refine W_seq fun kz2 kq2 => ?_
  refine W_region [1, 2, 3, 8, 9] fun R hR => ?_   -- r1
  simp only [go_sem, sealedE]
  refine GCall_of (rSeal_pc Y _ s m j l .ro hl hs) ?_   -- t16
  simp only [go_sem, sealedE]
  refine hR _ _ (kq2 _ _ ?_); clear hR R; try clear kq2 kz2
  try simp only [go_sem, sealedE]
  refine W_seq fun kz3 kq3 => ?_
  refine W_region [8] fun R hR => ?_   -- r2
  simp only [go_sem, sealedE]
  refine hR _ _ (kq3 _ _ ?_); clear hR R; try clear kq3 kz3
  try simp only [go_sem, sealedE]
  refine W_ret ?_
  simp only [go_sem, sealedE]
  refine ⟨.inr (by trivial), ?_⟩
  first | refine Fin_same hcl (by show resPV Tryz.prog _ _ [.cell 8 51] = some _; simp only [resPV, go_sem]; rfl) (Wk_eq ?_ (by simp only [go_sem])) | refine Fin_same hcl rfl (Wk_eq ?_ (by simp only [go_sem]))
  try simp only [go_sem]
  all_goals
    first | rfl | simp [sealedE]
end Go.Proofs.YtgelnjmddabgpaaGreat
namespace Go.Proofs.YtgelnjmddabgpaaGreat
open Go Go.RowKit
set_option maxRecDepth 100000
theorem W_regionT {P : Program} {Y : YEnv} {N : Nat} {rd : Option Nat} {lo : Nat × Nat} {id : Nat} {ops : Array Oper} {E : Env} {σ : Sg} {Q : Exit → Env → Sg → Prop} (ks : List Nat) (upd : Env) (σ' : Sg)
    (rest : Q .normal (keep ks (upd ++ E)) σ') (h : ∀ K : Env → Sg → Prop, (∀ E' ρ, keep ks E' = keep ks (upd ++ E) → ρ = σ' → K E' ρ) → GL P Y N ops ops.toList E σ K) : W P Y N rd lo (.region id ops false) E σ Q :=
  W_region ks fun K hK => h K fun E' ρ e e2 => hK E' ρ (by rw [e, e2]; exact rest)
theorem ite_at {α β : Type} {c : Prop} [Decidable c] {f g : α → β} {x : α} : (if c then f else g) x = if c then f x else g x := by split <;> rfl
abbrev Rows2 := List Envl × List (Int × Int)
noncomputable def nightJ (s : Scale) (dec : Bool) (J m : Nat) : Nat → Int → List Envl → List (Int × Int) → D Rows2
  | 0, _, op, ab => dret (op, ab)
  | k + 1, here, op, ab => dbind (rare 5) fun a =>
    if a = true ∧ (0 < here ∨ ((J - (k + 1) : Nat) : Int) < (J : Int) - 1) then nightJ s dec J m k here op (ab ++ [((m : Int), ((J - (k + 1) : Nat) : Int))])
    else if dec = true then dbind (marksD s) fun l => nightJ s dec J m k (here + 1) (op ++ [sealedE s m ((J - (k + 1) : Nat) : Int) l]) ab
    else dbind (rare 3) fun r => if r = true then nightJ s dec J m k (here + 1) op ab else dbind (marksD s) fun l => nightJ s dec J m k (here + 1) (op ++ [sealedE s m ((J - (k + 1) : Nat) : Int) l]) ab
noncomputable def nightM (s : Scale) (dec : Bool) (M J : Nat) : Nat → List Envl → List (Int × Int) → D Rows2
  | 0, op, ab => dret (op, ab)
  | k + 1, op, ab => dbind (nightJ s dec J (M - (k + 1)) J 0 op ab) fun p => nightM s dec M J k p.1 p.2
noncomputable def finesC (sc : Int) : Nat → List (Int × Int) → D (List (Int × Int))
  | 0, fi => dret fi
  | k + 1, fi => dbind (roll sc) fun a => dbind (anyOf [3, 100]) fun y => dbind (roll y) fun p => finesC sc k (fi ++ [(a, p)])
noncomputable def finesD (sc : Int) : D (List (Int × Int)) := dbind (roll 4) fun q => dbind (anyOf [0, 0, q]) fun n => finesC sc n.toNat []
def pickE (op : List Envl) (od : List Int) : List Envl := od.map fun i => (op[i.toNat]?).getD ⟨0, 0, [], 0⟩
noncomputable def nightD (s : Scale) (dec : Bool) : D Night := dbind (nightM s dec s.matters.toNat s.judges.toNat s.matters.toNat [] []) fun p => dbind (finesD s.schools) fun fi => dbind (orderD p.1.length) fun od => dret ⟨pickE p.1 od, p.2, fi⟩
set_option maxHeartbeats 16000000 in
theorem NightOf_pc (Y : YEnv) (σ : Sg) (d : Nat) (b : Int) (hd : σ.store[d]? = some (some [.int .u64 b])) (s : Scale) (hv : s.V) (hs : s.Ok) (dec : Bool) :
    PC Tryz.prog Y 13 [.ptr d 0, scPV s, .bool dec] σ (ngPV (nightD s dec b).1) (σ.setVar d [.int .u64 (nightD s dec b).2]) := by
  refine PC_of_W Tryz.func13 rfl (by kernel_rfl) Tryz.ntmps13 (by simp) fun hcl hca => ?_
  have hlt := lt_of_get hd
  have q1 := hv.mt
  have q2 := hv.jd
  have q3 := hv.sc
  obtain ⟨M, hM⟩ : ∃ z : Nat, s.matters = z := ⟨s.matters.toNat, by omega⟩
  obtain ⟨J, hJ⟩ : ∃ z : Nat, s.judges = z := ⟨s.judges.toNat, by omega⟩
  have hMi : (s.matters : Int) = (M : Int) := hM
  have hJi : (s.judges : Int) = (J : Int) := hJ
  obtain ⟨res, hres⟩ : ∃ r, nightD s dec b = r := ⟨_, rfl⟩
  rw [hres]
  unfold nightD at hres
  simp only [hM, hJ, Int.toNat_natCast, dbind] at hres
  obtain ⟨R0, hR0⟩ : ∃ r, nightM s dec M J M [] [] b = r := ⟨_, rfl⟩
  rw [hR0] at hres
  refine W_seq fun kz1 kq1 => ?_
  refine W_region [0, 2, 4, 6] fun R hR => ?_   -- r0
  simp only [go_sem, ldS_at hd, stX_at hd, ldS_sv hlt, stX_sv hlt, sv_ext hlt, sv_ext_sv hlt]
  refine hR _ _ (kq1 _ _ ?_); clear hR R; try clear kq1 kz1
  try simp only [go_sem, ldS_at hd, stX_at hd, ldS_sv hlt, stX_sv hlt, sv_ext hlt, sv_ext_sv hlt]
  refine W_seq fun kz2 kq2 => ?_
  refine W_region [0, 2, 4, 6, 7] fun R hR => ?_   -- r1
  simp only [go_sem, ldS_at hd, stX_at hd, ldS_sv hlt, stX_sv hlt, sv_ext hlt, sv_ext_sv hlt]
  refine hR _ _ (kq2 _ _ ?_); clear hR R; try clear kq2 kz2
  try simp only [go_sem, ldS_at hd, stX_at hd, ldS_sv hlt, stX_sv hlt, sv_ext hlt, sv_ext_sv hlt]
  refine W_seq fun kz3 kq3 => ?_
  refine W_seq fun kz4 kq4 => ?_
  refine W_region [0, 2, 4, 6, 7, 8] fun R hR => ?_   -- r2
  simp only [go_sem, ldS_at hd, stX_at hd, ldS_sv hlt, stX_sv hlt, sv_ext hlt, sv_ext_sv hlt]
  refine hR _ _ (kq4 _ _ ?_); clear hR R; try clear kq4 kz4
  try simp only [go_sem, ldS_at hd, stX_at hd, ldS_sv hlt, stX_sv hlt, sv_ext hlt, sv_ext_sv hlt]
  refine W_block ?_
  refine W_weak (Weak.roomX (j := 2) (off := 0) (es := 4) rfl rfl (by simp)) ?_
  simp only [go_sem]
  refine W_weak (Weak.roomX (j := 2) (off := 1) (es := 2) rfl rfl (by simp)) ?_
  simp only [go_sem]
  refine W_weak (Weak.roomX (j := 2) (off := 2) (es := 2) rfl rfl (by simp)) ?_
  simp only [go_sem]
  refine W_loopT (α := Nat × (List Envl) × (List (Int × Int)) × Int) (fun ⟨i, op, ab, b⟩ => [(8, I i)]) (fun ⟨i, op, ab, b⟩ => (σ.setVar d [.int .u64 b]).ext [some (scCells s), some [.isl [] .exact, .isl [] .exact, .isl [] .exact], some [.isl (op.map evPV) (.tok σ.rooms.length op.length 4), .isl (ab.map stPV) (.tok (σ.rooms.length + 1) ab.length 2), .isl (([] : List (Int × Int)).map stPV) (.tok (σ.rooms.length + 2) ([] : List (Int × Int)).length 2)]] [op.length, ab.length, ([] : List (Int × Int)).length]) (fun ⟨i, op, ab, b⟩ => i ≤ M ∧ op.length ≤ 5 * i ∧ ab.length ≤ 5 * i ∧ R0 = nightM s dec M J (M - i) op ab b) (fun ⟨i, op, ab, b⟩ => M - i) ((0, [], [], b)) rfl (by simp only [go_sem, sv_self hd]) (⟨Nat.zero_le _, Nat.zero_le _, Nat.zero_le _, hR0.symm⟩) ?_
  rintro ⟨i, op, ab, b⟩ ⟨hi, hl1, hl2, hinv⟩
  refine W_seq fun kz5 kq5 => ?_
  refine W_seq fun kz6 kq6 => ?_
  refine W_region [0, 2, 4, 6, 7, 8, 18] fun R hR => ?_   -- r3
  simp only [go_sem, ldS_at hd, stX_at hd, ldS_sv hlt, stX_sv hlt, sv_ext hlt, sv_ext_sv hlt]
  refine hR _ _ (kq6 _ _ ?_); clear hR R; try clear kq6 kz6
  try simp only [go_sem, ldS_at hd, stX_at hd, ldS_sv hlt, stX_sv hlt, sv_ext hlt, sv_ext_sv hlt]
  refine W_cond rfl (fun c1 => ?_) (fun c1 => ?_)
  · -- c1 true
    try simp only [nrm] at c1
    have hiM : i < M := by first | omega | (simp at c1; omega)
    rw [show M - i = (M - (i + 1)) + 1 by omega] at hinv
    simp only [nightM, dbind] at hinv
    rw [show (M - (M - (i + 1) + 1) : Nat) = i by omega] at hinv
    obtain ⟨R1, hR1⟩ : ∃ z, nightJ s dec J i J 0 op ab b = z := ⟨_, rfl⟩
    rw [hR1] at hinv
    refine W_skip (kq5 _ _ ?_)
    refine W_seq fun kz7 kq7 => ?_
    refine W_block ?_
    refine W_seq fun kz8 kq8 => ?_
    refine W_region [0, 2, 4, 6, 7, 8, 9] fun R hR => ?_   -- r5
    simp only [go_sem, ldS_at hd, stX_at hd, ldS_sv hlt, stX_sv hlt, sv_ext hlt, sv_ext_sv hlt]
    refine hR _ _ (kq8 _ _ ?_); clear hR R; try clear kq8 kz8
    try simp only [go_sem, ldS_at hd, stX_at hd, ldS_sv hlt, stX_sv hlt, sv_ext hlt, sv_ext_sv hlt]
    refine W_seq fun kz9 kq9 => ?_
    refine W_region [0, 2, 4, 6, 7, 8, 9, 10] fun R hR => ?_   -- r6
    simp only [go_sem, ldS_at hd, stX_at hd, ldS_sv hlt, stX_sv hlt, sv_ext hlt, sv_ext_sv hlt]
    refine hR _ _ (kq9 _ _ ?_); clear hR R; try clear kq9 kz9
    try simp only [go_sem, ldS_at hd, stX_at hd, ldS_sv hlt, stX_sv hlt, sv_ext hlt, sv_ext_sv hlt]
    refine W_block ?_
    refine W_loopT (α := Nat × Nat × (List Envl) × (List (Int × Int)) × Int) (fun ⟨j, here, op2, ab2, b⟩ => [(9, I here), (10, I j)]) (fun ⟨j, here, op2, ab2, b⟩ => (σ.setVar d [.int .u64 b]).ext [some (scCells s), some [.isl [] .exact, .isl [] .exact, .isl [] .exact], some [.isl (op2.map evPV) (.tok σ.rooms.length op2.length 4), .isl (ab2.map stPV) (.tok (σ.rooms.length + 1) ab2.length 2), .isl (([] : List (Int × Int)).map stPV) (.tok (σ.rooms.length + 2) ([] : List (Int × Int)).length 2)]] [op2.length, ab2.length, ([] : List (Int × Int)).length]) (fun ⟨j, here, op2, ab2, b⟩ => j ≤ J ∧ here ≤ j ∧ op2.length ≤ 5 * i + j ∧ ab2.length ≤ 5 * i + j ∧ R1 = nightJ s dec J i (J - j) here op2 ab2 b) (fun ⟨j, here, op2, ab2, b⟩ => J - j) ((0, 0, op, ab, b)) rfl (by first | rfl | (simp only [go_sem]; done) | (simp only [go_sem]; rfl)) (⟨Nat.zero_le _, Nat.le_refl _, by omega, by omega, hR1.symm⟩) ?_
    rintro ⟨j, here, op2, ab2, b⟩ ⟨hj, hhe, hl3, hl4, hinv2⟩
    refine W_seq fun kz10 kq10 => ?_
    refine W_seq fun kz11 kq11 => ?_
    refine W_region [0, 2, 4, 6, 7, 8, 9, 10, 24] fun R hR => ?_   -- r7
    simp only [go_sem, ldS_at hd, stX_at hd, ldS_sv hlt, stX_sv hlt, sv_ext hlt, sv_ext_sv hlt]
    refine hR _ _ (kq11 _ _ ?_); clear hR R; try clear kq11 kz11
    try simp only [go_sem, ldS_at hd, stX_at hd, ldS_sv hlt, stX_sv hlt, sv_ext hlt, sv_ext_sv hlt]
    refine W_cond rfl (fun c2 => ?_) (fun c2 => ?_)
    · -- c2 true
      try simp only [nrm] at c2
      have hjJ : j < J := by first | omega | (simp at c2; omega)
      rw [show J - j = (J - (j + 1)) + 1 by omega] at hinv2
      simp only [nightJ, dbind, ite_at] at hinv2
      rw [show (J - (J - (j + 1) + 1) : Nat) = j by omega] at hinv2
      obtain ⟨a5, ha5⟩ : ∃ zz, (rare 5 b).1 = zz := ⟨_, rfl⟩
      obtain ⟨b1, hb1⟩ : ∃ zz, (rare 5 b).2 = zz := ⟨_, rfl⟩
      simp only [ha5, hb1] at hinv2
      refine W_skip (kq10 _ _ ?_)
      refine W_seq fun kz12 kq12 => ?_
      refine W_block ?_
      refine W_seq fun kz13 kq13 => ?_
      refine W_block ?_
      refine W_seq fun kz14 kq14 => ?_
      refine W_regionT [0, 2, 4, 6, 7, 8, 9, 10, 27] [(27, .bool (a5 && (decide ((0 : Int) < (here : Int)) || decide ((j : Int) < (J : Int) - 1))))] ((σ.setVar d [.int .u64 b1]).ext [some (scCells s), some [.isl [] .exact, .isl [] .exact, .isl [] .exact], some [.isl (op2.map evPV) (.tok σ.rooms.length op2.length 4), .isl (ab2.map stPV) (.tok (σ.rooms.length + 1) ab2.length 2), .isl (([] : List (Int × Int)).map stPV) (.tok (σ.rooms.length + 2) ([] : List (Int × Int)).length 2)]] [op2.length, ab2.length, ([] : List (Int × Int)).length]) ?_ fun R hR => ?_   -- r9
      · refine kq14 _ _ ?_
        simp only [go_sem, ldS_at hd, stX_at hd, ldS_sv hlt, stX_sv hlt, sv_ext hlt, sv_ext_sv hlt, ha5, hb1]
        refine W_cond rfl (fun c3 => ?_) (fun c3 => ?_)
        · -- c3 true
          try simp only [nrm] at c3
          refine W_seq fun kz15 kq15 => ?_
          refine W_region [0, 2, 4, 6, 7, 8, 9, 10] fun R hR => ?_   -- r10
          simp only [go_sem, ldS_at hd, stX_at hd, ldS_sv hlt, stX_sv hlt, sv_ext hlt, sv_ext_sv hlt, ha5, hb1]
          try simp (disch := first | omega | (simp only [go_sem] <;> omega)) only [wrapI, wrapU, appX_exact, appX_tok]
          try simp only [go_sem, ldS_at hd, stX_at hd, ldS_sv hlt, stX_sv hlt, sv_ext hlt, sv_ext_sv hlt, ha5, hb1]
          refine hR _ _ (kq15 _ _ ?_); clear hR R; try clear kq15 kz15
          try simp only [go_sem, ldS_at hd, stX_at hd, ldS_sv hlt, stX_sv hlt, sv_ext hlt, sv_ext_sv hlt, ha5, hb1]
          refine W_exit ?_
          simp only [go_sem, ldS_at hd, stX_at hd, ldS_sv hlt, stX_sv hlt, sv_ext hlt, sv_ext_sv hlt, ha5, hb1]
          refine kq12 _ _ ?_
          refine W_region [0, 2, 4, 6, 7, 8, 9, 10] fun R hR => ?_   -- r8
          simp only [go_sem, ldS_at hd, stX_at hd, ldS_sv hlt, stX_sv hlt, sv_ext hlt, sv_ext_sv hlt, ha5, hb1]
          try simp (disch := omega) only [wrapI, wrapU]
          refine hR _ _ ?_; clear hR R
          try simp only [go_sem, ldS_at hd, stX_at hd, ldS_sv hlt, stX_sv hlt, sv_ext hlt, sv_ext_sv hlt, ha5, hb1]
          refine ⟨(j + 1, here, op2, ab2 ++ [((i : Int), (j : Int))], b1), ?_, by (try simp only []); omega, ?_⟩
          · first | exact Weak.refl | exact Weak.eq (by first | rfl | (simp only [go_sem]; done) | (simp only [go_sem]; rfl) | (simp [go_sem]; done) | (simp [go_sem]; omega)) (by first | rfl | (simp only [go_sem]; done) | (simp [go_sem]; done))
          · try dsimp only
            refine ⟨by omega, by omega, ?_, ?_, ?_⟩
            · first | omega | (simp; omega)
            · first | omega | (simp; omega)
            · first
              | (rw [hinv2, if_pos (by simpa using c3)]; done)
              | (rw [hinv2, if_neg (by simpa using c3)]; simp [g1]; done)
              | (rw [hinv2, if_neg (by simpa using c3)]; simp [g1, c4]; done)
        · -- c3 false
          try simp only [nrm] at c3
          refine W_seq fun kz16 kq16 => ?_
          refine W_region [0, 2, 4, 6, 7, 8, 9, 10, 49] fun R hR => ?_   -- r11
          simp only [go_sem, ldS_at hd, stX_at hd, ldS_sv hlt, stX_sv hlt, sv_ext hlt, sv_ext_sv hlt, ha5, hb1]
          refine GWant_split (fun g1 => ?_) (fun g1 => ?_)
          · try simp only [Bool.not_eq_true', Bool.not_eq_false'] at g1
            have n1 := g1; try simp only [nrm] at n1
            obtain ⟨a3, ha3⟩ : ∃ zz, (rare 3 b1).1 = zz := ⟨_, rfl⟩
            obtain ⟨b2, hb2⟩ : ∃ zz, (rare 3 b1).2 = zz := ⟨_, rfl⟩
            simp only [ha3, hb2] at hinv2
            simp only [go_sem, ldS_at hd, stX_at hd, ldS_sv hlt, stX_sv hlt, sv_ext hlt, sv_ext_sv hlt, ha5, hb1, ha3, hb2, g1]
            refine GCall_of (Rare_pc Y _ d b1 (by first | exact hd | exact sv_get hlt | exact get_svx hlt | exact get_extx hd) 3 (by omega)) ?_   -- t53
            simp only [go_sem, ldS_at hd, stX_at hd, ldS_sv hlt, stX_sv hlt, sv_ext hlt, sv_ext_sv hlt, ha5, hb1, ha3, hb2, g1]
            refine hR _ _ (kq16 _ _ ?_); clear hR R; try clear kq16 kz16
            try simp only [go_sem, ldS_at hd, stX_at hd, ldS_sv hlt, stX_sv hlt, sv_ext hlt, sv_ext_sv hlt, ha5, hb1, ha3, hb2]
            refine W_cond rfl (fun c4 => ?_) (fun c4 => ?_)
            · -- c4 true
              try simp only [nrm] at c4
              obtain ⟨ml, hml⟩ : ∃ zz, (marksD s b2).1 = zz := ⟨_, rfl⟩
              obtain ⟨b4, hb4⟩ : ∃ zz, (marksD s b2).2 = zz := ⟨_, rfl⟩
              have dml := marksD_ok hv b2
              simp only [hml] at dml
              have hmln : ml.length < 2 ^ 40 := by have := dml.1; omega
              try simp only [hml, hb4] at hinv2
              refine W_draw [0, 2, 4, 6, 7, 8, 9, 10] [0, 1, 2, 3, 4, 5, 6, 7, 8, 9, 10, 11, 12] [(0, 8), (0, 10), (1, 8), (1, 10), (2, 8), (3, 8), (4, 8)] [[], [0], [], [], [], [], [], [5, 6], [2, 3, 4, 5, 6, 7], [2, 3, 4, 5, 6, 7, 8], [0, 1, 2, 3, 4, 5, 6, 7, 8, 9], [0, 1, 2, 3, 4, 5, 6, 7, 8, 9, 10], [0, 1, 2, 3, 4, 5, 6, 7, 8, 9, 10, 11]] mixed (by kernel_rfl) fun R hR => ?_   -- r12
              simp only [go_sem, ldS_at hd, stX_at hd, ldS_sv hlt, stX_sv hlt, sv_ext hlt, sv_ext_sv hlt, ha5, hb1, ha3, hb2, hml, hb4]
              refine GCall_of (MarksOf_pc Y _ d _ (by first | exact hd | exact sv_get hlt | exact get_svx hlt | exact get_extx hd) s hv) ?_   -- t63
              simp only [go_sem, ldS_at hd, stX_at hd, ldS_sv hlt, stX_sv hlt, sv_ext hlt, sv_ext_sv hlt, ha5, hb1, ha3, hb2, hml, hb4]
              refine GCall_of (Sealed_pc Y _ s i j ml (by omega) hs) ?_   -- t64
              simp only [go_sem, ldS_at hd, stX_at hd, ldS_sv hlt, stX_sv hlt, sv_ext hlt, sv_ext_sv hlt, ha5, hb1, ha3, hb2, hml, hb4]
              try simp (disch := first | omega | (simp only [go_sem] <;> omega)) only [wrapI, wrapU, appX_exact, appX_tok]
              try simp only [go_sem, ldS_at hd, stX_at hd, ldS_sv hlt, stX_sv hlt, sv_ext hlt, sv_ext_sv hlt, ha5, hb1, ha3, hb2, hml, hb4]
              try refine And.intro (by repeat' (first | refine And.intro ?_ ?_ | exact GOr_right (fun _ => by simp only [go_sem, ldS_at hd, stX_at hd, ldS_sv hlt, stX_sv hlt, sv_ext hlt, sv_ext_sv hlt, ha5, hb1, ha3, hb2, hml, hb4]))) ?_
              refine hR _ _ (kq13 _ _ ?_); clear hR R; try clear kq13 kz13
              try simp only [go_sem, ldS_at hd, stX_at hd, ldS_sv hlt, stX_sv hlt, sv_ext hlt, sv_ext_sv hlt, ha5, hb1, ha3, hb2, hml, hb4]
              refine W_region [0, 2, 4, 6, 7, 8, 9, 10] fun R hR => ?_   -- r13
              simp only [go_sem, ldS_at hd, stX_at hd, ldS_sv hlt, stX_sv hlt, sv_ext hlt, sv_ext_sv hlt, ha5, hb1, ha3, hb2, hml, hb4]
              try simp (disch := omega) only [wrapI, wrapU]
              refine hR _ _ (kq12 _ _ ?_); clear hR R; try clear kq12 kz12
              try simp only [go_sem, ldS_at hd, stX_at hd, ldS_sv hlt, stX_sv hlt, sv_ext hlt, sv_ext_sv hlt, ha5, hb1, ha3, hb2, hml, hb4]
              refine W_region [0, 2, 4, 6, 7, 8, 9, 10] fun R hR => ?_   -- r8
              simp only [go_sem, ldS_at hd, stX_at hd, ldS_sv hlt, stX_sv hlt, sv_ext hlt, sv_ext_sv hlt, ha5, hb1, ha3, hb2, hml, hb4]
              try simp (disch := omega) only [wrapI, wrapU]
              refine hR _ _ ?_; clear hR R
              try simp only [go_sem, ldS_at hd, stX_at hd, ldS_sv hlt, stX_sv hlt, sv_ext hlt, sv_ext_sv hlt, ha5, hb1, ha3, hb2, hml, hb4]
              refine ⟨(j + 1, here + 1, op2 ++ [sealedE s i j ml], ab2, b4), ?_, by (try simp only []); omega, ?_⟩
              · first | exact Weak.refl | exact Weak.eq (by first | rfl | (simp only [go_sem]; done) | (simp only [go_sem]; rfl) | (simp [go_sem]; done) | (simp [go_sem]; omega)) (by first | rfl | (simp only [go_sem]; done) | (simp [go_sem]; done))
              · try dsimp only
                refine ⟨by omega, by omega, ?_, ?_, ?_⟩
                · first | omega | (simp; omega)
                · first | omega | (simp; omega)
                · first
                  | (rw [hinv2, if_pos (by simpa using c3)]; done)
                  | (rw [hinv2, if_neg (by simpa using c3)]; simp [g1]; done)
                  | (rw [hinv2, if_neg (by simpa using c3)]; simp [g1, c4]; done)
            · -- c4 false
              try simp only [nrm] at c4
              refine W_skip (kq13 _ _ ?_)
              refine W_region [0, 2, 4, 6, 7, 8, 9, 10] fun R hR => ?_   -- r13
              simp only [go_sem, ldS_at hd, stX_at hd, ldS_sv hlt, stX_sv hlt, sv_ext hlt, sv_ext_sv hlt, ha5, hb1, ha3, hb2]
              try simp (disch := omega) only [wrapI, wrapU]
              refine hR _ _ (kq12 _ _ ?_); clear hR R; try clear kq12 kz12
              try simp only [go_sem, ldS_at hd, stX_at hd, ldS_sv hlt, stX_sv hlt, sv_ext hlt, sv_ext_sv hlt, ha5, hb1, ha3, hb2]
              refine W_region [0, 2, 4, 6, 7, 8, 9, 10] fun R hR => ?_   -- r8
              simp only [go_sem, ldS_at hd, stX_at hd, ldS_sv hlt, stX_sv hlt, sv_ext hlt, sv_ext_sv hlt, ha5, hb1, ha3, hb2]
              try simp (disch := omega) only [wrapI, wrapU]
              refine hR _ _ ?_; clear hR R
              try simp only [go_sem, ldS_at hd, stX_at hd, ldS_sv hlt, stX_sv hlt, sv_ext hlt, sv_ext_sv hlt, ha5, hb1, ha3, hb2]
              refine ⟨(j + 1, here + 1, op2, ab2, b2), ?_, by (try simp only []); omega, ?_⟩
              · first | exact Weak.refl | exact Weak.eq (by first | rfl | (simp only [go_sem]; done) | (simp only [go_sem]; rfl) | (simp [go_sem]; done) | (simp [go_sem]; omega)) (by first | rfl | (simp only [go_sem]; done) | (simp [go_sem]; done))
              · try dsimp only
                refine ⟨by omega, by omega, ?_, ?_, ?_⟩
                · first | omega | (simp; omega)
                · first | omega | (simp; omega)
                · first
                  | (rw [hinv2, if_pos (by simpa using c3)]; done)
                  | (rw [hinv2, if_neg (by simpa using c3)]; simp [g1]; done)
                  | (rw [hinv2, if_neg (by simpa using c3)]; simp [g1, c4]; done)
          · try simp only [Bool.not_eq_true', Bool.not_eq_false'] at g1
            have n1 := g1; try simp only [nrm] at n1
            obtain ⟨ml, hml⟩ : ∃ zz, (marksD s b1).1 = zz := ⟨_, rfl⟩
            obtain ⟨b4, hb4⟩ : ∃ zz, (marksD s b1).2 = zz := ⟨_, rfl⟩
            have dml := marksD_ok hv b1
            simp only [hml] at dml
            have hmln : ml.length < 2 ^ 40 := by have := dml.1; omega
            try simp only [hml, hb4] at hinv2
            simp only [go_sem, ldS_at hd, stX_at hd, ldS_sv hlt, stX_sv hlt, sv_ext hlt, sv_ext_sv hlt, ha5, hb1, hml, hb4, g1]
            refine hR _ _ (kq16 _ _ ?_); clear hR R; try clear kq16 kz16
            try simp only [go_sem, ldS_at hd, stX_at hd, ldS_sv hlt, stX_sv hlt, sv_ext hlt, sv_ext_sv hlt, ha5, hb1, hml, hb4]
            refine W_cond_true rfl ?_
            refine W_draw [0, 2, 4, 6, 7, 8, 9, 10] [0, 1, 2, 3, 4, 5, 6, 7, 8, 9, 10, 11, 12] [(0, 8), (0, 10), (1, 8), (1, 10), (2, 8), (3, 8), (4, 8)] [[], [0], [], [], [], [], [], [5, 6], [2, 3, 4, 5, 6, 7], [2, 3, 4, 5, 6, 7, 8], [0, 1, 2, 3, 4, 5, 6, 7, 8, 9], [0, 1, 2, 3, 4, 5, 6, 7, 8, 9, 10], [0, 1, 2, 3, 4, 5, 6, 7, 8, 9, 10, 11]] mixed (by kernel_rfl) fun R hR => ?_   -- r12
            simp only [go_sem, ldS_at hd, stX_at hd, ldS_sv hlt, stX_sv hlt, sv_ext hlt, sv_ext_sv hlt, ha5, hb1, hml, hb4]
            refine GCall_of (MarksOf_pc Y _ d _ (by first | exact hd | exact sv_get hlt | exact get_svx hlt | exact get_extx hd) s hv) ?_   -- t63
            simp only [go_sem, ldS_at hd, stX_at hd, ldS_sv hlt, stX_sv hlt, sv_ext hlt, sv_ext_sv hlt, ha5, hb1, hml, hb4]
            refine GCall_of (Sealed_pc Y _ s i j ml (by omega) hs) ?_   -- t64
            simp only [go_sem, ldS_at hd, stX_at hd, ldS_sv hlt, stX_sv hlt, sv_ext hlt, sv_ext_sv hlt, ha5, hb1, hml, hb4]
            try simp (disch := first | omega | (simp only [go_sem] <;> omega)) only [wrapI, wrapU, appX_exact, appX_tok]
            try simp only [go_sem, ldS_at hd, stX_at hd, ldS_sv hlt, stX_sv hlt, sv_ext hlt, sv_ext_sv hlt, ha5, hb1, hml, hb4]
            try refine And.intro (by repeat' (first | refine And.intro ?_ ?_ | exact GOr_right (fun _ => by simp only [go_sem, ldS_at hd, stX_at hd, ldS_sv hlt, stX_sv hlt, sv_ext hlt, sv_ext_sv hlt, ha5, hb1, hml, hb4]))) ?_
            refine hR _ _ (kq13 _ _ ?_); clear hR R; try clear kq13 kz13
            try simp only [go_sem, ldS_at hd, stX_at hd, ldS_sv hlt, stX_sv hlt, sv_ext hlt, sv_ext_sv hlt, ha5, hb1, hml, hb4]
            refine W_region [0, 2, 4, 6, 7, 8, 9, 10] fun R hR => ?_   -- r13
            simp only [go_sem, ldS_at hd, stX_at hd, ldS_sv hlt, stX_sv hlt, sv_ext hlt, sv_ext_sv hlt, ha5, hb1, hml, hb4]
            try simp (disch := omega) only [wrapI, wrapU]
            refine hR _ _ (kq12 _ _ ?_); clear hR R; try clear kq12 kz12
            try simp only [go_sem, ldS_at hd, stX_at hd, ldS_sv hlt, stX_sv hlt, sv_ext hlt, sv_ext_sv hlt, ha5, hb1, hml, hb4]
            refine W_region [0, 2, 4, 6, 7, 8, 9, 10] fun R hR => ?_   -- r8
            simp only [go_sem, ldS_at hd, stX_at hd, ldS_sv hlt, stX_sv hlt, sv_ext hlt, sv_ext_sv hlt, ha5, hb1, hml, hb4]
            try simp (disch := omega) only [wrapI, wrapU]
            refine hR _ _ ?_; clear hR R
            try simp only [go_sem, ldS_at hd, stX_at hd, ldS_sv hlt, stX_sv hlt, sv_ext hlt, sv_ext_sv hlt, ha5, hb1, hml, hb4]
            refine ⟨(j + 1, here + 1, op2 ++ [sealedE s i j ml], ab2, b4), ?_, by (try simp only []); omega, ?_⟩
            · first | exact Weak.refl | exact Weak.eq (by first | rfl | (simp only [go_sem]; done) | (simp only [go_sem]; rfl) | (simp [go_sem]; done) | (simp [go_sem]; omega)) (by first | rfl | (simp only [go_sem]; done) | (simp [go_sem]; done))
            · try dsimp only
              refine ⟨by omega, by omega, ?_, ?_, ?_⟩
              · first | omega | (simp; omega)
              · first | omega | (simp; omega)
              · first
                | (rw [hinv2, if_pos (by simpa using c3)]; done)
                | (rw [hinv2, if_neg (by simpa using c3)]; simp [g1]; done)
                | (rw [hinv2, if_neg (by simpa using c3)]; simp [g1, c4]; done)
      · simp only [go_sem, ldS_at hd, stX_at hd, ldS_sv hlt, stX_sv hlt, sv_ext hlt, sv_ext_sv hlt, ha5, hb1]
        refine GCall_of (Rare_pc Y _ d b (by first | exact hd | exact sv_get hlt | exact get_svx hlt | exact get_extx hd) 5 (by omega)) ?_   -- t29
        simp only [go_sem, ldS_at hd, stX_at hd, ldS_sv hlt, stX_sv hlt, sv_ext hlt, sv_ext_sv hlt, ha5, hb1]
        refine GWant_split (fun g2 => ?_) (fun g2 => ?_)
        · try simp only [Bool.not_eq_true', Bool.not_eq_false'] at g2
          have n2 := g2; try simp only [nrm] at n2
          simp only [go_sem, ldS_at hd, stX_at hd, ldS_sv hlt, stX_sv hlt, sv_ext hlt, sv_ext_sv hlt, ha5, hb1, g2]
          refine GWant_split (fun g3 => ?_) (fun g3 => ?_)
          · try simp only [Bool.not_eq_true', Bool.not_eq_false'] at g3
            have n3 := g3; try simp only [nrm] at n3
            simp only [go_sem, ldS_at hd, stX_at hd, ldS_sv hlt, stX_sv hlt, sv_ext hlt, sv_ext_sv hlt, ha5, hb1, g2, g3]
            try simp (disch := omega) only [wrapI, wrapU]
            refine hR _ _ ?_ ?_
            all_goals try simp only [go_sem, ldS_at hd, stX_at hd, ldS_sv hlt, stX_sv hlt, sv_ext hlt, sv_ext_sv hlt, ha5, hb1]
            all_goals
              first | rfl | (simp [*]; done) | (simp [*]; omega)
          · try simp only [Bool.not_eq_true', Bool.not_eq_false'] at g3
            have n3 := g3; try simp only [nrm] at n3
            simp only [go_sem, ldS_at hd, stX_at hd, ldS_sv hlt, stX_sv hlt, sv_ext hlt, sv_ext_sv hlt, ha5, hb1, g2, g3]
            try simp (disch := omega) only [wrapI, wrapU]
            refine hR _ _ ?_ ?_
            all_goals try simp only [go_sem, ldS_at hd, stX_at hd, ldS_sv hlt, stX_sv hlt, sv_ext hlt, sv_ext_sv hlt, ha5, hb1]
            all_goals
              first | rfl | (simp [*]; done) | (simp [*]; omega)
        · try simp only [Bool.not_eq_true', Bool.not_eq_false'] at g2
          have n2 := g2; try simp only [nrm] at n2
          simp only [go_sem, ldS_at hd, stX_at hd, ldS_sv hlt, stX_sv hlt, sv_ext hlt, sv_ext_sv hlt, ha5, hb1, g2]
          try simp (disch := omega) only [wrapI, wrapU]
          refine hR _ _ ?_ ?_
          all_goals try simp only [go_sem, ldS_at hd, stX_at hd, ldS_sv hlt, stX_sv hlt, sv_ext hlt, sv_ext_sv hlt, ha5, hb1]
          all_goals
            first | rfl | (simp [*]; done) | (simp [*]; omega)
    · -- c2 false
      try simp only [nrm] at c2
      have hje : J = j := by first | omega | (simp at c2; omega)
      subst hje
      rw [Nat.sub_self] at hinv2
      simp only [nightJ, dret] at hinv2
      refine W_exit ?_
      simp only [go_sem, ldS_at hd, stX_at hd, ldS_sv hlt, stX_sv hlt, sv_ext hlt, sv_ext_sv hlt]
      refine kq7 _ _ ?_
      refine W_region [0, 2, 4, 6, 7, 8] fun R hR => ?_   -- r4
      simp only [go_sem, ldS_at hd, stX_at hd, ldS_sv hlt, stX_sv hlt, sv_ext hlt, sv_ext_sv hlt]
      try simp (disch := omega) only [wrapI, wrapU]
      refine hR _ _ ?_; clear hR R
      try simp only [go_sem, ldS_at hd, stX_at hd, ldS_sv hlt, stX_sv hlt, sv_ext hlt, sv_ext_sv hlt]
      refine ⟨(i + 1, op2, ab2, b), ?_, by (try simp only []); omega, ?_⟩
      · first | exact Weak.refl | exact Weak.eq (by first | rfl | (simp only [go_sem]; done) | (simp only [go_sem]; rfl) | (simp [go_sem]; done) | (simp [go_sem]; omega)) (by first | rfl | (simp only [go_sem]; done) | (simp [go_sem]; done))
      · try dsimp only
        exact ⟨by omega, by omega, by omega, by rw [hinv, hinv2]⟩
  · -- c1 false
    try simp only [nrm] at c1
    have hie : M = i := by first | omega | (simp at c1; omega)
    subst hie
    rw [Nat.sub_self] at hinv
    simp only [nightM, dret] at hinv
    rw [hinv] at hres
    simp only [finesD, dbind] at hres
    obtain ⟨q4, hq4⟩ : ∃ zz, (roll 4 b).1 = zz := ⟨_, rfl⟩
    obtain ⟨b1, hb1⟩ : ∃ zz, (roll 4 b).2 = zz := ⟨_, rfl⟩
    have dq4 := roll_bd 4 b
    simp only [hq4] at dq4
    obtain ⟨nf, hnf⟩ : ∃ zz, (anyOf [0, 0, q4] b1).1 = zz := ⟨_, rfl⟩
    obtain ⟨b2, hb2⟩ : ∃ zz, (anyOf [0, 0, q4] b1).2 = zz := ⟨_, rfl⟩
    have dnf := anyOf_mem [0, 0, q4] (by simp) b1
    simp only [hnf] at dnf
    simp only [hq4, hb1, hnf, hb2] at hres
    have hnf3 : 0 ≤ nf ∧ nf ≤ 3 := by rcases mem3 dnf with h | h | h <;> omega
    obtain ⟨n4, hn4⟩ : ∃ z : Nat, nf = z := ⟨nf.toNat, by omega⟩
    subst hn4
    simp only [Int.toNat_natCast] at hres
    refine W_exit ?_
    simp only [go_sem, ldS_at hd, stX_at hd, ldS_sv hlt, stX_sv hlt, sv_ext hlt, sv_ext_sv hlt, hq4, hb1, hnf, hb2]
    refine kq3 _ _ ?_
    refine W_seq fun kz17 kq17 => ?_
    refine W_seq fun kz18 kq18 => ?_
    refine W_region [0, 4, 6, 7, 11] fun R hR => ?_   -- r14
    simp only [go_sem, ldS_at hd, stX_at hd, ldS_sv hlt, stX_sv hlt, sv_ext hlt, sv_ext_sv hlt, hq4, hb1, hnf, hb2]
    refine GCall_of (Roll_pc Y _ d b (by first | exact hd | exact sv_get hlt | exact get_svx hlt | exact get_extx hd) 4 (by omega)) ?_   -- t72
    simp only [go_sem, ldS_at hd, stX_at hd, ldS_sv hlt, stX_sv hlt, sv_ext hlt, sv_ext_sv hlt, hq4, hb1, hnf, hb2]
    refine GCall_of (Any_pc Y _ d b1 (by first | exact hd | exact sv_get hlt | exact get_svx hlt | exact get_extx hd) [0, 0, q4] (by simp) (by simp)) ?_   -- t74
    simp only [go_sem, ldS_at hd, stX_at hd, ldS_sv hlt, stX_sv hlt, sv_ext hlt, sv_ext_sv hlt, hq4, hb1, hnf, hb2]
    refine hR _ _ (kq18 _ _ ?_); clear hR R; try clear kq18 kz18
    try simp only [go_sem, ldS_at hd, stX_at hd, ldS_sv hlt, stX_sv hlt, sv_ext hlt, sv_ext_sv hlt, hq4, hb1, hnf, hb2]
    refine W_block ?_
    obtain ⟨R2, hR2⟩ : ∃ z, finesC s.schools n4 [] b2 = z := ⟨_, rfl⟩
    rw [hR2] at hres
    refine W_loopT (α := Nat × (List (Int × Int)) × Int) (fun ⟨k, fi, b⟩ => [(11, I k)]) (fun ⟨k, fi, b⟩ => (σ.setVar d [.int .u64 b]).ext [some (scCells s), some [.isl [] .exact, .isl [] .exact, .isl [] .exact], some [.isl (op.map evPV) (.tok σ.rooms.length op.length 4), .isl (ab.map stPV) (.tok (σ.rooms.length + 1) ab.length 2), .isl (fi.map stPV) (.tok (σ.rooms.length + 2) fi.length 2)]] [op.length, ab.length, fi.length]) (fun ⟨k, fi, b⟩ => fi.length + k ≤ 3 ∧ R2 = finesC s.schools k fi b) (fun ⟨k, fi, b⟩ => k) ((n4, [], b2)) rfl (by first | rfl | (simp only [go_sem]; done) | (simp only [go_sem]; rfl)) (⟨by simp; omega, hR2.symm⟩) ?_
    rintro ⟨k, fi, b⟩ ⟨hk, hinv3⟩
    refine W_seq fun kz19 kq19 => ?_
    refine W_seq fun kz20 kq20 => ?_
    refine W_region [0, 4, 6, 7, 11, 76] fun R hR => ?_   -- r15
    simp only [go_sem, ldS_at hd, stX_at hd, ldS_sv hlt, stX_sv hlt, sv_ext hlt, sv_ext_sv hlt, hq4, hb1, hnf, hb2]
    refine hR _ _ (kq20 _ _ ?_); clear hR R; try clear kq20 kz20
    try simp only [go_sem, ldS_at hd, stX_at hd, ldS_sv hlt, stX_sv hlt, sv_ext hlt, sv_ext_sv hlt, hq4, hb1, hnf, hb2]
    refine W_cond rfl (fun c5 => ?_) (fun c5 => ?_)
    · -- c5 true
      try simp only [nrm] at c5
      obtain ⟨k, rfl⟩ : ∃ z, k = z + 1 := ⟨k - 1, by first | omega | (simp at c5; omega)⟩
      simp only [finesC, dbind] at hinv3
      obtain ⟨fa, hfa⟩ : ∃ zz, (roll s.schools b).1 = zz := ⟨_, rfl⟩
      obtain ⟨b1, hb1⟩ : ∃ zz, (roll s.schools b).2 = zz := ⟨_, rfl⟩
      have dfa := roll_bd s.schools b
      simp only [hfa] at dfa
      obtain ⟨fy, hfy⟩ : ∃ zz, (anyOf [3, 100] b1).1 = zz := ⟨_, rfl⟩
      obtain ⟨b2, hb2⟩ : ∃ zz, (anyOf [3, 100] b1).2 = zz := ⟨_, rfl⟩
      have dfy := anyOf_mem [3, 100] (by simp) b1
      simp only [hfy] at dfy
      obtain ⟨fp, hfp⟩ : ∃ zz, (roll fy b2).1 = zz := ⟨_, rfl⟩
      obtain ⟨b3, hb3⟩ : ∃ zz, (roll fy b2).2 = zz := ⟨_, rfl⟩
      have dfp := roll_bd fy b2
      simp only [hfp] at dfp
      simp only [hfa, hb1, hfy, hb2, hfp, hb3] at hinv3
      have hfyb : 0 ≤ fy ∧ fy ≤ 100 := by rcases mem2 dfy with h | h <;> omega
      refine W_skip (kq19 _ _ ?_)
      refine W_seq fun kz21 kq21 => ?_
      refine W_block ?_
      refine W_draw [0, 4, 6, 7, 11] [0, 1, 2, 3, 4, 5, 6, 7, 8, 9, 10, 11, 12, 13, 14, 15] [(0, 9), (0, 10), (0, 13), (1, 9), (1, 10), (1, 13), (6, 5), (6, 10), (7, 5), (8, 5)] [[], [0], [], [], [3], [2, 3, 4], [], [], [], [2, 3, 4, 5, 7, 8], [2, 3, 4, 5, 6, 7, 8, 9], [2, 3, 4, 5, 6, 7, 8, 9, 10], [2, 3, 4, 5, 6, 7, 8, 9, 10, 11], [0, 1, 2, 3, 4, 5, 6, 7, 8, 9, 10, 11, 12], [0, 1, 2, 3, 4, 5, 6, 7, 8, 9, 10, 11, 12, 13], [0, 1, 2, 3, 4, 5, 6, 7, 8, 9, 10, 11, 12, 13, 14]] mixed (by kernel_rfl) fun R hR => ?_   -- r17
      simp only [go_sem, ldS_at hd, stX_at hd, ldS_sv hlt, stX_sv hlt, sv_ext hlt, sv_ext_sv hlt, hq4, hb1, hnf, hb2, hfa, hb1, hfy, hb2, hfp, hb3]
      refine GCall_of (Roll_pc Y _ d b (by first | exact hd | exact sv_get hlt | exact get_svx hlt | exact get_extx hd) s.schools (by omega)) ?_   -- t84
      simp only [go_sem, ldS_at hd, stX_at hd, ldS_sv hlt, stX_sv hlt, sv_ext hlt, sv_ext_sv hlt, hq4, hb1, hnf, hb2, hfa, hb1, hfy, hb2, hfp, hb3]
      refine GCall_of (Any_pc Y _ d b1 (by first | exact hd | exact sv_get hlt | exact get_svx hlt | exact get_extx hd) [3, 100] (by simp) (by simp)) ?_   -- t88
      simp only [go_sem, ldS_at hd, stX_at hd, ldS_sv hlt, stX_sv hlt, sv_ext hlt, sv_ext_sv hlt, hq4, hb1, hnf, hb2, hfa, hb1, hfy, hb2, hfp, hb3]
      refine GCall_of (Roll_pc Y _ d b2 (by first | exact hd | exact sv_get hlt | exact get_svx hlt | exact get_extx hd) fy (by omega)) ?_   -- t89
      simp only [go_sem, ldS_at hd, stX_at hd, ldS_sv hlt, stX_sv hlt, sv_ext hlt, sv_ext_sv hlt, hq4, hb1, hnf, hb2, hfa, hb1, hfy, hb2, hfp, hb3]
      try simp (disch := first | omega | (simp only [go_sem] <;> omega)) only [wrapI, wrapU, appX_exact, appX_tok]
      try simp only [go_sem, ldS_at hd, stX_at hd, ldS_sv hlt, stX_sv hlt, sv_ext hlt, sv_ext_sv hlt, hq4, hb1, hnf, hb2, hfa, hb1, hfy, hb2, hfp, hb3]
      try refine And.intro (by repeat' (first | refine And.intro ?_ ?_ | exact GOr_right (fun _ => by simp only [go_sem, ldS_at hd, stX_at hd, ldS_sv hlt, stX_sv hlt, sv_ext hlt, sv_ext_sv hlt, hq4, hb1, hnf, hb2, hfa, hb1, hfy, hb2, hfp, hb3]))) ?_
      refine hR _ _ (kq21 _ _ ?_); clear hR R; try clear kq21 kz21
      try simp only [go_sem, ldS_at hd, stX_at hd, ldS_sv hlt, stX_sv hlt, sv_ext hlt, sv_ext_sv hlt, hq4, hb1, hnf, hb2, hfa, hb1, hfy, hb2, hfp, hb3]
      refine W_region [0, 4, 6, 7, 11] fun R hR => ?_   -- r16
      simp only [go_sem, ldS_at hd, stX_at hd, ldS_sv hlt, stX_sv hlt, sv_ext hlt, sv_ext_sv hlt, hq4, hb1, hnf, hb2, hfa, hb1, hfy, hb2, hfp, hb3]
      try simp (disch := omega) only [wrapI, wrapU]
      refine hR _ _ ?_; clear hR R
      try simp only [go_sem, ldS_at hd, stX_at hd, ldS_sv hlt, stX_sv hlt, sv_ext hlt, sv_ext_sv hlt, hq4, hb1, hnf, hb2, hfa, hb1, hfy, hb2, hfp, hb3]
      refine ⟨(k, fi ++ [(fa, fp)], b3), ?_, by (try simp only []); omega, ?_⟩
      · first | exact Weak.refl | exact Weak.eq (by first | rfl | (simp only [go_sem]; done) | (simp only [go_sem]; rfl) | (simp [go_sem]; done) | (simp [go_sem]; omega)) (by first | rfl | (simp only [go_sem]; done) | (simp [go_sem]; done))
      · try dsimp only
        exact ⟨by simp; omega, hinv3⟩
    · -- c5 false
      try simp only [nrm] at c5
      have hke : k = 0 := by first | omega | (simp at c5; omega)
      subst hke
      simp only [finesC, dret] at hinv3
      rw [hinv3] at hres
      simp only [] at hres
      obtain ⟨od, hod⟩ : ∃ zz, (orderD op.length b).1 = zz := ⟨_, rfl⟩
      obtain ⟨b1, hb1⟩ : ∃ zz, (orderD op.length b).2 = zz := ⟨_, rfl⟩
      have dod := orderD_perm op.length b
      simp only [hod] at dod
      simp only [hod, hb1, dret] at hres
      refine W_exit ?_
      simp only [go_sem, ldS_at hd, stX_at hd, ldS_sv hlt, stX_sv hlt, sv_ext hlt, sv_ext_sv hlt, hq4, hb1, hnf, hb2, hod, hb1]
      refine kq17 _ _ ?_
      refine W_seq fun kz22 kq22 => ?_
      refine W_region [6, 7, 12] fun R hR => ?_   -- r18
      simp only [go_sem, ldS_at hd, stX_at hd, ldS_sv hlt, stX_sv hlt, sv_ext hlt, sv_ext_sv hlt, hq4, hb1, hnf, hb2, hod, hb1]
      refine GCall_of (Order_pc Y _ d b (by first | exact hd | exact sv_get hlt | exact get_svx hlt | exact get_extx hd) op.length (by omega)) ?_   -- t98
      simp only [go_sem, ldS_at hd, stX_at hd, ldS_sv hlt, stX_sv hlt, sv_ext hlt, sv_ext_sv hlt, hq4, hb1, hnf, hb2, hod, hb1]
      refine hR _ _ (kq22 _ _ ?_); clear hR R; try clear kq22 kz22
      try simp only [go_sem, ldS_at hd, stX_at hd, ldS_sv hlt, stX_sv hlt, sv_ext hlt, sv_ext_sv hlt, hq4, hb1, hnf, hb2, hod, hb1]
      refine W_seq fun kz23 kq23 => ?_
      refine W_region [6, 7, 12, 13] fun R hR => ?_   -- r19
      simp only [go_sem, ldS_at hd, stX_at hd, ldS_sv hlt, stX_sv hlt, sv_ext hlt, sv_ext_sv hlt, hq4, hb1, hnf, hb2, hod, hb1]
      refine hR _ _ (kq23 _ _ ?_); clear hR R; try clear kq23 kz23
      try simp only [go_sem, ldS_at hd, stX_at hd, ldS_sv hlt, stX_sv hlt, sv_ext hlt, sv_ext_sv hlt, hq4, hb1, hnf, hb2, hod, hb1]
      refine W_seq fun kz24 kq24 => ?_
      refine W_seq fun kz25 kq25 => ?_
      refine W_region [6, 7, 12, 13, 14] fun R hR => ?_   -- r20
      simp only [go_sem, ldS_at hd, stX_at hd, ldS_sv hlt, stX_sv hlt, sv_ext hlt, sv_ext_sv hlt, hq4, hb1, hnf, hb2, hod, hb1]
      refine hR _ _ (kq25 _ _ ?_); clear hR R; try clear kq25 kz25
      try simp only [go_sem, ldS_at hd, stX_at hd, ldS_sv hlt, stX_sv hlt, sv_ext hlt, sv_ext_sv hlt, hq4, hb1, hnf, hb2, hod, hb1]
      refine W_block ?_
      have hol : od.length = op.length := by rw [dod.length_eq]; simp
      refine W_weak (Weak.room (t := 13) (es := 4) rfl (by simp)) ?_
      refine W_weak (Weak.keep [6, 7, 12, 13, 14]) ?_
      simp only [go_sem, ldS_at hd, stX_at hd, ldS_sv hlt, stX_sv hlt, sv_ext hlt, sv_ext_sv hlt, hq4, hb1, hnf, hb2, hod, hb1]
      refine W_loopT (α := Nat) (fun (i : Nat) => [(13, .isl ((pickE op (od.take i)).map evPV) (.tok (σ.rooms.length + 3) i 4)), (14, I i)]) (fun (i : Nat) => (σ.setVar d [.int .u64 b1]).ext [some (scCells s), some [.isl [] .exact, .isl [] .exact, .isl [] .exact], some [.isl (op.map evPV) (.tok σ.rooms.length op.length 4), .isl (ab.map stPV) (.tok (σ.rooms.length + 1) ab.length 2), .isl (fi.map stPV) (.tok (σ.rooms.length + 2) fi.length 2)]] [op.length, ab.length, fi.length, i]) (fun (i : Nat) => i ≤ od.length) (fun (i : Nat) => od.length - i) (0) rfl (by first | rfl | (simp only [go_sem]; done) | (simp only [go_sem]; rfl)) (Nat.zero_le _) ?_
      rintro i hi
      refine W_seq fun kz26 kq26 => ?_
      refine W_seq fun kz27 kq27 => ?_
      refine W_region [6, 7, 12, 13, 14, 102] fun R hR => ?_   -- r21
      simp only [go_sem, ldS_at hd, stX_at hd, ldS_sv hlt, stX_sv hlt, sv_ext hlt, sv_ext_sv hlt, hq4, hb1, hnf, hb2, hod, hb1]
      refine hR _ _ (kq27 _ _ ?_); clear hR R; try clear kq27 kz27
      try simp only [go_sem, ldS_at hd, stX_at hd, ldS_sv hlt, stX_sv hlt, sv_ext hlt, sv_ext_sv hlt, hq4, hb1, hnf, hb2, hod, hb1]
      refine W_cond rfl (fun c6 => ?_) (fun c6 => ?_)
      · -- c6 true
        try simp only [nrm] at c6
        have hi' : i < od.length := by first | omega | (simp at c6; omega)
        obtain ⟨x, hx⟩ : ∃ x, od[i]? = some x := ⟨od[i], by simp [hi']⟩
        obtain ⟨y, rfl, hy⟩ : ∃ y : Nat, x = y ∧ y < op.length := by
          obtain ⟨y, h1, h2⟩ := List.mem_map.1 (dod.mem_iff.1 (List.mem_of_getElem? hx))
          exact ⟨y, h2.symm, List.mem_range.1 h1⟩
        obtain ⟨e, he⟩ : ∃ e, op[y]? = some e := ⟨op[y], by simp [hy]⟩
        have hpl : (pickE op (od.take i)).length = i := by simp [pickE]; omega
        have hpk : pickE op (od.take (i + 1)) = pickE op (od.take i) ++ [e] := by rw [List.take_add_one, hx]; simp [pickE, he]
        refine W_skip (kq26 _ _ ?_)
        refine W_seq fun kz28 kq28 => ?_
        refine W_block ?_
        refine W_draw [6, 7, 12, 13, 14] [0, 1, 2, 3, 4, 5, 6, 7, 8, 9, 10, 11] [] [[], [], [1], [], [], [3, 4], [3, 4, 5], [1, 2, 3, 4, 5, 6], [1, 2, 3, 4, 5, 6, 7], [1, 2, 3, 4, 5, 6, 7, 8], [0, 1, 2, 3, 4, 5, 6, 7, 8, 9], [0, 1, 2, 3, 4, 5, 6, 7, 8, 9, 10]] mixed (by kernel_rfl) fun R hR => ?_   -- r23
        simp only [go_sem, ldS_at hd, stX_at hd, ldS_sv hlt, stX_sv hlt, sv_ext hlt, sv_ext_sv hlt, hq4, hb1, hnf, hb2, hod, hb1, hx, he]
        try simp (disch := first | omega | (simp only [go_sem] <;> omega)) only [wrapI, wrapU, appX_exact, appX_tok]
        try simp only [go_sem, ldS_at hd, stX_at hd, ldS_sv hlt, stX_sv hlt, sv_ext hlt, sv_ext_sv hlt, hq4, hb1, hnf, hb2, hod, hb1, hx, he]
        try refine And.intro (by repeat' (first | refine And.intro ?_ ?_ | exact GOr_right (fun _ => by simp only [go_sem, ldS_at hd, stX_at hd, ldS_sv hlt, stX_sv hlt, sv_ext hlt, sv_ext_sv hlt, hq4, hb1, hnf, hb2, hod, hb1, hx, he]))) ?_
        refine hR _ _ (kq28 _ _ ?_); clear hR R; try clear kq28 kz28
        try simp only [go_sem, ldS_at hd, stX_at hd, ldS_sv hlt, stX_sv hlt, sv_ext hlt, sv_ext_sv hlt, hq4, hb1, hnf, hb2, hod, hb1, hx, he]
        refine W_region [6, 7, 12, 13, 14] fun R hR => ?_   -- r22
        simp only [go_sem, ldS_at hd, stX_at hd, ldS_sv hlt, stX_sv hlt, sv_ext hlt, sv_ext_sv hlt, hq4, hb1, hnf, hb2, hod, hb1, hx, he]
        try simp (disch := omega) only [wrapI, wrapU]
        refine hR _ _ ?_; clear hR R
        try simp only [go_sem, ldS_at hd, stX_at hd, ldS_sv hlt, stX_sv hlt, sv_ext hlt, sv_ext_sv hlt, hq4, hb1, hnf, hb2, hod, hb1, hx, he]
        refine ⟨i + 1, ?_, by (try simp only []); omega, ?_⟩
        · refine Weak.eq (by first | rfl | (simp only [go_sem, hpk, hpl, List.map_append]; done) | (simp [go_sem, hpk, hpl]; done)) ?_
          simp only [go_sem, hpl]
        · try dsimp only
          omega
      · -- c6 false
        try simp only [nrm] at c6
        have hie : od.length = i := by first | omega | (simp at c6; omega)
        subst hie
        simp only [List.take_length, hol]
        refine W_exit ?_
        simp only [go_sem, ldS_at hd, stX_at hd, ldS_sv hlt, stX_sv hlt, sv_ext hlt, sv_ext_sv hlt, hq4, hb1, hnf, hb2, hod, hb1]
        refine kq24 _ _ ?_
        refine W_seq fun kz29 kq29 => ?_
        refine W_region [6, 7] fun R hR => ?_   -- r24
        simp only [go_sem, ldS_at hd, stX_at hd, ldS_sv hlt, stX_sv hlt, sv_ext hlt, sv_ext_sv hlt, hq4, hb1, hnf, hb2, hod, hb1]
        refine hR _ _ (kq29 _ _ ?_); clear hR R; try clear kq29 kz29
        try simp only [go_sem, ldS_at hd, stX_at hd, ldS_sv hlt, stX_sv hlt, sv_ext hlt, sv_ext_sv hlt, hq4, hb1, hnf, hb2, hod, hb1]
        refine W_seq fun kz30 kq30 => ?_
        refine W_region [6] fun R hR => ?_   -- r25
        simp only [go_sem, ldS_at hd, stX_at hd, ldS_sv hlt, stX_sv hlt, sv_ext hlt, sv_ext_sv hlt, hq4, hb1, hnf, hb2, hod, hb1]
        refine hR _ _ (kq30 _ _ ?_); clear hR R; try clear kq30 kz30
        try simp only [go_sem, ldS_at hd, stX_at hd, ldS_sv hlt, stX_sv hlt, sv_ext hlt, sv_ext_sv hlt, hq4, hb1, hnf, hb2, hod, hb1]
        refine W_ret ?_
        simp only [go_sem, ldS_at hd, stX_at hd, ldS_sv hlt, stX_sv hlt, sv_ext hlt, sv_ext_sv hlt, hq4, hb1, hnf, hb2, hod, hb1]
        refine ⟨.inr (by trivial), ?_⟩
        rw [← hres]; refine Fin_set hcl (by simp only [go_sem]) (by show resPV Tryz.prog _ _ [.cell 6 29] = some _; simp only [resPV, go_sem]; rfl) (Wk.ro (by simp only [go_sem]) ?_)
        try simp only [go_sem]
        all_goals
          rw [← hol, List.take_length]
end Go.Proofs.YtgelnjmddabgpaaGreat
namespace Go.Proofs.YtgelnjmddabgpaaGreat
set_option maxRecDepth 100000
def Bef (m j : Nat) (p : Int × Int) : Prop := p.1 < m ∨ (p.1 = m ∧ p.2 < j)
structure RInv (s : Scale) (dec : Bool) (m j : Nat) (here : Int) (op : List Envl) (ab : List (Int × Int)) : Prop where
  go : ∀ x, x ∈ op → GoodE s x ∧ Bef m j (jdE x)
  ga : ∀ a, a ∈ ab → ofSc s a = true ∧ Bef m j a
  nd : (op.map jdE ++ ab).Nodup
  sh : ∀ m' : Int, 0 ≤ m' → m' < m → ∃ q, (0 ≤ q ∧ q < s.judges) ∧ (m', q) ∉ ab
  he : 0 < here → ∃ q : Int, (0 ≤ q ∧ q < j) ∧ ((m : Int), q) ∉ ab
  h0 : 0 ≤ here
  dc : dec = true → ∀ p, ofSc s p = true → Bef m j p → p ∈ ab ∨ ∃ x, x ∈ op ∧ jdE x = p
  l1 : op.length ≤ 5 * m + j
  l2 : ab.length ≤ 5 * m + j
theorem Bef.mono {m j : Nat} {p : Int × Int} (h : Bef m j p) : Bef m (j + 1) p := by
  unfold Bef at *; omega
theorem sealed_good {s : Scale} (hc : chkSc s = 0) {m j : Int} {l : List Int} (hj : ofSc s (m, j) = true) (hl : (l.length : Int) = s.schools ∧ ∀ x, x ∈ l → s.low ≤ x ∧ x ≤ s.high) : GoodE s (sealedE s m j l) := by
  have hm : marked s (m, j) l = 0 := marked_of hj hl.1 hl.2
  refine ⟨hm, ?_⟩
  show (sealAns s (m, j) l).1 = sealOf (m, j) l
  unfold sealAns
  rw [if_neg (by simp [hc]), if_neg (by simp [hm])]
section
variable {s : Scale} {dec : Bool} {m j : Nat} {here : Int} {op : List Envl} {ab : List (Int × Int)}
theorem RInv.absent (h : RInv s dec m j here op ab) (hj : ofSc s ((m : Int), (j : Int)) = true) : RInv s dec m (j + 1) here op (ab ++ [((m : Int), (j : Int))]) where
  go := fun x hx => ⟨(h.go x hx).1, (h.go x hx).2.mono⟩
  ga := fun a ha => by
    rcases List.mem_append.1 ha with ha | ha
    · exact ⟨(h.ga a ha).1, (h.ga a ha).2.mono⟩
    · simp at ha; subst ha; exact ⟨hj, .inr ⟨rfl, by simp; omega⟩⟩
  nd := by
    rw [← List.append_assoc, List.nodup_append]
    refine ⟨h.nd, by simp, fun a ha b hb e => ?_⟩
    simp at hb
    subst hb e
    rcases List.mem_append.1 ha with ha | ha
    · obtain ⟨x, hx, e⟩ := List.mem_map.1 ha
      have := (h.go x hx).2
      rw [e] at this
      unfold Bef at this; simp at this
    · have := (h.ga _ ha).2
      unfold Bef at this; simp at this
  sh := fun m' a b => by
    obtain ⟨q, h1, h2⟩ := h.sh m' a b
    refine ⟨q, h1, fun hq => ?_⟩
    rcases List.mem_append.1 hq with hq | hq
    · exact h2 hq
    · simp at hq; omega
  he := fun hh => by
    obtain ⟨q, h1, h2⟩ := h.he hh
    refine ⟨q, by omega, fun hq => ?_⟩
    rcases List.mem_append.1 hq with hq | hq
    · exact h2 hq
    · simp at hq; omega
  h0 := h.h0
  dc := fun hd p hp hb => by
    by_cases e : p = ((m : Int), (j : Int))
    · exact .inl (by simp [e])
    · have : Bef m j p := by
        unfold Bef at *
        have : ¬ (p.1 = m ∧ p.2 = j) := fun ⟨a, b⟩ => e (Prod.ext a b)
        omega
      rcases h.dc hd p hp this with k | k
      · exact .inl (by simp [k])
      · exact .inr k
  l1 := by have := h.l1; omega
  l2 := by have := h.l2; simp; omega
theorem RInv.skip (h : RInv s dec m j here op ab) (hd : dec = false) : RInv s dec m (j + 1) (here + 1) op ab where
  go := fun x hx => ⟨(h.go x hx).1, (h.go x hx).2.mono⟩
  ga := fun a ha => ⟨(h.ga a ha).1, (h.ga a ha).2.mono⟩
  nd := h.nd
  sh := h.sh
  he := fun _ => ⟨j, by omega, fun ha => by have := (h.ga _ ha).2; unfold Bef at this; simp at this⟩
  h0 := by have := h.h0; omega
  dc := fun e => by rw [hd] at e; cases e
  l1 := by have := h.l1; omega
  l2 := by have := h.l2; omega
theorem RInv.opened (h : RInv s dec m j here op ab) (hc : chkSc s = 0) (hj : ofSc s ((m : Int), (j : Int)) = true) {l : List Int} (hl : (l.length : Int) = s.schools ∧ ∀ x, x ∈ l → s.low ≤ x ∧ x ≤ s.high) : RInv s dec m (j + 1) (here + 1) (op ++ [sealedE s m j l]) ab where
  go := fun x hx => by
    rcases List.mem_append.1 hx with hx | hx
    · exact ⟨(h.go x hx).1, (h.go x hx).2.mono⟩
    · simp at hx; subst hx; exact ⟨sealed_good hc hj hl, .inr ⟨rfl, by simp [jdE, sealedE]; omega⟩⟩
  ga := fun a ha => ⟨(h.ga a ha).1, (h.ga a ha).2.mono⟩
  nd := by
    have hnew : ((m : Int), (j : Int)) ∉ op.map jdE ++ ab := fun ha => by
      rcases List.mem_append.1 ha with ha | ha
      · obtain ⟨x, hx, e⟩ := List.mem_map.1 ha
        have := (h.go x hx).2
        rw [e] at this
        unfold Bef at this; simp at this
      · have := (h.ga _ ha).2
        unfold Bef at this; simp at this
    rw [List.map_append, List.append_assoc]
    show (op.map jdE ++ ([((m : Int), (j : Int))] ++ ab)).Nodup
    have : (op.map jdE ++ ([((m : Int), (j : Int))] ++ ab)).Perm (((m : Int), (j : Int)) :: (op.map jdE ++ ab)) := List.perm_middle
    rw [this.nodup_iff, List.nodup_cons]
    exact ⟨hnew, h.nd⟩
  sh := h.sh
  he := fun _ => ⟨j, by omega, fun ha => by have := (h.ga _ ha).2; unfold Bef at this; simp at this⟩
  h0 := by have := h.h0; omega
  dc := fun hd p hp hb => by
    by_cases e : p = ((m : Int), (j : Int))
    · exact .inr ⟨_, List.mem_append.2 (.inr (List.mem_singleton.2 rfl)), e.symm⟩
    · have : Bef m j p := by
        unfold Bef at *
        have : ¬ (p.1 = m ∧ p.2 = j) := fun ⟨a, b⟩ => e (Prod.ext a b)
        omega
      rcases h.dc hd p hp this with k | ⟨x, k1, k2⟩
      · exact .inl k
      · exact .inr ⟨x, by simp [k1], k2⟩
  l1 := by have := h.l1; simp; omega
  l2 := by have := h.l2; omega
theorem RInv.next (h : RInv s dec m j here op ab) (hv : s.V) (hJ : s.judges = j) (hh : 0 < here) : RInv s dec (m + 1) 0 0 op ab where
  go := fun x hx => ⟨(h.go x hx).1, by have := (h.go x hx).2; unfold Bef at *; omega⟩
  ga := fun a ha => ⟨(h.ga a ha).1, by have := (h.ga a ha).2; unfold Bef at *; omega⟩
  nd := h.nd
  sh := fun m' a b => by
    by_cases e : m' < m
    · exact h.sh m' a e
    · obtain ⟨q, h1, h2⟩ := h.he hh
      have e2 : m' = m := by omega
      subst e2
      exact ⟨q, by omega, h2⟩
  he := fun a => absurd a (by omega)
  h0 := Int.le_refl _
  dc := fun hd p hp hb => h.dc hd p hp (by
    obtain ⟨_, h2⟩ := ofSc_true.1 hp
    unfold Bef at *
    omega)
  l1 := by have := h.l1; have := hv.jd; omega
  l2 := by have := h.l2; have := hv.jd; omega
end
theorem nightJ_ok {s : Scale} {dec : Bool} (hc : chkSc s = 0) {J m : Nat} (hJ : s.judges = J) (hm : (m : Int) < s.matters) : ∀ (k : Nat) (here : Int) (op : List Envl) (ab : List (Int × Int)), k ≤ J → RInv s dec m (J - k) here op ab → (k = 0 → 0 < here) → Holds (nightJ s dec J m k here op ab) fun p => RInv s dec (m + 1) 0 0 p.1 p.2 := by
  have hv := Scale.v hc
  have hjd := hv.jd
  intro k
  induction k with
  | zero =>
    intro here op ab _ h h0
    exact .ret (h.next hv (by simpa using hJ) (h0 rfl))
  | succ k ih =>
    intro here op ab hk h _
    have e : J - k = (J - (k + 1)) + 1 := by omega
    have hj : ofSc s ((m : Int), ((J - (k + 1) : Nat) : Int)) = true := by rw [ofSc_true]; constructor <;> simp <;> omega
    have hh := h.h0
    simp only [nightJ]
    have hr : Holds (rare 5) fun _ => True := fun _ => trivial
    refine hr.bind fun a _ => ?_
    split
    · rename_i hcond
      refine ih _ _ _ (by omega) (by rw [e]; exact h.absent hj) fun hk0 => ?_
      subst hk0
      omega
    · split
      · exact (marksD_ok hv).bind fun l hl => ih _ _ _ (by omega) (by rw [e]; exact h.opened hc hj hl) fun _ => by omega
      · rename_i hd
        have hr : Holds (rare 3) fun _ => True := fun _ => trivial
        refine hr.bind fun r _ => ?_
        split
        · exact ih _ _ _ (by omega) (by rw [e]; exact h.skip (by simpa using hd)) fun _ => by omega
        · exact (marksD_ok hv).bind fun l hl => ih _ _ _ (by omega) (by rw [e]; exact h.opened hc hj hl) fun _ => by omega
theorem nightM_ok {s : Scale} {dec : Bool} (hc : chkSc s = 0) {M J : Nat} (hM : s.matters = M) (hJ : s.judges = J) : ∀ (k : Nat) (op : List Envl) (ab : List (Int × Int)), k ≤ M → RInv s dec (M - k) 0 0 op ab → Holds (nightM s dec M J k op ab) fun p => RInv s dec M 0 0 p.1 p.2 := by
  have hjd := (Scale.v hc).jd
  intro k
  induction k with
  | zero => intro op ab _ h; exact .ret h
  | succ k ih =>
    intro op ab hk h
    simp only [nightM]
    refine (nightJ_ok hc hJ (by omega) J 0 op ab (Nat.le_refl _) (by rw [Nat.sub_self]; exact h) (fun e => by omega)).bind fun p hp => ih _ _ (by omega) ?_
    rw [show M - k = M - (k + 1) + 1 by omega]
    exact hp
def FinesIn (sc : Int) (l : List (Int × Int)) : Prop := ∀ f, f ∈ l → (0 ≤ f.1 ∧ f.1 ≤ sc - 1) ∧ 0 ≤ f.2 ∧ f.2 ≤ 1000
theorem finesC_ok {sc : Int} (hs : 1 ≤ sc) : ∀ (k : Nat) (fi : List (Int × Int)), FinesIn sc fi → Holds (finesC sc k fi) fun l => FinesIn sc l ∧ l.length = fi.length + k := by
  intro k
  induction k with
  | zero => intro fi h; exact .ret ⟨h, rfl⟩
  | succ k ih =>
    intro fi h
    simp only [finesC]
    refine (roll_bd sc).bind fun a ha => (anyOf_mem [3, 100] (by simp)).bind fun y hy => (roll_bd y).bind fun p hp => (ih (fi ++ [(a, p)]) fun f hf => ?_).mono fun l hl => ⟨hl.1, by rw [hl.2]; simp; omega⟩
    rcases List.mem_append.1 hf with hf | hf
    · exact h f hf
    · simp at hf
      subst hf
      simp only
      rcases mem2 hy with rfl | rfl <;> omega
theorem finesD_ok {sc : Int} (hs : 1 ≤ sc) : Holds (finesD sc) fun l => FinesIn sc l ∧ l.length ≤ 3 := by
  unfold finesD
  refine (roll_bd 4).bind fun q hq => (anyOf_mem [0, 0, q] (by simp)).bind fun n hn => (finesC_ok hs n.toNat [] (fun f hf => by cases hf)).mono fun l hl => ⟨hl.1, ?_⟩
  have : 0 ≤ n ∧ n ≤ 3 := by rcases mem3 hn with rfl | rfl | rfl <;> omega
  rw [hl.2]; simp; omega
theorem finesR_zero {s : Scale} : ∀ {l : List (Int × Int)}, finesR s l = 0 ↔ FinesIn s.schools l := by
  intro l
  induction l with
  | nil => simp [finesR, FinesIn]
  | cons f l ih =>
    simp only [finesR]
    by_cases h1 : inR f.1 0 (s.schools - 1) = true
    · rw [h1]
      simp only [Bool.not_true, Bool.false_eq_true, if_false]
      by_cases h2 : inR f.2 0 1000 = true
      · rw [h2]
        simp only [Bool.not_true, Bool.false_eq_true, if_false]
        rw [ih]
        constructor
        · intro h g hg
          rcases List.mem_cons.1 hg with rfl | hg
          · exact ⟨inR_true.1 h1, inR_true.1 h2⟩
          · exact h g hg
        · intro h g hg; exact h g (by simp [hg])
      · have e : inR f.2 0 1000 = false := by simpa using h2
        rw [e]
        constructor
        · intro h; exact absurd h (by simp)
        · intro h; exact absurd (inR_true.2 (h f (by simp)).2) h2
    · have e : inR f.1 0 (s.schools - 1) = false := by simpa using h1
      rw [e]
      constructor
      · intro h; exact absurd h (by simp)
      · intro h; exact absurd (inR_true.2 (h f (by simp)).1) h1
theorem pickE_perm {op : List Envl} {od : List Int} (h : od.Perm ((List.range op.length).map fun (i : Nat) => (i : Int))) : (pickE op od).Perm op := by
  have h1 := h.map fun i : Int => (op[i.toNat]?).getD ⟨0, 0, [], 0⟩
  refine h1.trans ?_
  rw [List.map_map]
  have : (List.range op.length).map ((fun i : Int => (op[i.toNat]?).getD ⟨0, 0, [], 0⟩) ∘ fun (i : Nat) => (i : Int)) = op := by
    apply List.ext_getElem?
    intro i
    by_cases hi : i < op.length
    · simp [hi]
    · simp [hi]
  rw [this]
theorem sameE_of_nodup : ∀ {l : List Envl}, (l.map jdE).Nodup → SameE l := by
  intro l
  induction l with
  | nil => intro _ x hx; cases hx
  | cons a l ih =>
    intro h x hx y hy e
    rw [List.map_cons, List.nodup_cons] at h
    rcases List.mem_cons.1 hx with rfl | hx'
    · rcases List.mem_cons.1 hy with rfl | hy
      · rfl
      · exact absurd (List.mem_map.2 ⟨y, hy, e.symm⟩) h.1
    · rcases List.mem_cons.1 hy with rfl | hy
      · exact absurd (List.mem_map.2 ⟨x, hx', e⟩) h.1
      · exact ih h.2 x hx' y hy e
structure NightM (s : Scale) (dec : Bool) (n : Night) : Prop where
  v : NightV s n
  l1 : n.opened.length ≤ 30
  l2 : n.absent.length ≤ 30
  l3 : n.fines.length ≤ 3
  nd : (n.opened.map jdE).Nodup
  fi : FinesIn s.schools n.fines
  dc : dec = true → ∀ p, ofSc s p = true → p ∈ n.absent ∨ ∃ x, x ∈ n.opened ∧ jdE x = p
theorem nightD_ok {s : Scale} (hc : chkSc s = 0) (dec : Bool) : Holds (nightD s dec) (NightM s dec) := by
  have hv := Scale.v hc
  have q1 := hv.mt
  have q2 := hv.jd
  have q3 := hv.sc
  unfold nightD
  have h0 : RInv s dec (s.matters.toNat - s.matters.toNat) 0 0 [] [] := by
    rw [Nat.sub_self]
    exact ⟨(fun x hx => by cases hx), (fun x hx => by cases hx), by simp, (fun m' a b => by omega), (fun h => absurd h (by omega)), Int.le_refl _, (fun _ p hp hb => by
      obtain ⟨h1, _⟩ := ofSc_true.1 hp
      unfold Bef at hb; omega), by simp, by simp⟩
  refine (nightM_ok hc (by omega) (by omega) s.matters.toNat [] [] (Nat.le_refl _) h0).bind fun p hp => (finesD_ok q3.1).bind fun fi hfi => (orderD_perm p.1.length).bind fun od hod => .ret ?_
  have hpm := pickE_perm hod
  have hmem : ∀ x, x ∈ pickE p.1 od ↔ x ∈ p.1 := fun x => hpm.mem_iff
  have hnd : ((pickE p.1 od).map jdE).Nodup := (hpm.map jdE).nodup_iff.2 (List.nodup_append.1 hp.nd).1
  have l1 := hp.l1
  have l2 := hp.l2
  have hl := hpm.length_eq
  refine ⟨⟨hc, by simp only; omega, fun x hx => (hp.go x ((hmem x).1 hx)).1, sameE_of_nodup hnd, by simp only; omega, fun j hj => ⟨(hp.ga j hj).1, fun x hx e => ?_⟩, fun m m0 m1 => hp.sh m m0 (by omega), ?_⟩, by simp only; omega, by simp only; omega, hfi.2, hnd, hfi.1, fun hd q hq => ?_⟩
  · exact (List.nodup_append.1 hp.nd).2.2 (jdE x) (List.mem_map.2 ⟨x, (hmem x).1 hx, rfl⟩) j hj e
  · show finesE s fi = 0
    unfold finesE
    rw [if_neg (by omega)]
    exact finesR_zero.2 hfi.1
  · rcases hp.dc hd q hq (.inl (by obtain ⟨h1, _⟩ := ofSc_true.1 hq; omega)) with k | ⟨x, k1, k2⟩
    · exact .inl k
    · exact .inr ⟨x, (hmem x).2 k1, k2⟩
theorem NightV.ok {s : Scale} {n : Night} (h : NightV s n) : n.Ok := by
  have hv := Scale.v h.c
  have hs := hv.sc
  have h1 := h.o60
  have h2 := h.a60
  refine ⟨by omega, by omega, ?_, fun x hx => ?_⟩
  · have := h.fi
    unfold finesE at this
    split at this
    · cases this
    · omega
  · have := (marked_ok (h.op x hx).m).2.1
    omega
end Go.Proofs.YtgelnjmddabgpaaGreat
namespace Go.Proofs.YtgelnjmddabgpaaGreat
open Go Go.RowKit
set_option maxRecDepth 100000
def exTab : List Stand := [⟨0, 385, [195, 190]⟩, ⟨2, 365, [175, 195]⟩, ⟨1, 365, [195, 170]⟩]
def exTot : List (Int × Int) := [(340, 385), (355, 390), (345, 370)]
set_option maxHeartbeats 4000000 in
theorem awake_pc (Y : YEnv) (σ : Sg)  :
    PC Tryz.prog Y 10 [] σ (.bool true) (σ) := by
  refine PC_of_W Tryz.func10 rfl (by kernel_rfl) Tryz.ntmps10 (by simp) fun hcl hca => ?_
  refine W_seq fun kz1 kq1 => ?_
  refine W_region [] fun R hR => ?_   -- r0
  simp only [go_sem]
  refine hR _ _ (kq1 _ _ ?_); clear hR R; try clear kq1 kz1
  try simp only [go_sem]
  refine W_seq fun kz2 kq2 => ?_
  refine W_region [1, 2] fun R hR => ?_   -- r1
  simp only [go_sem]
  refine GCall_of (scale_pc Y _) ?_   -- t8
  simp only [go_sem]
  refine GCall_of (night_pc Y _) ?_   -- t9
  simp only [go_sem]
  refine GCall_of (PC.val (v' := .tuple [sds exTab, I 0]) (Table_pc Y _ exScale exNight exScale_ok exNight_ok) (by rw [exTable]; rfl)) ?_   -- t10
  simp only [go_sem]
  refine hR _ _ (kq2 _ _ ?_); clear hR R; try clear kq2 kz2
  try simp only [go_sem]
  refine W_seq fun kz3 kq3 => ?_
  refine W_region [1, 2, 3, 4] fun R hR => ?_   -- r2
  simp only [go_sem]
  refine GCall_of (scale_pc Y _) ?_   -- t14
  simp only [go_sem]
  refine GCall_of (before_pc Y _) ?_   -- t15
  simp only [go_sem]
  refine GCall_of (PC.val (v' := .tuple [sts exTot, I 0]) (Totals_pc Y _ exScale exBefore exScale_ok exBefore_ok) (by rw [exTotals]; rfl)) ?_   -- t16
  simp only [go_sem]
  refine hR _ _ (kq3 _ _ ?_); clear hR R; try clear kq3 kz3
  try simp only [go_sem]
  refine W_seq fun kz4 kq4 => ?_
  refine W_region [1, 2, 3, 4, 5, 6] fun R hR => ?_   -- r3
  simp only [go_sem]
  refine GCall_of (scale_pc Y _) ?_   -- t20
  simp only [go_sem]
  refine GCall_of (before_pc Y _) ?_   -- t21
  simp only [go_sem]
  refine GCall_of (PC.val (v' := .tuple [.agg [I 1, I 3], I 0]) (Place_pc Y _ exScale exBefore exScale_ok exBefore_ok 0) (by rw [exPlace])) ?_   -- t22
  simp only [go_sem]
  refine hR _ _ (kq4 _ _ ?_); clear hR R; try clear kq4 kz4
  try simp only [go_sem]
  refine W_seq fun kz5 kq5 => ?_
  refine W_draw [0] [0, 1, 2, 3, 4, 5, 6, 7, 8, 9, 10, 11, 12, 13, 14, 15, 16, 17, 18, 19, 20, 21, 22, 23, 24, 25, 26, 27, 28, 29, 30, 31, 32, 33, 34] [(22, 24), (22, 25), (22, 27), (30, 35)] [[], [0], [0, 1], [0, 1, 2], [0, 1, 2, 3], [0, 1, 2, 3, 4], [0, 1, 2, 3, 4, 5], [0, 1, 2, 3, 4, 5, 6], [0, 1, 2, 3, 4, 5, 6, 7], [0, 1, 2, 3, 4, 5, 6, 7, 8], [0, 1, 2, 3, 4, 5, 6, 7, 8, 9], [0, 1, 2, 3, 4, 5, 6, 7, 8, 9, 10], [0, 1, 2, 3, 4, 5, 6, 7, 8, 9, 10], [0, 1, 2, 3, 4, 5, 6, 7, 8, 9, 10, 12], [0, 1, 2, 3, 4, 5, 6, 7, 8, 9, 10], [0, 1, 2, 3, 4, 5, 6, 7, 8, 9, 10, 14], [0, 1, 2, 3, 4, 5, 6, 7, 8, 9, 10], [0, 1, 2, 3, 4, 5, 6, 7, 8, 9, 10, 16], [0, 1, 2, 3, 4, 5, 6, 7, 8, 9, 10, 12, 13, 14, 15, 16, 17], [0, 1, 2, 3, 4, 5, 6, 7, 8, 9, 10, 11, 12, 13, 14, 15, 16, 17, 18], [0, 1, 2, 3, 4, 5, 6, 7, 8, 9, 10, 11, 12, 13, 14, 15, 16, 17, 18, 19], [0, 1, 2, 3, 4, 5, 6, 7, 8, 9, 10, 11, 12, 13, 14, 15, 16, 17, 18, 19, 20], [0, 1, 2, 3, 4, 5, 6, 7, 8, 9, 10, 11, 12, 13, 14, 15, 16, 17, 18, 19, 20, 21], [0, 1, 2, 3, 4, 5, 6, 7, 8, 9, 10, 11, 12, 13, 14, 15, 16, 17, 18, 19, 20, 21], [0, 1, 2, 3, 4, 5, 6, 7, 8, 9, 10, 11, 12, 13, 14, 15, 16, 17, 18, 19, 20, 21, 23], [0, 1, 2, 3, 4, 5, 6, 7, 8, 9, 10, 11, 12, 13, 14, 15, 16, 17, 18, 19, 20, 21, 23, 24], [0, 1, 2, 3, 4, 5, 6, 7, 8, 9, 10, 11, 12, 13, 14, 15, 16, 17, 18, 19, 20, 21, 23, 24, 25], [0, 1, 2, 3, 4, 5, 6, 7, 8, 9, 10, 11, 12, 13, 14, 15, 16, 17, 18, 19, 20, 21, 22, 23, 24, 25, 26], [0, 1, 2, 3, 4, 5, 6, 7, 8, 9, 10, 11, 12, 13, 14, 15, 16, 17, 18, 19, 20, 21, 22, 23, 24, 25, 26, 27], [0, 1, 2, 3, 4, 5, 6, 7, 8, 9, 10, 11, 12, 13, 14, 15, 16, 17, 18, 19, 20, 21, 22, 23, 24, 25, 26, 27, 28], [0, 1, 2, 3, 4, 5, 6, 7, 8, 9, 10, 11, 12, 13, 14, 15, 16, 17, 18, 19, 20, 21, 22, 23, 24, 25, 26, 27, 28, 29], [0, 1, 2, 3, 4, 5, 6, 7, 8, 9, 10, 11, 12, 13, 14, 15, 16, 17, 18, 19, 20, 21, 22, 23, 24, 25, 26, 27, 28, 29], [0, 1, 2, 3, 4, 5, 6, 7, 8, 9, 10, 11, 12, 13, 14, 15, 16, 17, 18, 19, 20, 21, 22, 23, 24, 25, 26, 27, 28, 29, 30, 31], [0, 1, 2, 3, 4, 5, 6, 7, 8, 9, 10, 11, 12, 13, 14, 15, 16, 17, 18, 19, 20, 21, 22, 23, 24, 25, 26, 27, 28, 29, 30, 31, 32], [0, 1, 2, 3, 4, 5, 6, 7, 8, 9, 10, 11, 12, 13, 14, 15, 16, 17, 18, 19, 20, 21, 22, 23, 24, 25, 26, 27, 28, 29, 30, 31, 32, 33]] mixed (by kernel_rfl) fun R hR => ?_   -- r4
  simp only [go_sem]
  refine GCall_of (PC.val (v' := .bool true) (PC.ofRo (EqTables_pc Y _ exTab exTab .ro .ro (by decide) (by decide)) (by simp only [go_sem, exTab] <;> rfl)) (by rfl)) ?_   -- t44
  simp only [go_sem]
  refine GCall_of (span_pc Y _ 340 385) ?_   -- t48
  simp only [go_sem]
  refine GCall_of (span_pc Y _ 355 390) ?_   -- t49
  simp only [go_sem]
  refine GCall_of (span_pc Y _ 345 370) ?_   -- t50
  simp only [go_sem]
  refine GCall_of (EqSpans_pc Y _ exTot exTot .ro .exact (by decide)) ?_   -- t52
  simp only [go_sem]
  refine GCall_of (span_pc Y _ 1 3) ?_   -- t56
  simp only [go_sem]
  try refine And.intro (by repeat' (first | refine And.intro ?_ ?_ | exact GOr_right (fun _ => by simp only [go_sem]))) ?_
  refine hR _ _ (kq5 _ _ ?_); clear hR R; try clear kq5 kz5
  try simp only [go_sem]
  refine W_ret ?_
  simp only [go_sem]
  refine ⟨.inr (by trivial), ?_⟩
  first | refine Fin_same hcl rfl (Wk_eq ?_ (by simp only [go_sem])) | refine Fin_self hcl rfl (Wk_eq ?_ (by simp only [go_sem]))
  try simp only [go_sem]
  all_goals
    first | rfl | (simp_all; done) | (simp_all; omega)
end Go.Proofs.YtgelnjmddabgpaaGreat
namespace Go.Proofs.YtgelnjmddabgpaaGreat
open Go Go.RowKit
set_option maxRecDepth 100000
theorem Scale.V.okS8 {s : Scale} (h : s.V) : s.Ok := ⟨by have := h.ol; have := h.mt; omega⟩
theorem okC_sc8 {xs : List Scale} : okC 7 (xs.map scPV) = True := okC_map fun x => by simp [okC, scPV, scCells, PV.cells, PV.scalar]
theorem okC_ng8 {xs : List Night} : okC 3 (xs.map ngPV) = True := okC_map fun x => by simp [okC, ngPV, ngCells, PV.cells, PV.scalar]
theorem cA_sc8 {a b c : Nat} {xs : List Scale} : CleanAll a b c (xs.map scPV) = True := CleanAll_map clean_sc
theorem cA_ng8 {a b c : Nat} {xs : List Night} : CleanAll a b c (xs.map ngPV) = True := CleanAll_map clean_ng
attribute [go_sem] okC_sc8 okC_ng8 cA_sc8 cA_ng8
/-- What may come in. -/
structure RawIn8 (s : Scale) (n : Night) (x : Envl) : Prop where
  hs : s.order.length < 2 ^ 50
  ho : n.opened.length < 2 ^ 50
  ha : n.absent.length < 2 ^ 50
  hf : n.fines.length < 2 ^ 50
  hm : ∀ x, x ∈ n.opened → x.marks.length < 2 ^ 50
  hx : x.marks.length < 2 ^ 50
theorem miss_len (s : Scale) (g : Night) : (missQ s g).length ≤ 30 := by
  unfold missQ
  split
  · rename_i h
    exact sealed_len (Scale.v (nightV_iff.1 h).c) _
  · simp
set_option maxHeartbeats 16000000 in
theorem MarksChecks_pc (Y : YEnv) (σ : Sg) (s : Scale) (n : Night) (matter judge : Int) (l : List Int) (x : Envl) (nums : List Int) (hIn : RawIn8 s n x) (hll : l.length < 2 ^ 50) (hn : nums.length < 2 ^ 60) :
    PC Tryz.prog Y 8 [scPV s, ngPV n, I matter, I judge, ints l, evPV x, ints nums] σ (.bool true) (σ) := by
  refine PC_of_W Tryz.func8 rfl (by kernel_rfl) Tryz.ntmps8 (by simp) fun hcl hca => ?_
  have hxm := hIn.hx
  obtain ⟨b0, hb0⟩ : ∃ z, drumB nums 2685821657736338717 = z := ⟨_, rfl⟩
  obtain ⟨sm, hsm⟩ : ∃ zz, (scaleD 5 b0).1 = zz := ⟨_, rfl⟩
  obtain ⟨b1, hb1⟩ : ∃ zz, (scaleD 5 b0).2 = zz := ⟨_, rfl⟩
  have dsm := scaleD_ok 5 (by omega) (by omega) b0
  simp only [hsm] at dsm
  obtain ⟨dec, hdec⟩ : ∃ zz, (rare 2 b1).1 = zz := ⟨_, rfl⟩
  obtain ⟨b2, hb2⟩ : ∃ zz, (rare 2 b1).2 = zz := ⟨_, rfl⟩
  have hsc := dsm.1
  have hvS := Scale.v hsc
  have q1 := hvS.mt
  have q2 := hvS.jd
  have q3 := hvS.sc
  have hsO := hvS.okS8
  obtain ⟨gm, hgm⟩ : ∃ zz, (nightD sm dec b2).1 = zz := ⟨_, rfl⟩
  obtain ⟨b3, hb3⟩ : ∃ zz, (nightD sm dec b2).2 = zz := ⟨_, rfl⟩
  have dgm := nightD_ok hsc dec b2
  simp only [hgm] at dgm
  obtain ⟨rm, hrm⟩ : ∃ zz, (roll sm.matters b3).1 = zz := ⟨_, rfl⟩
  obtain ⟨b4, hb4⟩ : ∃ zz, (roll sm.matters b3).2 = zz := ⟨_, rfl⟩
  have drm := roll_bd sm.matters b3
  simp only [hrm] at drm
  obtain ⟨rj, hrj⟩ : ∃ zz, (roll sm.judges b4).1 = zz := ⟨_, rfl⟩
  obtain ⟨b5, hb5⟩ : ∃ zz, (roll sm.judges b4).2 = zz := ⟨_, rfl⟩
  have drj := roll_bd sm.judges b4
  simp only [hrj] at drj
  obtain ⟨ml, hml⟩ : ∃ zz, (marksD sm b5).1 = zz := ⟨_, rfl⟩
  obtain ⟨b6, hb6⟩ : ∃ zz, (marksD sm b5).2 = zz := ⟨_, rfl⟩
  have dml := marksD_ok hvS b5
  simp only [hml] at dml
  have hgO := dgm.v.ok
  have hgl := dgm.l1
  refine W_seq fun kz1 kq1 => ?_
  refine W_region [2, 3, 4, 6, 7, 8, 12] fun R hR => ?_   -- r0
  simp only [go_sem, hb0, List.append_eq, hsm, hb1, hdec, hb2, hgm, hb3, hrm, hb4, hrj, hb5, hml, hb6]
  refine hR _ _ (kq1 _ _ ?_); clear hR R; try clear kq1 kz1
  try simp only [go_sem, hb0, List.append_eq, hsm, hb1, hdec, hb2, hgm, hb3, hrm, hb4, hrj, hb5, hml, hb6]
  refine W_seq fun kz2 kq2 => ?_
  refine W_seq fun kz3 kq3 => ?_
  refine W_regionJ [2, 3, 4, 6, 7, 8, 12, 49] [(49, .bool (wideB s n || (decide (20 < (l.length : Int)) || decide (20 < (x.marks.length : Int)))))] ?_ fun R hR => ?_   -- r1
  · refine kq3 _ _ ?_
    simp only [go_sem, hb0, List.append_eq, hsm, hb1, hdec, hb2, hgm, hb3, hrm, hb4, hrj, hb5, hml, hb6]
    refine W_cond rfl (fun c1 => ?_) (fun c1 => ?_)
    · -- c1 true
      try simp only [nrm] at c1
      refine W_seq fun kz4 kq4 => ?_
      refine W_region [14] fun R hR => ?_   -- r2
      simp only [go_sem, hb0, List.append_eq, hsm, hb1, hdec, hb2, hgm, hb3, hrm, hb4, hrj, hb5, hml, hb6]
      refine GCall_of (awake_pc Y _) ?_   -- t50
      simp only [go_sem, hb0, List.append_eq, hsm, hb1, hdec, hb2, hgm, hb3, hrm, hb4, hrj, hb5, hml, hb6]
      refine hR _ _ (kq4 _ _ ?_); clear hR R; try clear kq4 kz4
      try simp only [go_sem, hb0, List.append_eq, hsm, hb1, hdec, hb2, hgm, hb3, hrm, hb4, hrj, hb5, hml, hb6]
      refine W_ret ?_
      simp only [go_sem, hb0, List.append_eq, hsm, hb1, hdec, hb2, hgm, hb3, hrm, hb4, hrj, hb5, hml, hb6]
      refine ⟨.inr (by trivial), ?_⟩
      first | refine Fin_same hcl rfl (Wk_eq ?_ (by simp only [go_sem])) | refine Fin_self hcl rfl (Wk_eq ?_ (by simp only [go_sem]))
      try simp only [go_sem]
      all_goals
        first | rfl | (simp_all; done)
    · -- c1 false
      try simp only [nrm] at c1
      have few := wide_not (Bool.or_eq_false_iff.1 c1).1
      have c1b := (Bool.or_eq_false_iff.1 c1).2
      rw [Bool.or_eq_false_iff, decide_eq_false_iff_not, decide_eq_false_iff_not] at c1b
      refine W_skip (kq2 _ _ ?_)
      refine W_seq fun kz5 kq5 => ?_
      refine W_region [2, 3, 4, 7, 8, 12, 15] fun R hR => ?_   -- r3
      simp only [go_sem, hb0, List.append_eq, hsm, hb1, hdec, hb2, hgm, hb3, hrm, hb4, hrj, hb5, hml, hb6]
      refine GCall_of (DrumOf_pc Y _ nums hn) ?_   -- t52
      simp only [go_sem, hb0, List.append_eq, hsm, hb1, hdec, hb2, hgm, hb3, hrm, hb4, hrj, hb5, hml, hb6]
      refine hR _ _ (kq5 _ _ ?_); clear hR R; try clear kq5 kz5
      try simp only [go_sem, hb0, List.append_eq, hsm, hb1, hdec, hb2, hgm, hb3, hrm, hb4, hrj, hb5, hml, hb6]
      refine W_seq fun kz6 kq6 => ?_
      refine W_region [2, 3, 4, 7, 8, 12, 15, 16] fun R hR => ?_   -- r4
      simp only [go_sem, hb0, List.append_eq, hsm, hb1, hdec, hb2, hgm, hb3, hrm, hb4, hrj, hb5, hml, hb6]
      refine GCall_of (ScaleOf_pc Y _ _ b0 (Sg.get_ext _ _ _ _ 3) 5 (by omega) (by omega)) ?_   -- t54
      simp only [go_sem, hb0, List.append_eq, hsm, hb1, hdec, hb2, hgm, hb3, hrm, hb4, hrj, hb5, hml, hb6]
      refine hR _ _ (kq6 _ _ ?_); clear hR R; try clear kq6 kz6
      try simp only [go_sem, hb0, List.append_eq, hsm, hb1, hdec, hb2, hgm, hb3, hrm, hb4, hrj, hb5, hml, hb6]
      refine W_seq fun kz7 kq7 => ?_
      refine W_draw [2, 3, 4, 7, 8, 12, 15, 16, 17] [0, 1, 2, 3, 4, 5, 6] [(0, 4), (1, 4)] [[], [], [], [2], [0, 1, 2, 3], [], [0, 1, 2, 3, 4, 5]] mixed (by kernel_rfl) fun R hR => ?_   -- r5
      simp only [go_sem, hb0, List.append_eq, hsm, hb1, hdec, hb2, hgm, hb3, hrm, hb4, hrj, hb5, hml, hb6]
      refine GCall_of (Rare_pc Y _ _ b1 (Sg.get_ext _ _ _ _ 3) 2 (by omega)) ?_   -- t58
      simp only [go_sem, hb0, List.append_eq, hsm, hb1, hdec, hb2, hgm, hb3, hrm, hb4, hrj, hb5, hml, hb6]
      refine GCall_of (NightOf_pc Y _ _ b2 (Sg.get_ext _ _ _ _ 3) sm hvS hsO dec) ?_   -- t59
      simp only [go_sem, hb0, List.append_eq, hsm, hb1, hdec, hb2, hgm, hb3, hrm, hb4, hrj, hb5, hml, hb6]
      try refine And.intro (by repeat' (first | refine And.intro ?_ ?_ | exact GOr_right (fun _ => by simp only [go_sem, hb0, List.append_eq, hsm, hb1, hdec, hb2, hgm, hb3, hrm, hb4, hrj, hb5, hml, hb6]))) ?_
      refine hR _ _ (kq7 _ _ ?_); clear hR R; try clear kq7 kz7
      try simp only [go_sem, hb0, List.append_eq, hsm, hb1, hdec, hb2, hgm, hb3, hrm, hb4, hrj, hb5, hml, hb6]
      refine W_seq fun kz8 kq8 => ?_
      refine W_region [2, 3, 4, 7, 8, 12, 15, 16, 17, 18] fun R hR => ?_   -- r6
      simp only [go_sem, hb0, List.append_eq, hsm, hb1, hdec, hb2, hgm, hb3, hrm, hb4, hrj, hb5, hml, hb6]
      refine GCall_of (OwnNightT_pc Y _ gm hgO) ?_   -- t61
      simp only [go_sem, hb0, List.append_eq, hsm, hb1, hdec, hb2, hgm, hb3, hrm, hb4, hrj, hb5, hml, hb6]
      refine hR _ _ (kq8 _ _ ?_); clear hR R; try clear kq8 kz8
      try simp only [go_sem, hb0, List.append_eq, hsm, hb1, hdec, hb2, hgm, hb3, hrm, hb4, hrj, hb5, hml, hb6]
      refine W_seq fun kz9 kq9 => ?_
      refine W_region [2, 3, 4, 7, 8, 15, 16, 17, 18] fun R hR => ?_   -- r7
      simp only [go_sem, hb0, List.append_eq, hsm, hb1, hdec, hb2, hgm, hb3, hrm, hb4, hrj, hb5, hml, hb6]
      try simp (disch := first | omega | (simp only [go_sem] <;> omega)) only [wrapI, wrapU, appX_exact, appX_tok]
      try simp only [go_sem, hb0, List.append_eq, hsm, hb1, hdec, hb2, hgm, hb3, hrm, hb4, hrj, hb5, hml, hb6]
      refine hR _ _ (kq9 _ _ ?_); clear hR R; try clear kq9 kz9
      try simp only [go_sem, hb0, List.append_eq, hsm, hb1, hdec, hb2, hgm, hb3, hrm, hb4, hrj, hb5, hml, hb6]
      refine W_seq fun kz10 kq10 => ?_
      refine W_draw [19, 20, 21, 22, 23] [0, 1, 2, 3, 4, 5, 6, 7, 8, 9, 10, 11, 12, 13, 14, 15, 16, 17, 18, 19, 20, 21, 22, 23, 24, 25, 26, 27, 28, 29, 30, 31, 32, 33, 34, 35, 36, 37] [(0, 22), (0, 29), (0, 38), (1, 22), (1, 29), (1, 38), (2, 22), (2, 29), (2, 38), (3, 22), (3, 29), (3, 38), (4, 22), (4, 29), (4, 38), (5, 22), (5, 29), (5, 38), (6, 22), (6, 29), (6, 38), (7, 22), (7, 29), (7, 38), (8, 22), (8, 29), (8, 38), (9, 22), (9, 29), (9, 38), (10, 22), (10, 29), (10, 38), (15, 14), (15, 29), (15, 38), (16, 14), (16, 29), (16, 38), (17, 29), (17, 38), (18, 14), (18, 29), (18, 38), (19, 14), (20, 14), (21, 14), (23, 14), (23, 22), (23, 38), (24, 14), (24, 22), (24, 38), (25, 38), (26, 14), (26, 22), (26, 38), (27, 14), (27, 22), (28, 14), (28, 22), (30, 14), (30, 22), (30, 29), (31, 14), (31, 22), (31, 29)] [[], [], [], [], [0, 1, 2, 3], [], [], [], [], [5, 6, 7, 8], [], [], [], [12], [11, 12, 13], [], [], [10, 11, 12, 13, 14, 15, 16], [], [], [], [20], [11, 12, 13, 14, 19, 20, 21], [], [], [11, 12, 13, 14, 18, 19, 20, 21, 22, 23, 24], [], [], [], [11, 12, 13, 14, 19, 20, 21, 22, 27, 28], [], [], [11, 12, 13, 14, 19, 20, 21, 22, 26, 27, 28, 29, 30, 31], [0, 1, 2, 3, 4, 11, 12, 13, 14, 19, 20, 21, 22, 27, 28, 29], [0, 1, 2, 3, 4, 5, 6, 7, 8, 9, 11, 12, 13, 14, 19, 20, 21, 22, 27, 28, 29, 33], [0, 1, 2, 3, 4, 5, 6, 7, 8, 9, 10, 11, 12, 13, 14, 15, 16, 17, 19, 20, 21, 22, 27, 28, 29, 33, 34], [0, 1, 2, 3, 4, 5, 6, 7, 8, 9, 10, 11, 12, 13, 14, 15, 16, 17, 18, 19, 20, 21, 22, 23, 24, 25, 27, 28, 29, 33, 34, 35], [0, 1, 2, 3, 4, 5, 6, 7, 8, 9, 10, 11, 12, 13, 14, 15, 16, 17, 18, 19, 20, 21, 22, 23, 24, 25, 26, 27, 28, 29, 30, 31, 32, 33, 34, 35, 36]] mixed (by kernel_rfl) fun R hR => ?_   -- r8
      simp only [go_sem, hb0, List.append_eq, hsm, hb1, hdec, hb2, hgm, hb3, hrm, hb4, hrj, hb5, hml, hb6]
      refine GCall_of (Roll_pc Y _ _ b3 (Sg.get_ext _ _ _ _ 3) sm.matters (by omega)) ?_   -- t82
      simp only [go_sem, hb0, List.append_eq, hsm, hb1, hdec, hb2, hgm, hb3, hrm, hb4, hrj, hb5, hml, hb6]
      refine GCall_of (Roll_pc Y _ _ b4 (Sg.get_ext _ _ _ _ 3) sm.judges (by omega)) ?_   -- t90
      simp only [go_sem, hb0, List.append_eq, hsm, hb1, hdec, hb2, hgm, hb3, hrm, hb4, hrj, hb5, hml, hb6]
      refine GCall_of (MarksOf_pc Y _ _ b5 (Sg.get_ext _ _ _ _ 3) sm hvS) ?_   -- t97
      simp only [go_sem, hb0, List.append_eq, hsm, hb1, hdec, hb2, hgm, hb3, hrm, hb4, hrj, hb5, hml, hb6]
      try refine And.intro (by repeat' (first | refine And.intro ?_ ?_ | exact GOr_right (fun _ => by simp only [go_sem, hb0, List.append_eq, hsm, hb1, hdec, hb2, hgm, hb3, hrm, hb4, hrj, hb5, hml, hb6]))) ?_
      refine hR _ _ (kq10 _ _ ?_); clear hR R; try clear kq10 kz10
      try simp only [go_sem, hb0, List.append_eq, hsm, hb1, hdec, hb2, hgm, hb3, hrm, hb4, hrj, hb5, hml, hb6]
      refine W_seq fun kz11 kq11 => ?_
      refine W_seq fun kz12 kq12 => ?_
      refine W_region [19, 20, 21, 22, 23, 24] fun R hR => ?_   -- r9
      simp only [go_sem, hb0, List.append_eq, hsm, hb1, hdec, hb2, hgm, hb3, hrm, hb4, hrj, hb5, hml, hb6]
      refine hR _ _ (kq12 _ _ ?_); clear hR R; try clear kq12 kz12
      try simp only [go_sem, hb0, List.append_eq, hsm, hb1, hdec, hb2, hgm, hb3, hrm, hb4, hrj, hb5, hml, hb6]
      refine W_block ?_
      obtain ⟨mo, hmo⟩ : ∃ z, (⟨gm.opened ++ [x], gm.absent, gm.fines⟩ : Night) = z := ⟨_, rfl⟩
      obtain ⟨ss, hss⟩ : ∃ z, z = [s, sm, sm, sm] := ⟨_, rfl⟩
      obtain ⟨ns, hns⟩ : ∃ z, z = [n, gm, mo, n] := ⟨_, rfl⟩
      obtain ⟨ms, hms⟩ : ∃ z, z = [matter, rm, matter, matter] := ⟨_, rfl⟩
      obtain ⟨js, hjs⟩ : ∃ z, z = [judge, rj, judge, judge] := ⟨_, rfl⟩
      obtain ⟨lss, hls⟩ : ∃ z, z = [l, ml, l, l] := ⟨_, rfl⟩
      refine W_weak (Weak.ro 20) ?_
      refine W_weak (Weak.ro 23) ?_
      refine W_weak (Weak.keep [19, 20, 21, 22, 23, 24]) ?_
      simp only [go_sem]
      refine W_weak (Weak.eq (E' := [(19, .isl (ss.map scPV) .exact), (20, .isl (ns.map ngPV) .ro), (21, .isl (ms.map I) .exact), (22, .isl (js.map I) .exact), (23, .isl (lss.map llPV) .ro), (24, I 0)]) (by rw [hss, hns, hms, hjs, hls, ← hmo]; simp only [List.map_cons, List.map_nil, scPV, scCells, ngPV, ngCells, llPV, evs, List.map_append, evPV, evCells]; first | done | rfl) rfl) ?_
      have ls : ss.length = 4 := by rw [hss]; rfl
      have ln : ns.length = 4 := by rw [hns]; rfl
      have lm : ms.length = 4 := by rw [hms]; rfl
      have lj : js.length = 4 := by rw [hjs]; rfl
      have ll : lss.length = 4 := by rw [hls]; rfl
      have hfs : ∀ z, z ∈ ss → z.Ok := fun z hz => by
        rw [hss] at hz; simp only [List.mem_cons, List.not_mem_nil, or_false] at hz
        rcases hz with rfl | rfl | rfl | rfl
        · exact few.okS
        · exact hsO
        · exact hsO
        · exact hsO
      have hmO : mo.Ok := by
        rw [← hmo]
        refine ⟨by simp; omega, hgO.ha, hgO.hf, fun z hz => ?_⟩
        rcases List.mem_append.1 hz with h | h
        · exact hgO.hm z h
        · simp only [List.mem_singleton] at h; subst h; omega
      have hfn : ∀ z, z ∈ ns → z.Ok := fun z hz => by
        rw [hns] at hz; simp only [List.mem_cons, List.not_mem_nil, or_false] at hz
        rcases hz with rfl | rfl | rfl | rfl
        · exact few.okN
        · exact hgO
        · exact hmO
        · exact few.okN
      have hfl : ∀ z, z ∈ lss → z.length ≤ 20 := fun z hz => by
        rw [hls] at hz; simp only [List.mem_cons, List.not_mem_nil, or_false] at hz
        have := dml.1
        rcases hz with rfl | rfl | rfl | rfl <;> omega
      clear hss hns hms hjs hls
      refine W_loopS (α := Nat) (fun (i : Nat) => [(24, I i)]) (fun (i : Nat) => i ≤ 4) (fun (i : Nat) => 4 - i) (0) rfl (Nat.zero_le _) ?_
      rintro i hi
      refine W_seq fun kz13 kq13 => ?_
      refine W_seq fun kz14 kq14 => ?_
      refine W_region [19, 20, 21, 22, 23, 24, 104] fun R hR => ?_   -- r10
      simp only [go_sem, hb0, List.append_eq, hsm, hb1, hdec, hb2, hgm, hb3, hrm, hb4, hrj, hb5, hml, hb6, ls, llPV]
      refine hR _ _ (kq14 _ _ ?_); clear hR R; try clear kq14 kz14
      try simp only [go_sem, hb0, List.append_eq, hsm, hb1, hdec, hb2, hgm, hb3, hrm, hb4, hrj, hb5, hml, hb6, ls, llPV]
      refine W_cond rfl (fun c2 => ?_) (fun c2 => ?_)
      · -- c2 true
        try simp only [nrm] at c2
        have hi' : i < 4 := by first | assumption | omega
        obtain ⟨s1, hx1⟩ : ∃ z, ss[i]? = some z := ⟨ss[i]'(by rw [ls]; exact hi'), by simp⟩
        obtain ⟨n1, hx2⟩ : ∃ z, ns[i]? = some z := ⟨ns[i]'(by rw [ln]; exact hi'), by simp⟩
        obtain ⟨m1, hx3⟩ : ∃ z, ms[i]? = some z := ⟨ms[i]'(by rw [lm]; exact hi'), by simp⟩
        obtain ⟨j1, hx4⟩ : ∃ z, js[i]? = some z := ⟨js[i]'(by rw [lj]; exact hi'), by simp⟩
        obtain ⟨l1, hx5⟩ : ∃ z, lss[i]? = some z := ⟨lss[i]'(by rw [ll]; exact hi'), by simp⟩
        have fs := hfs _ (List.mem_of_getElem? hx1)
        have fn := hfn _ (List.mem_of_getElem? hx2)
        have fl := hfl _ (List.mem_of_getElem? hx5)
        obtain ⟨sa, hsa⟩ : ∃ z, (sealAns s1 (m1, j1) l1).1 = z := ⟨_, rfl⟩
        obtain ⟨se, hse⟩ : ∃ z, (sealAns s1 (m1, j1) l1).2 = z := ⟨_, rfl⟩
        obtain ⟨mq, hmq⟩ : ∃ z, missQ s1 n1 = z := ⟨_, rfl⟩
        obtain ⟨ke, hke⟩ : ∃ z, knownE s1 n1 = z := ⟨_, rfl⟩
        obtain ⟨ck, hck⟩ : ∃ z, chkSc s1 = z := ⟨_, rfl⟩
        have hql := miss_len s1 n1
        rw [hmq] at hql
        refine W_skip (kq13 _ _ ?_)
        refine W_seq fun kz15 kq15 => ?_
        refine W_block ?_
        refine W_seq fun kz16 kq16 => ?_
        refine W_draw [19, 20, 21, 22, 23, 24, 25, 26, 27] [0, 1, 2, 3, 4, 5, 6, 7, 8, 9, 10, 11, 12, 13, 14, 15, 16, 17, 18, 19] [(5, 4), (6, 4), (7, 4), (8, 4), (10, 4), (10, 9), (11, 4), (11, 9), (12, 4), (12, 9), (13, 4), (13, 9)] [[], [], [0, 1], [0, 1, 2], [0, 1, 2, 3], [], [], [5, 6], [5, 6, 7], [0, 1, 2, 3, 4, 5, 6, 7, 8], [], [], [10, 11], [10, 11, 12], [0, 1, 2, 3, 4, 5, 6, 7, 8, 9, 10, 11, 12, 13], [], [], [0, 1, 2, 3, 4, 5, 6, 7, 8, 9, 10, 11, 12, 13, 14, 15, 16], [0, 1, 2, 3, 4, 5, 6, 7, 8, 9, 10, 11, 12, 13, 14, 15, 16, 17], [0, 1, 2, 3, 4, 5, 6, 7, 8, 9, 10, 11, 12, 13, 14, 15, 16, 17, 18]] mixed (by kernel_rfl) fun R hR => ?_   -- r12
        simp only [go_sem, hb0, List.append_eq, hsm, hb1, hdec, hb2, hgm, hb3, hrm, hb4, hrj, hb5, hml, hb6, ls, llPV, hx1, hx2, hx3, hx4, hx5]
        refine GCall_of (OwnScale_pc Y _ s1 fs) ?_   -- t111
        simp only [go_sem, hb0, List.append_eq, hsm, hb1, hdec, hb2, hgm, hb3, hrm, hb4, hrj, hb5, hml, hb6, ls, llPV, hx1, hx2, hx3, hx4, hx5]
        refine GCall_of (OwnNight_pc Y _ n1 fn) ?_   -- t116
        simp only [go_sem, hb0, List.append_eq, hsm, hb1, hdec, hb2, hgm, hb3, hrm, hb4, hrj, hb5, hml, hb6, ls, llPV, hx1, hx2, hx3, hx4, hx5]
        refine GCall_of (Ints_pc Y _ l1 .ro (by omega)) ?_   -- t121
        simp only [go_sem, hb0, List.append_eq, hsm, hb1, hdec, hb2, hgm, hb3, hrm, hb4, hrj, hb5, hml, hb6, ls, llPV, hx1, hx2, hx3, hx4, hx5]
        try refine And.intro (by repeat' (first | refine And.intro ?_ ?_ | exact GOr_right (fun _ => by simp only [go_sem, hb0, List.append_eq, hsm, hb1, hdec, hb2, hgm, hb3, hrm, hb4, hrj, hb5, hml, hb6, ls, llPV, hx1, hx2, hx3, hx4, hx5]))) ?_
        refine hR _ _ (kq16 _ _ ?_); clear hR R; try clear kq16 kz16
        try simp only [go_sem, hb0, List.append_eq, hsm, hb1, hdec, hb2, hgm, hb3, hrm, hb4, hrj, hb5, hml, hb6, ls, llPV, hx1, hx2, hx3, hx4, hx5]
        refine W_seq fun kz17 kq17 => ?_
        refine W_draw [19, 20, 21, 22, 23, 24, 25, 26, 27, 28, 29] [0, 1, 2, 3, 4, 5, 6, 7, 8, 9, 10, 11, 12, 13, 14, 15] [] [[], [], [], [1, 2], [1, 2, 3], [], [], [5, 6], [5, 6, 7], [], [0, 1, 2, 3, 4, 5, 6, 7, 8, 9], [0, 1, 2, 3, 4, 5, 6, 7, 8, 9, 10], [0, 1, 2, 3, 4, 5, 6, 7, 8, 9, 10, 11], [0, 1, 2, 3, 4, 5, 6, 7, 8, 9, 10, 11], [0, 1, 2, 3, 4, 5, 6, 7, 8, 9, 10, 11, 12], [0, 1, 2, 3, 4, 5, 6, 7, 8, 9, 10, 11, 12, 13, 14]] mixed (by kernel_rfl) fun R hR => ?_   -- r13
        simp only [go_sem, hb0, List.append_eq, hsm, hb1, hdec, hb2, hgm, hb3, hrm, hb4, hrj, hb5, hml, hb6, ls, llPV, hx1, hx2, hx3, hx4, hx5]
        refine GCall_of (PC.val (v' := .tuple [I sa, I se]) (Seal_pc Y _ s1 m1 j1 l1 .ro (by omega) fs) (by rw [hsa, hse])) ?_   -- t133
        simp only [go_sem, hb0, List.append_eq, hsm, hb1, hdec, hb2, hgm, hb3, hrm, hb4, hrj, hb5, hml, hb6, ls, llPV, hx1, hx2, hx3, hx4, hx5]
        try refine And.intro (by repeat' (first | refine And.intro ?_ ?_ | exact GOr_right (fun _ => by simp only [go_sem, hb0, List.append_eq, hsm, hb1, hdec, hb2, hgm, hb3, hrm, hb4, hrj, hb5, hml, hb6, ls, llPV, hx1, hx2, hx3, hx4, hx5]))) ?_
        refine hR _ _ (kq17 _ _ ?_); clear hR R; try clear kq17 kz17
        try simp only [go_sem, hb0, List.append_eq, hsm, hb1, hdec, hb2, hgm, hb3, hrm, hb4, hrj, hb5, hml, hb6, ls, llPV, hx1, hx2, hx3, hx4, hx5]
        refine W_seq fun kz18 kq18 => ?_
        refine W_draw [19, 20, 21, 22, 23, 24, 25, 26, 27, 28, 29, 30, 31] [0, 1, 2, 3, 4, 5, 6, 7, 8, 9, 10, 11, 12, 13, 14, 15, 16, 17, 18, 19, 20, 21] [] [[], [], [0, 1], [0, 1, 2], [], [], [4, 5], [4, 5, 6], [], [], [8, 9], [8, 9, 10], [], [], [12, 13], [12, 13, 14], [0, 1, 2, 3, 4, 5, 6, 7, 8, 9, 10, 11, 12, 13, 14, 15], [0, 1, 2, 3, 4, 5, 6, 7, 8, 9, 10, 11, 12, 13, 14, 15, 16], [0, 1, 2, 3, 4, 5, 6, 7, 8, 9, 10, 11, 12, 13, 14, 15, 16, 17], [0, 1, 2, 3, 4, 5, 6, 7, 8, 9, 10, 11, 12, 13, 14, 15, 16, 17], [0, 1, 2, 3, 4, 5, 6, 7, 8, 9, 10, 11, 12, 13, 14, 15, 16, 17, 18], [0, 1, 2, 3, 4, 5, 6, 7, 8, 9, 10, 11, 12, 13, 14, 15, 16, 17, 18, 19, 20]] mixed (by kernel_rfl) fun R hR => ?_   -- r14
        simp only [go_sem, hb0, List.append_eq, hsm, hb1, hdec, hb2, hgm, hb3, hrm, hb4, hrj, hb5, hml, hb6, ls, llPV, hx1, hx2, hx3, hx4, hx5]
        refine GCall_of (PC.val (v' := .tuple [I sa, I se]) (rSeal_pc Y _ s1 m1 j1 l1 .ro (by omega) fs) (by rw [hsa, hse])) ?_   -- t153
        simp only [go_sem, hb0, List.append_eq, hsm, hb1, hdec, hb2, hgm, hb3, hrm, hb4, hrj, hb5, hml, hb6, ls, llPV, hx1, hx2, hx3, hx4, hx5]
        try refine And.intro (by repeat' (first | refine And.intro ?_ ?_ | exact GOr_right (fun _ => by simp only [go_sem, hb0, List.append_eq, hsm, hb1, hdec, hb2, hgm, hb3, hrm, hb4, hrj, hb5, hml, hb6, ls, llPV, hx1, hx2, hx3, hx4, hx5]))) ?_
        refine hR _ _ (kq18 _ _ ?_); clear hR R; try clear kq18 kz18
        try simp only [go_sem, hb0, List.append_eq, hsm, hb1, hdec, hb2, hgm, hb3, hrm, hb4, hrj, hb5, hml, hb6, ls, llPV, hx1, hx2, hx3, hx4, hx5]
        refine W_seq fun kz19 kq19 => ?_
        refine W_region [19, 20, 21, 22, 23, 24, 25, 26, 27, 28, 29, 30, 31, 32, 33] fun R hR => ?_   -- r15
        simp only [go_sem, hb0, List.append_eq, hsm, hb1, hdec, hb2, hgm, hb3, hrm, hb4, hrj, hb5, hml, hb6, ls, llPV, hx1, hx2, hx3, hx4, hx5]
        refine GCall_of (PC.val (v' := .tuple [sts mq, I ke]) (Missing_pc Y _ s1 n1 fs fn) (by rw [hmq, hke])) ?_   -- t159
        simp only [go_sem, hb0, List.append_eq, hsm, hb1, hdec, hb2, hgm, hb3, hrm, hb4, hrj, hb5, hml, hb6, ls, llPV, hx1, hx2, hx3, hx4, hx5]
        refine hR _ _ (kq19 _ _ ?_); clear hR R; try clear kq19 kz19
        try simp only [go_sem, hb0, List.append_eq, hsm, hb1, hdec, hb2, hgm, hb3, hrm, hb4, hrj, hb5, hml, hb6, ls, llPV, hx1, hx2, hx3, hx4, hx5]
        refine W_seq fun kz20 kq20 => ?_
        refine W_draw [19, 20, 21, 22, 23, 24, 25, 26, 27, 28, 29, 30, 31, 32, 33, 34, 35] [0, 1, 2, 3, 4, 5, 6, 7, 8, 9, 10, 11, 12, 13] [] [[], [], [0, 1], [0, 1, 2], [], [], [4, 5], [4, 5, 6], [0, 1, 2, 3, 4, 5, 6, 7], [0, 1, 2, 3, 4, 5, 6, 7, 8], [0, 1, 2, 3, 4, 5, 6, 7, 8, 9], [0, 1, 2, 3, 4, 5, 6, 7, 8, 9], [0, 1, 2, 3, 4, 5, 6, 7, 8, 9, 10], [0, 1, 2, 3, 4, 5, 6, 7, 8, 9, 10, 11, 12]] mixed (by kernel_rfl) fun R hR => ?_   -- r16
        simp only [go_sem, hb0, List.append_eq, hsm, hb1, hdec, hb2, hgm, hb3, hrm, hb4, hrj, hb5, hml, hb6, ls, llPV, hx1, hx2, hx3, hx4, hx5]
        refine GCall_of (PC.val (v' := .tuple [sts mq, I ke]) (rMissing_pc Y _ s1 n1 fs fn) (by rw [← hmq, ← hke]; rfl)) ?_   -- t171
        simp only [go_sem, hb0, List.append_eq, hsm, hb1, hdec, hb2, hgm, hb3, hrm, hb4, hrj, hb5, hml, hb6, ls, llPV, hx1, hx2, hx3, hx4, hx5]
        try refine And.intro (by repeat' (first | refine And.intro ?_ ?_ | exact GOr_right (fun _ => by simp only [go_sem, hb0, List.append_eq, hsm, hb1, hdec, hb2, hgm, hb3, hrm, hb4, hrj, hb5, hml, hb6, ls, llPV, hx1, hx2, hx3, hx4, hx5]))) ?_
        refine hR _ _ (kq20 _ _ ?_); clear hR R; try clear kq20 kz20
        try simp only [go_sem, hb0, List.append_eq, hsm, hb1, hdec, hb2, hgm, hb3, hrm, hb4, hrj, hb5, hml, hb6, ls, llPV, hx1, hx2, hx3, hx4, hx5]
        refine W_seq fun kz21 kq21 => ?_
        refine W_draw [19, 20, 21, 22, 23, 24, 244] [0, 1, 2, 3, 4, 5, 6, 7, 8, 9, 10, 11, 12, 13, 14, 15, 16, 17, 18, 19, 20, 21, 22, 23, 24, 25, 26, 27, 28, 29, 30, 31, 32, 33, 34, 35, 36, 37, 38, 39, 40, 41, 42, 43, 44, 45, 46, 47, 48, 49, 50, 51, 52, 53, 54, 55, 56, 57, 58, 59, 60, 61, 62, 63, 64, 65, 66, 67, 68, 69, 70] [(2, 1), (3, 1), (4, 1), (5, 1), (12, 11), (13, 11), (14, 11), (15, 11), (16, 11), (17, 11), (18, 11), (19, 11)] [[], [0], [], [], [2, 3], [2, 3, 4], [0, 1, 2, 3, 4, 5], [0, 1, 2, 3, 4, 5, 6], [0, 1, 2, 3, 4, 5, 6, 7], [0, 1, 2, 3, 4, 5, 6, 7, 8], [0, 1, 2, 3, 4, 5, 6, 7, 8], [0, 1, 2, 3, 4, 5, 6, 7, 8, 9, 10], [0, 1, 2, 3, 4, 5, 6, 7, 8], [0, 1, 2, 3, 4, 5, 6, 7, 8], [0, 1, 2, 3, 4, 5, 6, 7, 8, 12, 13], [0, 1, 2, 3, 4, 5, 6, 7, 8, 12, 13, 14], [0, 1, 2, 3, 4, 5, 6, 7, 8], [0, 1, 2, 3, 4, 5, 6, 7, 8], [0, 1, 2, 3, 4, 5, 6, 7, 8, 16, 17], [0, 1, 2, 3, 4, 5, 6, 7, 8, 16, 17, 18], [0, 1, 2, 3, 4, 5, 6, 7, 8, 9, 10, 11, 12, 13, 14, 15, 16, 17, 18, 19], [0, 1, 2, 3, 4, 5, 6, 7, 8, 9, 10, 11, 12, 13, 14, 15, 16, 17, 18, 19, 20], [0, 1, 2, 3, 4, 5, 6, 7, 8, 9, 10, 11, 12, 13, 14, 15, 16, 17, 18, 19, 20, 21], [0, 1, 2, 3, 4, 5, 6, 7, 8, 9, 10, 11, 12, 13, 14, 15, 16, 17, 18, 19, 20, 21, 22], [0, 1, 2, 3, 4, 5, 6, 7, 8, 9, 10, 11, 12, 13, 14, 15, 16, 17, 18, 19, 20, 21, 22, 23], [0, 1, 2, 3, 4, 5, 6, 7, 8, 9, 10, 11, 12, 13, 14, 15, 16, 17, 18, 19, 20, 21, 22, 23], [0, 1, 2, 3, 4, 5, 6, 7, 8, 9, 10, 11, 12, 13, 14, 15, 16, 17, 18, 19, 20, 21, 22, 23, 24, 25], [0, 1, 2, 3, 4, 5, 6, 7, 8, 9, 10, 11, 12, 13, 14, 15, 16, 17, 18, 19, 20, 21, 22, 23, 24, 25, 26], [0, 1, 2, 3, 4, 5, 6, 7, 8, 9, 10, 11, 12, 13, 14, 15, 16, 17, 18, 19, 20, 21, 22, 23, 24, 25, 26, 27], [0, 1, 2, 3, 4, 5, 6, 7, 8, 9, 10, 11, 12, 13, 14, 15, 16, 17, 18, 19, 20, 21, 22, 23, 24, 25, 26, 27, 28], [0, 1, 2, 3, 4, 5, 6, 7, 8, 9, 10, 11, 12, 13, 14, 15, 16, 17, 18, 19, 20, 21, 22, 23, 24, 25, 26, 27, 28], [0, 1, 2, 3, 4, 5, 6, 7, 8, 9, 10, 11, 12, 13, 14, 15, 16, 17, 18, 19, 20, 21, 22, 23, 24, 25, 26, 27, 28, 29, 30], [0, 1, 2, 3, 4, 5, 6, 7, 8, 9, 10, 11, 12, 13, 14, 15, 16, 17, 18, 19, 20, 21, 22, 23, 24, 25, 26, 27, 28, 29, 30, 31], [0, 1, 2, 3, 4, 5, 6, 7, 8, 9, 10, 11, 12, 13, 14, 15, 16, 17, 18, 19, 20, 21, 22, 23, 24, 25, 26, 27, 28, 29, 30, 31, 32], [0, 1, 2, 3, 4, 5, 6, 7, 8, 9, 10, 11, 12, 13, 14, 15, 16, 17, 18, 19, 20, 21, 22, 23, 24, 25, 26, 27, 28, 29, 30, 31, 32, 33], [0, 1, 2, 3, 4, 5, 6, 7, 8, 9, 10, 11, 12, 13, 14, 15, 16, 17, 18, 19, 20, 21, 22, 23, 24, 25, 26, 27, 28, 29, 30, 31, 32, 33], [0, 1, 2, 3, 4, 5, 6, 7, 8, 9, 10, 11, 12, 13, 14, 15, 16, 17, 18, 19, 20, 21, 22, 23, 24, 25, 26, 27, 28, 29, 30, 31, 32, 33, 34, 35], [0, 1, 2, 3, 4, 5, 6, 7, 8, 9, 10, 11, 12, 13, 14, 15, 16, 17, 18, 19, 20, 21, 22, 23, 24, 25, 26, 27, 28, 29, 30, 31, 32, 33, 34, 35, 36], [0, 1, 2, 3, 4, 5, 6, 7, 8, 9, 10, 11, 12, 13, 14, 15, 16, 17, 18, 19, 20, 21, 22, 23, 24, 25, 26, 27, 28, 29, 30, 31, 32, 33, 34, 35, 36, 37], [0, 1, 2, 3, 4, 5, 6, 7, 8, 9, 10, 11, 12, 13, 14, 15, 16, 17, 18, 19, 20, 21, 22, 23, 24, 25, 26, 27, 28, 29, 30, 31, 32, 33, 34, 35, 36, 37, 38], [0, 1, 2, 3, 4, 5, 6, 7, 8, 9, 10, 11, 12, 13, 14, 15, 16, 17, 18, 19, 20, 21, 22, 23, 24, 25, 26, 27, 28, 29, 30, 31, 32, 33, 34, 35, 36, 37, 38], [0, 1, 2, 3, 4, 5, 6, 7, 8, 9, 10, 11, 12, 13, 14, 15, 16, 17, 18, 19, 20, 21, 22, 23, 24, 25, 26, 27, 28, 29, 30, 31, 32, 33, 34, 35, 36, 37, 38, 39, 40], [0, 1, 2, 3, 4, 5, 6, 7, 8, 9, 10, 11, 12, 13, 14, 15, 16, 17, 18, 19, 20, 21, 22, 23, 24, 25, 26, 27, 28, 29, 30, 31, 32, 33, 34, 35, 36, 37, 38, 39, 40, 41], [0, 1, 2, 3, 4, 5, 6, 7, 8, 9, 10, 11, 12, 13, 14, 15, 16, 17, 18, 19, 20, 21, 22, 23, 24, 25, 26, 27, 28, 29, 30, 31, 32, 33, 34, 35, 36, 37, 38, 39, 40, 41, 42], [0, 1, 2, 3, 4, 5, 6, 7, 8, 9, 10, 11, 12, 13, 14, 15, 16, 17, 18, 19, 20, 21, 22, 23, 24, 25, 26, 27, 28, 29, 30, 31, 32, 33, 34, 35, 36, 37, 38, 39, 40, 41, 42, 43], [0, 1, 2, 3, 4, 5, 6, 7, 8, 9, 10, 11, 12, 13, 14, 15, 16, 17, 18, 19, 20, 21, 22, 23, 24, 25, 26, 27, 28, 29, 30, 31, 32, 33, 34, 35, 36, 37, 38, 39, 40, 41, 42, 43, 44], [0, 1, 2, 3, 4, 5, 6, 7, 8, 9, 10, 11, 12, 13, 14, 15, 16, 17, 18, 19, 20, 21, 22, 23, 24, 25, 26, 27, 28, 29, 30, 31, 32, 33, 34, 35, 36, 37, 38, 39, 40, 41, 42, 43, 44], [0, 1, 2, 3, 4, 5, 6, 7, 8, 9, 10, 11, 12, 13, 14, 15, 16, 17, 18, 19, 20, 21, 22, 23, 24, 25, 26, 27, 28, 29, 30, 31, 32, 33, 34, 35, 36, 37, 38, 39, 40, 41, 42, 43, 44], [0, 1, 2, 3, 4, 5, 6, 7, 8, 9, 10, 11, 12, 13, 14, 15, 16, 17, 18, 19, 20, 21, 22, 23, 24, 25, 26, 27, 28, 29, 30, 31, 32, 33, 34, 35, 36, 37, 38, 39, 40, 41, 42, 43, 44, 46, 47], [0, 1, 2, 3, 4, 5, 6, 7, 8, 9, 10, 11, 12, 13, 14, 15, 16, 17, 18, 19, 20, 21, 22, 23, 24, 25, 26, 27, 28, 29, 30, 31, 32, 33, 34, 35, 36, 37, 38, 39, 40, 41, 42, 43, 44, 46, 47, 48], [0, 1, 2, 3, 4, 5, 6, 7, 8, 9, 10, 11, 12, 13, 14, 15, 16, 17, 18, 19, 20, 21, 22, 23, 24, 25, 26, 27, 28, 29, 30, 31, 32, 33, 34, 35, 36, 37, 38, 39, 40, 41, 42, 43, 44, 45, 46, 47, 48, 49], [0, 1, 2, 3, 4, 5, 6, 7, 8, 9, 10, 11, 12, 13, 14, 15, 16, 17, 18, 19, 20, 21, 22, 23, 24, 25, 26, 27, 28, 29, 30, 31, 32, 33, 34, 35, 36, 37, 38, 39, 40, 41, 42, 43, 44, 45, 46, 47, 48, 49, 50], [0, 1, 2, 3, 4, 5, 6, 7, 8, 9, 10, 11, 12, 13, 14, 15, 16, 17, 18, 19, 20, 21, 22, 23, 24, 25, 26, 27, 28, 29, 30, 31, 32, 33, 34, 35, 36, 37, 38, 39, 40, 41, 42, 43, 44, 45, 46, 47, 48, 49, 50, 51], [0, 1, 2, 3, 4, 5, 6, 7, 8, 9, 10, 11, 12, 13, 14, 15, 16, 17, 18, 19, 20, 21, 22, 23, 24, 25, 26, 27, 28, 29, 30, 31, 32, 33, 34, 35, 36, 37, 38, 39, 40, 41, 42, 43, 44, 45, 46, 47, 48, 49, 50, 51, 52], [0, 1, 2, 3, 4, 5, 6, 7, 8, 9, 10, 11, 12, 13, 14, 15, 16, 17, 18, 19, 20, 21, 22, 23, 24, 25, 26, 27, 28, 29, 30, 31, 32, 33, 34, 35, 36, 37, 38, 39, 40, 41, 42, 43, 44, 45, 46, 47, 48, 49, 50, 51, 52, 53], [0, 1, 2, 3, 4, 5, 6, 7, 8, 9, 10, 11, 12, 13, 14, 15, 16, 17, 18, 19, 20, 21, 22, 23, 24, 25, 26, 27, 28, 29, 30, 31, 32, 33, 34, 35, 36, 37, 38, 39, 40, 41, 42, 43, 44, 45, 46, 47, 48, 49, 50, 51, 52, 53], [0, 1, 2, 3, 4, 5, 6, 7, 8, 9, 10, 11, 12, 13, 14, 15, 16, 17, 18, 19, 20, 21, 22, 23, 24, 25, 26, 27, 28, 29, 30, 31, 32, 33, 34, 35, 36, 37, 38, 39, 40, 41, 42, 43, 44, 45, 46, 47, 48, 49, 50, 51, 52, 53], [0, 1, 2, 3, 4, 5, 6, 7, 8, 9, 10, 11, 12, 13, 14, 15, 16, 17, 18, 19, 20, 21, 22, 23, 24, 25, 26, 27, 28, 29, 30, 31, 32, 33, 34, 35, 36, 37, 38, 39, 40, 41, 42, 43, 44, 45, 46, 47, 48, 49, 50, 51, 52, 53, 55, 56], [0, 1, 2, 3, 4, 5, 6, 7, 8, 9, 10, 11, 12, 13, 14, 15, 16, 17, 18, 19, 20, 21, 22, 23, 24, 25, 26, 27, 28, 29, 30, 31, 32, 33, 34, 35, 36, 37, 38, 39, 40, 41, 42, 43, 44, 45, 46, 47, 48, 49, 50, 51, 52, 53, 55, 56, 57], [0, 1, 2, 3, 4, 5, 6, 7, 8, 9, 10, 11, 12, 13, 14, 15, 16, 17, 18, 19, 20, 21, 22, 23, 24, 25, 26, 27, 28, 29, 30, 31, 32, 33, 34, 35, 36, 37, 38, 39, 40, 41, 42, 43, 44, 45, 46, 47, 48, 49, 50, 51, 52, 53, 54, 55, 56, 57, 58], [0, 1, 2, 3, 4, 5, 6, 7, 8, 9, 10, 11, 12, 13, 14, 15, 16, 17, 18, 19, 20, 21, 22, 23, 24, 25, 26, 27, 28, 29, 30, 31, 32, 33, 34, 35, 36, 37, 38, 39, 40, 41, 42, 43, 44, 45, 46, 47, 48, 49, 50, 51, 52, 53, 54, 55, 56, 57, 58, 59], [0, 1, 2, 3, 4, 5, 6, 7, 8, 9, 10, 11, 12, 13, 14, 15, 16, 17, 18, 19, 20, 21, 22, 23, 24, 25, 26, 27, 28, 29, 30, 31, 32, 33, 34, 35, 36, 37, 38, 39, 40, 41, 42, 43, 44, 45, 46, 47, 48, 49, 50, 51, 52, 53, 54, 55, 56, 57, 58, 59, 60], [0, 1, 2, 3, 4, 5, 6, 7, 8, 9, 10, 11, 12, 13, 14, 15, 16, 17, 18, 19, 20, 21, 22, 23, 24, 25, 26, 27, 28, 29, 30, 31, 32, 33, 34, 35, 36, 37, 38, 39, 40, 41, 42, 43, 44, 45, 46, 47, 48, 49, 50, 51, 52, 53, 54, 55, 56, 57, 58, 59, 60, 61], [0, 1, 2, 3, 4, 5, 6, 7, 8, 9, 10, 11, 12, 13, 14, 15, 16, 17, 18, 19, 20, 21, 22, 23, 24, 25, 26, 27, 28, 29, 30, 31, 32, 33, 34, 35, 36, 37, 38, 39, 40, 41, 42, 43, 44, 45, 46, 47, 48, 49, 50, 51, 52, 53, 54, 55, 56, 57, 58, 59, 60, 61, 62], [0, 1, 2, 3, 4, 5, 6, 7, 8, 9, 10, 11, 12, 13, 14, 15, 16, 17, 18, 19, 20, 21, 22, 23, 24, 25, 26, 27, 28, 29, 30, 31, 32, 33, 34, 35, 36, 37, 38, 39, 40, 41, 42, 43, 44, 45, 46, 47, 48, 49, 50, 51, 52, 53, 54, 55, 56, 57, 58, 59, 60, 61, 62], [0, 1, 2, 3, 4, 5, 6, 7, 8, 9, 10, 11, 12, 13, 14, 15, 16, 17, 18, 19, 20, 21, 22, 23, 24, 25, 26, 27, 28, 29, 30, 31, 32, 33, 34, 35, 36, 37, 38, 39, 40, 41, 42, 43, 44, 45, 46, 47, 48, 49, 50, 51, 52, 53, 54, 55, 56, 57, 58, 59, 60, 61, 62], [0, 1, 2, 3, 4, 5, 6, 7, 8, 9, 10, 11, 12, 13, 14, 15, 16, 17, 18, 19, 20, 21, 22, 23, 24, 25, 26, 27, 28, 29, 30, 31, 32, 33, 34, 35, 36, 37, 38, 39, 40, 41, 42, 43, 44, 45, 46, 47, 48, 49, 50, 51, 52, 53, 54, 55, 56, 57, 58, 59, 60, 61, 62, 64, 65], [0, 1, 2, 3, 4, 5, 6, 7, 8, 9, 10, 11, 12, 13, 14, 15, 16, 17, 18, 19, 20, 21, 22, 23, 24, 25, 26, 27, 28, 29, 30, 31, 32, 33, 34, 35, 36, 37, 38, 39, 40, 41, 42, 43, 44, 45, 46, 47, 48, 49, 50, 51, 52, 53, 54, 55, 56, 57, 58, 59, 60, 61, 62, 64, 65, 66], [0, 1, 2, 3, 4, 5, 6, 7, 8, 9, 10, 11, 12, 13, 14, 15, 16, 17, 18, 19, 20, 21, 22, 23, 24, 25, 26, 27, 28, 29, 30, 31, 32, 33, 34, 35, 36, 37, 38, 39, 40, 41, 42, 43, 44, 45, 46, 47, 48, 49, 50, 51, 52, 53, 54, 55, 56, 57, 58, 59, 60, 61, 62, 63, 64, 65, 66, 67], [0, 1, 2, 3, 4, 5, 6, 7, 8, 9, 10, 11, 12, 13, 14, 15, 16, 17, 18, 19, 20, 21, 22, 23, 24, 25, 26, 27, 28, 29, 30, 31, 32, 33, 34, 35, 36, 37, 38, 39, 40, 41, 42, 43, 44, 45, 46, 47, 48, 49, 50, 51, 52, 53, 54, 55, 56, 57, 58, 59, 60, 61, 62, 63, 64, 65, 66, 67, 68], [0, 1, 2, 3, 4, 5, 6, 7, 8, 9, 10, 11, 12, 13, 14, 15, 16, 17, 18, 19, 20, 21, 22, 23, 24, 25, 26, 27, 28, 29, 30, 31, 32, 33, 34, 35, 36, 37, 38, 39, 40, 41, 42, 43, 44, 45, 46, 47, 48, 49, 50, 51, 52, 53, 54, 55, 56, 57, 58, 59, 60, 61, 62, 63, 64, 65, 66, 67, 68, 69]] mixed (by kernel_rfl) fun R hR => ?_   -- r17
        simp only [go_sem, hb0, List.append_eq, hsm, hb1, hdec, hb2, hgm, hb3, hrm, hb4, hrj, hb5, hml, hb6, ls, llPV, hx1, hx2, hx3, hx4, hx5]
        refine GCall_of (PC.val (v' := I ck) (Check_pc Y _ s1 fs) (by rw [hck])) ?_   -- t175
        simp only [go_sem, hb0, List.append_eq, hsm, hb1, hdec, hb2, hgm, hb3, hrm, hb4, hrj, hb5, hml, hb6, ls, llPV, hx1, hx2, hx3, hx4, hx5]
        refine GCall_of (PC.val (v' := I ck) (rCheck_pc Y _ s1 fs) (by rw [hck])) ?_   -- t180
        simp only [go_sem, hb0, List.append_eq, hsm, hb1, hdec, hb2, hgm, hb3, hrm, hb4, hrj, hb5, hml, hb6, ls, llPV, hx1, hx2, hx3, hx4, hx5]
        refine GCall_of (PC.val (v' := I ke) (CheckNight_pc Y _ s1 n1 fs fn) (by rw [hke])) ?_   -- t185
        simp only [go_sem, hb0, List.append_eq, hsm, hb1, hdec, hb2, hgm, hb3, hrm, hb4, hrj, hb5, hml, hb6, ls, llPV, hx1, hx2, hx3, hx4, hx5]
        refine GCall_of (PC.val (v' := I ke) (rCheckNight_pc Y _ s1 n1 fs fn) (by rw [hke])) ?_   -- t194
        simp only [go_sem, hb0, List.append_eq, hsm, hb1, hdec, hb2, hgm, hb3, hrm, hb4, hrj, hb5, hml, hb6, ls, llPV, hx1, hx2, hx3, hx4, hx5]
        refine GCall_of (PC.val (v' := .bool true) (EqAbsent_pc Y _ mq mq .ro .ro (by omega)) (by simp)) ?_   -- t215
        simp only [go_sem, hb0, List.append_eq, hsm, hb1, hdec, hb2, hgm, hb3, hrm, hb4, hrj, hb5, hml, hb6, ls, llPV, hx1, hx2, hx3, hx4, hx5]
        refine GCall_of (EqScales_pc Y _ s1 fs) ?_   -- t224
        simp only [go_sem, hb0, List.append_eq, hsm, hb1, hdec, hb2, hgm, hb3, hrm, hb4, hrj, hb5, hml, hb6, ls, llPV, hx1, hx2, hx3, hx4, hx5]
        refine GCall_of (EqNights_pc Y _ n1 fn) ?_   -- t233
        simp only [go_sem, hb0, List.append_eq, hsm, hb1, hdec, hb2, hgm, hb3, hrm, hb4, hrj, hb5, hml, hb6, ls, llPV, hx1, hx2, hx3, hx4, hx5]
        refine GCall_of (PC.val (v' := .bool true) (EqInts_pc Y _ l1 l1 .ro .ro (by omega)) (by simp)) ?_   -- t242
        simp only [go_sem, hb0, List.append_eq, hsm, hb1, hdec, hb2, hgm, hb3, hrm, hb4, hrj, hb5, hml, hb6, ls, llPV, hx1, hx2, hx3, hx4, hx5]
        try refine And.intro (by repeat' (first | refine And.intro ?_ ?_ | exact GOr_right (fun _ => by simp only [go_sem, hb0, List.append_eq, hsm, hb1, hdec, hb2, hgm, hb3, hrm, hb4, hrj, hb5, hml, hb6, ls, llPV, hx1, hx2, hx3, hx4, hx5]))) ?_
        refine hR _ _ (kq21 _ _ ?_); clear hR R; try clear kq21 kz21
        try simp only [go_sem, hb0, List.append_eq, hsm, hb1, hdec, hb2, hgm, hb3, hrm, hb4, hrj, hb5, hml, hb6, ls, llPV, hx1, hx2, hx3, hx4, hx5]
        refine W_cond rfl (fun c3 => ?_) (fun c3 => ?_)
        · -- c3 true
          try simp only [nrm] at c3
          exfalso
          simp at c3
        · -- c3 false
          try simp only [nrm] at c3
          refine W_skip (kq15 _ _ ?_)
          refine W_region [19, 20, 21, 22, 23, 24] fun R hR => ?_   -- r11
          simp only [go_sem, hb0, List.append_eq, hsm, hb1, hdec, hb2, hgm, hb3, hrm, hb4, hrj, hb5, hml, hb6, ls, llPV, hx1, hx2, hx3, hx4, hx5]
          try simp (disch := omega) only [wrapI, wrapU]
          refine hR _ _ ?_; clear hR R
          try simp only [go_sem, hb0, List.append_eq, hsm, hb1, hdec, hb2, hgm, hb3, hrm, hb4, hrj, hb5, hml, hb6, ls, llPV, hx1, hx2, hx3, hx4, hx5]
          refine ⟨i + 1, ?_, by (try simp only []); omega, ?_⟩
          · refine Weak.trans (Weak.cutX 7 3 (by omega) (by omega) hcl (by simp only [go_sem] <;> omega) (by simp only [go_sem] <;> omega)) ?_
            simp only [go_sem]
            exact Weak.eq (by first | rfl | (simp only [go_sem]; done) | (simp only [go_sem]; rfl)) (by first | rfl | (simp only [go_sem]; done))
          · try dsimp only
            omega
      · -- c2 false
        try simp only [nrm] at c2
        refine W_exit ?_
        simp only [go_sem, hb0, List.append_eq, hsm, hb1, hdec, hb2, hgm, hb3, hrm, hb4, hrj, hb5, hml, hb6, ls, llPV]
        refine kq11 _ _ ?_
        refine W_seq fun kz22 kq22 => ?_
        refine W_region [14] fun R hR => ?_   -- r19
        simp only [go_sem, hb0, List.append_eq, hsm, hb1, hdec, hb2, hgm, hb3, hrm, hb4, hrj, hb5, hml, hb6, ls, llPV]
        refine GCall_of (awake_pc Y _) ?_   -- t245
        simp only [go_sem, hb0, List.append_eq, hsm, hb1, hdec, hb2, hgm, hb3, hrm, hb4, hrj, hb5, hml, hb6, ls, llPV]
        refine hR _ _ (kq22 _ _ ?_); clear hR R; try clear kq22 kz22
        try simp only [go_sem, hb0, List.append_eq, hsm, hb1, hdec, hb2, hgm, hb3, hrm, hb4, hrj, hb5, hml, hb6, ls, llPV]
        refine W_ret ?_
        simp only [go_sem, hb0, List.append_eq, hsm, hb1, hdec, hb2, hgm, hb3, hrm, hb4, hrj, hb5, hml, hb6, ls, llPV]
        refine ⟨.inr (by trivial), ?_⟩
        first | refine Fin_same hcl rfl (Wk_eq ?_ (by simp only [go_sem])) | refine Fin_self hcl rfl (Wk_eq ?_ (by simp only [go_sem]))
        try simp only [go_sem]
        all_goals
          first | rfl | (simp_all; done)
  · simp only [go_sem, hb0, List.append_eq, hsm, hb1, hdec, hb2, hgm, hb3, hrm, hb4, hrj, hb5, hml, hb6]
    refine GCall_of (wide_pc Y _ s n hIn.hs hIn.ho hIn.ha hIn.hf hIn.hm) ?_   -- t38
    simp only [go_sem, hb0, List.append_eq, hsm, hb1, hdec, hb2, hgm, hb3, hrm, hb4, hrj, hb5, hml, hb6]
    refine GWant_split (fun g1 => ?_) (fun g1 => ?_)
    · try simp only [Bool.not_eq_true', Bool.not_eq_false'] at g1
      have n1 := g1; try simp only [nrm] at n1
      simp only [go_sem, hb0, List.append_eq, hsm, hb1, hdec, hb2, hgm, hb3, hrm, hb4, hrj, hb5, hml, hb6, g1]
      refine GWant_split (fun g2 => ?_) (fun g2 => ?_)
      · try simp only [Bool.not_eq_true', Bool.not_eq_false'] at g2
        have n2 := g2; try simp only [nrm] at n2
        simp only [go_sem, hb0, List.append_eq, hsm, hb1, hdec, hb2, hgm, hb3, hrm, hb4, hrj, hb5, hml, hb6, g1, g2]
        refine hR _ ?_
        all_goals try simp only [go_sem, hb0, List.append_eq, hsm, hb1, hdec, hb2, hgm, hb3, hrm, hb4, hrj, hb5, hml, hb6]
        all_goals
          first | rfl | (simp [*]; done) | (simp_all; done)
      · try simp only [Bool.not_eq_true', Bool.not_eq_false'] at g2
        have n2 := g2; try simp only [nrm] at n2
        simp only [go_sem, hb0, List.append_eq, hsm, hb1, hdec, hb2, hgm, hb3, hrm, hb4, hrj, hb5, hml, hb6, g1, g2]
        refine hR _ ?_
        all_goals try simp only [go_sem, hb0, List.append_eq, hsm, hb1, hdec, hb2, hgm, hb3, hrm, hb4, hrj, hb5, hml, hb6]
        all_goals
          first | rfl | (simp [*]; done) | (simp_all; done)
    · try simp only [Bool.not_eq_true', Bool.not_eq_false'] at g1
      have n1 := g1; try simp only [nrm] at n1
      simp only [go_sem, hb0, List.append_eq, hsm, hb1, hdec, hb2, hgm, hb3, hrm, hb4, hrj, hb5, hml, hb6, g1]
      refine hR _ ?_
      all_goals try simp only [go_sem, hb0, List.append_eq, hsm, hb1, hdec, hb2, hgm, hb3, hrm, hb4, hrj, hb5, hml, hb6]
      all_goals
        first | rfl | (simp [*]; done) | (simp_all; done)
end Go.Proofs.YtgelnjmddabgpaaGreat
