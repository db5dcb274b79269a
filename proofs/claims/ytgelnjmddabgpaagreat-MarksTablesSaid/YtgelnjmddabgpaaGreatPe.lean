/-
  Walks: nights checked, as the document has them.
  Who stands ahead: an order in which no two schools are equal. The plain law.
  Points grow with marks; who may win. The plain law.
  Walks: absences and nights checked, who is missing, as the document has them.
  Sorting, as the library does it.
  Walks: rows sorted; the points of a school in a matter (marks).
  Walks: the points of a school in a matter (marks).
  Walks: standings, and which of two is ahead (marks).
  Walks: the judges of whom nothing is known (marks).
  Walks: totals, places, who wins, who is missing (marks).
  Walks: points, as the document has them.
-/
import Derived.Test.YtgelnjmddabgpaaGreatPd
import Derived.CallsIn
import Derived.RangeFuncLeaves
import Derived.RangeFuncRecord
import Derived.OrdersIn
import Derived.Below
import Derived.Laws.World
import Derived.Laws.StructEq
import Derived.Laws.Append
import Derived.MapKept
import Derived.ProofKit
import Derived.Carry
import Derived.Handed
import Derived.ChangeCalls
import Derived.RangeFuncIn
import Derived.RangeFuncNested
import Derived.Test.YtgelnjmddabgpaaGreatProg
import Derived.KernelRfl
import Derived.IntWalk
import Derived.Test.YtgelnjmddabgpaaGreatRows
import Derived.Sort.OwnSortedInts
import Derived.Lib.SlicesCompact
import Derived.Shelf.Sort.Plain
import Derived.Shelf.Slices.In.SortNone
import Derived.Shelf.Small.Bits
import Derived.JoinedOf
set_option linter.unusedSimpArgs false
set_option linter.unusedVariables false
namespace Go.Proofs.YtgelnjmddabgpaaGreat
open Go Go.RowKit
set_option maxRecDepth 100000
def isJ (a b : Int) (x : Envl) : Bool := (x.matter == a) && (x.judge == b)
theorem isJ_iff {a b : Int} {x : Envl} : isJ a b x = true ↔ jdE x = (a, b) := by simp [isJ, jdE]
def isA (a b : Int) (x : Int × Int) : Bool := (x.1 == a) && (x.2 == b)
theorem isA_iff {a b : Int} {x : Int × Int} : isA a b x = true ↔ x = (a, b) := by
  obtain ⟨c, d⟩ := x
  simp [isA]
theorem fIdx_find {a b : Int} : ∀ {l : List Envl} {p : Nat}, (fIdx (isJ a b) p l = -1 ∧ findE l (a, b) = none) ∨ ∃ (i : Nat) (x : Envl), fIdx (isJ a b) p l = ((p + i : Nat) : Int) ∧ l[i]? = some x ∧ jdE x = (a, b) ∧ findE l (a, b) = some x.marks := by
  intro l
  induction l with
  | nil => intro p; exact .inl ⟨rfl, rfl⟩
  | cons x l ih =>
    intro p
    rw [findE_cons]
    by_cases h : isJ a b x = true
    · have e : fIdx (isJ a b) p (x :: l) = (p : Int) := by simp only [fIdx]; rw [if_pos h]
      rw [e, if_pos (isJ_iff.1 h)]
      exact .inr ⟨0, x, rfl, rfl, isJ_iff.1 h, rfl⟩
    · have e : fIdx (isJ a b) p (x :: l) = fIdx (isJ a b) (p + 1) l := by simp only [fIdx]; rw [if_neg h]
      rw [e, if_neg (fun k => h (isJ_iff.2 k))]
      rcases ih (p := p + 1) with k | ⟨i, y, h1, h2, h3⟩
      · exact .inl k
      · exact .inr ⟨i + 1, y, by rw [h1]; congr 1; omega, h2, h3⟩
theorem findE_app (l m : List Envl) (j : Int × Int) : findE (l ++ m) j = match findE l j with | some v => some v | none => findE m j := by
  induction l with
  | nil => rfl
  | cons x l ih =>
    rw [List.cons_append, findE_cons, findE_cons]
    by_cases h : jdE x = j
    · rw [if_pos h, if_pos h]
    · rw [if_neg h, if_neg h, ih]
theorem findE_at {l : List Envl} {i : Nat} {x : Envl} (hx : l[i]? = some x) : findE l (jdE x) = some ((findE (l.take i) (jdE x)).getD x.marks) := by
  have h1 : i < l.length := (List.getElem?_eq_some_iff.1 hx).1
  have e : l = l.take i ++ x :: l.drop (i + 1) := by
    conv => lhs; rw [← List.take_append_drop i l]
    rw [List.drop_eq_getElem_cons h1, (List.getElem?_eq_some_iff.1 hx).2]
  conv => lhs; rw [e]
  rw [findE_app, findE_cons, if_pos rfl]
  cases findE (l.take i) (jdE x) with
  | none => rfl
  | some v => rfl
theorem findE_snoc {l : List Envl} {i : Nat} {x : Envl} (hx : l[i]? = some x) (j : Int × Int) : findE (l.take (i + 1)) j = match findE (l.take i) j with | some v => some v | none => if jdE x = j then some x.marks else none := by
  rw [List.take_add_one, hx]
  show findE (l.take i ++ [x]) j = _
  rw [findE_app, findE_cons, findE_nil]
/-- What is known so far, envelope by envelope. -/
def KAs (kk : Kn) (l : List Envl) : Prop := ∀ j, aget j kk = findE l j
theorem KAs.next {kk : Kn} {l : List Envl} {i : Nat} {x : Envl} (h : KAs kk (l.take i)) (hx : l[i]? = some x) (he : (findE (l.take i) (jdE x)).getD x.marks = x.marks) : KAs (aput (jdE x) x.marks kk) (l.take (i + 1)) := fun j => by
  rw [aget_put, findE_snoc hx, h j]
  by_cases e : j = jdE x
  · subst e
    rw [if_pos rfl, if_pos rfl]
    cases hf : findE (l.take i) (jdE x) with
    | none => rfl
    | some v => rw [hf] at he; simp at he; rw [he]
  · rw [if_neg e, if_neg (fun k => e k.symm)]
    cases findE (l.take i) j <;> rfl
theorem openK_step {s : Scale} {kk : Kn} {l : List Envl} {i : Nat} {x : Envl} (h : KAs kk (l.take i)) (r : List Envl) : (openK s (x :: r) kk).1 = if rJudge s (jdE x) ≠ 0 then rJudge s (jdE x) else if rMarks s x.marks ≠ 0 then rMarks s x.marks else if x.sl ≠ sealOf (jdE x) x.marks then 14 else if (findE (l.take i) (jdE x)).getD x.marks ≠ x.marks then 10 else (openK s r (aput (jdE x) x.marks kk)).1 := by
  have hj : (x.matter, x.judge) = jdE x := rfl
  have hm := marked_r s (jdE x) x.marks
  have hk := h (jdE x)
  simp only [openK, hj, hm]
  by_cases h1 : rJudge s (jdE x) = 0
  · by_cases h2 : rMarks s x.marks = 0
    · by_cases h3 : x.sl = sealOf (jdE x) x.marks
      · rw [hk]
        cases hf : findE (l.take i) (jdE x) with
        | none => simp [h1, h2, h3]
        | some v =>
          by_cases h4 : v = x.marks
          · simp [h1, h2, h3, h4]
          · simp [h1, h2, h3, h4]
      · simp [h1, h2, h3]
    · simp [h1, h2]
  · simp [h1]
def rOpen (s : Scale) (l : List Envl) : Int := if 60 < (l.length : Int) then 5 else (openK s l []).1
set_option maxHeartbeats 2000000 in
theorem rFind_pc (Y : YEnv) (σ : Sg) (l : List Envl) (a b : Int) (hl : l.length < 2 ^ 62) :
    PC Tryz.prog Y 88 [evs l, I a, I b] σ (I (fIdx (isJ a b) 0 l)) (σ) := by
  refine PC_of_W Tryz.func88 rfl (by kernel_rfl) Tryz.ntmps88 (by simp) fun hcl hca => ?_
  refine W_seq fun kz1 kq1 => ?_
  refine W_region [0, 1, 2] fun R hR => ?_   -- r0
  simp only [go_sem]
  refine hR _ _ (kq1 _ _ ?_); clear hR R; try clear kq1 kz1
  try simp only [go_sem]
  refine W_seq fun kz2 kq2 => ?_
  refine W_seq fun kz3 kq3 => ?_
  refine W_region [0, 1, 2, 7] fun R hR => ?_   -- r1
  simp only [go_sem]
  refine hR _ _ (kq3 _ _ ?_); clear hR R; try clear kq3 kz3
  try simp only [go_sem]
  refine W_block ?_
  refine W_loopS (α := Nat) (fun (i : Nat) => [(7, I i)]) (fun (i : Nat) => i ≤ l.length ∧ fIdx (isJ a b) i (l.drop i) = fIdx (isJ a b) 0 l) (fun (i : Nat) => l.length - i) (0) rfl (⟨Nat.zero_le _, rfl⟩) ?_
  rintro i ⟨hi, hinv⟩
  refine W_seq fun kz4 kq4 => ?_
  refine W_seq fun kz5 kq5 => ?_
  refine W_region [0, 1, 2, 7, 11] fun R hR => ?_   -- r2
  simp only [go_sem]
  refine hR _ _ (kq5 _ _ ?_); clear hR R; try clear kq5 kz5
  try simp only [go_sem]
  refine W_cond rfl (fun c1 => ?_) (fun c1 => ?_)
  · -- c1 true
    try simp only [nrm] at c1
    have hi' : i < l.length := by first | assumption | omega
    obtain ⟨x, hx⟩ : ∃ x, l[i]? = some x := ⟨l[i], by simp [hi']⟩
    have hdrop : l.drop i = x :: l.drop (i + 1) := by
      rw [List.drop_eq_getElem_cons hi']; congr 1; exact (List.getElem?_eq_some_iff.1 hx).2
    rw [hdrop] at hinv
    simp only [fIdx] at hinv
    refine W_skip (kq4 _ _ ?_)
    refine W_seq fun kz6 kq6 => ?_
    refine W_block ?_
    refine W_seq fun kz7 kq7 => ?_
    refine W_regionJ [0, 1, 2, 7, 29] [(29, .bool (isJ a b x))] ?_ fun R hR => ?_   -- r4
    · refine kq7 _ _ ?_
      simp only [go_sem, hx]
      refine W_cond rfl (fun c2 => ?_) (fun c2 => ?_)
      · -- c2 true
        try simp only [nrm] at c2
        refine W_seq fun kz8 kq8 => ?_
        refine W_region [6] fun R hR => ?_   -- r5
        simp only [go_sem, hx]
        refine hR _ _ (kq8 _ _ ?_); clear hR R; try clear kq8 kz8
        try simp only [go_sem, hx]
        refine W_ret ?_
        simp only [go_sem, hx]
        refine ⟨.inr (by trivial), ?_⟩
        first | refine Fin_same hcl rfl (Wk_eq ?_ (by simp only [go_sem])) | refine Fin_self hcl rfl (Wk_eq ?_ (by simp only [go_sem]))
        try simp only [go_sem]
        all_goals
          first | rfl | (simp_all; done) | (simp_all; omega)
      · -- c2 false
        try simp only [nrm] at c2
        refine W_skip (kq6 _ _ ?_)
        refine W_region [0, 1, 2, 7] fun R hR => ?_   -- r3
        simp only [go_sem, hx]
        try simp (disch := omega) only [wrapI, wrapU]
        refine hR _ _ ?_; clear hR R
        try simp only [go_sem, hx]
        refine ⟨i + 1, ?_, by (try simp only []); omega, ?_⟩
        · first | exact Weak.refl | exact Weak.eq (by first | rfl | (simp only [go_sem]; done) | (simp only [go_sem]; rfl) | (simp [go_sem]; done) | (simp [go_sem]; omega)) (by first | rfl | (simp only [go_sem]; done) | (simp [go_sem]; done))
        · try dsimp only
          exact ⟨hi', by simp_all⟩
    · simp only [go_sem, hx]
      refine GWant_split (fun g1 => ?_) (fun g1 => ?_)
      · try simp only [Bool.not_eq_true', Bool.not_eq_false'] at g1
        have n1 := g1; try simp only [nrm] at n1
        simp only [go_sem, hx, g1]
        refine hR _ ?_
        all_goals try simp only [go_sem, hx]
        all_goals
          first | (simp [isJ, *]; done) | (simp_all [isJ]; done)
      · try simp only [Bool.not_eq_true', Bool.not_eq_false'] at g1
        have n1 := g1; try simp only [nrm] at n1
        simp only [go_sem, hx, g1]
        refine hR _ ?_
        all_goals try simp only [go_sem, hx]
        all_goals
          first | (simp [isJ, *]; done) | (simp_all [isJ]; done)
  · -- c1 false
    try simp only [nrm] at c1
    have hdrop : l.drop i = [] := List.drop_eq_nil_of_le (by omega)
    rw [hdrop] at hinv
    simp only [fIdx] at hinv
    refine W_exit ?_
    simp only [go_sem]
    refine kq2 _ _ ?_
    refine W_seq fun kz9 kq9 => ?_
    refine W_region [6] fun R hR => ?_   -- r6
    simp only [go_sem]
    refine hR _ _ (kq9 _ _ ?_); clear hR R; try clear kq9 kz9
    try simp only [go_sem]
    refine W_ret ?_
    simp only [go_sem]
    refine ⟨.inr (by trivial), ?_⟩
    first | refine Fin_same hcl rfl (Wk_eq ?_ (by simp only [go_sem])) | refine Fin_self hcl rfl (Wk_eq ?_ (by simp only [go_sem]))
    try simp only [go_sem]
    all_goals
      first | rfl | (simp_all; done) | (simp_all; omega)
set_option maxHeartbeats 2000000 in
theorem rAbs_pc (Y : YEnv) (σ : Sg) (l : List (Int × Int)) (a b : Int) (hl : l.length < 2 ^ 62) :
    PC Tryz.prog Y 89 [sts l, I a, I b] σ (.bool (l.any (isA a b))) (σ) := by
  refine PC_of_W Tryz.func89 rfl (by kernel_rfl) Tryz.ntmps89 (by simp) fun hcl hca => ?_
  obtain ⟨res, hres⟩ : ∃ r, l.any (isA a b) = r := ⟨_, rfl⟩
  rw [hres]
  refine W_seq fun kz1 kq1 => ?_
  refine W_region [0, 1, 2] fun R hR => ?_   -- r0
  simp only [go_sem]
  refine hR _ _ (kq1 _ _ ?_); clear hR R; try clear kq1 kz1
  try simp only [go_sem]
  refine W_seq fun kz2 kq2 => ?_
  refine W_seq fun kz3 kq3 => ?_
  refine W_region [0, 1, 2, 7] fun R hR => ?_   -- r1
  simp only [go_sem]
  refine hR _ _ (kq3 _ _ ?_); clear hR R; try clear kq3 kz3
  try simp only [go_sem]
  refine W_block ?_
  refine W_loopS (α := Nat) (fun (i : Nat) => [(7, I i)]) (fun (i : Nat) => i ≤ l.length ∧ res = (l.drop i).any (isA a b)) (fun (i : Nat) => l.length - i) (0) rfl (⟨Nat.zero_le _, hres.symm⟩) ?_
  rintro i ⟨hi, hinv⟩
  refine W_seq fun kz4 kq4 => ?_
  refine W_seq fun kz5 kq5 => ?_
  refine W_region [0, 1, 2, 7, 11] fun R hR => ?_   -- r2
  simp only [go_sem]
  refine hR _ _ (kq5 _ _ ?_); clear hR R; try clear kq5 kz5
  try simp only [go_sem]
  refine W_cond rfl (fun c1 => ?_) (fun c1 => ?_)
  · -- c1 true
    try simp only [nrm] at c1
    have hi' : i < l.length := by first | assumption | omega
    obtain ⟨x, hx⟩ : ∃ x, l[i]? = some x := ⟨l[i], by simp [hi']⟩
    have hdrop : l.drop i = x :: l.drop (i + 1) := by
      rw [List.drop_eq_getElem_cons hi']; congr 1; exact (List.getElem?_eq_some_iff.1 hx).2
    rw [hdrop, List.any_cons] at hinv
    refine W_skip (kq4 _ _ ?_)
    refine W_seq fun kz6 kq6 => ?_
    refine W_block ?_
    refine W_seq fun kz7 kq7 => ?_
    refine W_regionJ [0, 1, 2, 7, 29] [(29, .bool (isA a b x))] ?_ fun R hR => ?_   -- r4
    · refine kq7 _ _ ?_
      simp only [go_sem, hx]
      refine W_cond rfl (fun c2 => ?_) (fun c2 => ?_)
      · -- c2 true
        try simp only [nrm] at c2
        refine W_seq fun kz8 kq8 => ?_
        refine W_region [6] fun R hR => ?_   -- r5
        simp only [go_sem, hx]
        refine hR _ _ (kq8 _ _ ?_); clear hR R; try clear kq8 kz8
        try simp only [go_sem, hx]
        refine W_ret ?_
        simp only [go_sem, hx]
        refine ⟨.inr (by trivial), ?_⟩
        first | refine Fin_same hcl rfl (Wk_eq ?_ (by simp only [go_sem])) | refine Fin_self hcl rfl (Wk_eq ?_ (by simp only [go_sem]))
        try simp only [go_sem]
        all_goals
          first | rfl | (simp_all; done) | (simp_all; omega)
      · -- c2 false
        try simp only [nrm] at c2
        refine W_skip (kq6 _ _ ?_)
        refine W_region [0, 1, 2, 7] fun R hR => ?_   -- r3
        simp only [go_sem, hx]
        try simp (disch := omega) only [wrapI, wrapU]
        refine hR _ _ ?_; clear hR R
        try simp only [go_sem, hx]
        refine ⟨i + 1, ?_, by (try simp only []); omega, ?_⟩
        · first | exact Weak.refl | exact Weak.eq (by first | rfl | (simp only [go_sem]; done) | (simp only [go_sem]; rfl) | (simp [go_sem]; done) | (simp [go_sem]; omega)) (by first | rfl | (simp only [go_sem]; done) | (simp [go_sem]; done))
        · try dsimp only
          exact ⟨hi', by simp_all⟩
    · simp only [go_sem, hx]
      refine GWant_split (fun g1 => ?_) (fun g1 => ?_)
      · try simp only [Bool.not_eq_true', Bool.not_eq_false'] at g1
        have n1 := g1; try simp only [nrm] at n1
        simp only [go_sem, hx, g1]
        refine hR _ ?_
        all_goals try simp only [go_sem, hx]
        all_goals
          first | (simp [isA, *]; done) | (simp_all [isA]; done)
      · try simp only [Bool.not_eq_true', Bool.not_eq_false'] at g1
        have n1 := g1; try simp only [nrm] at n1
        simp only [go_sem, hx, g1]
        refine hR _ ?_
        all_goals try simp only [go_sem, hx]
        all_goals
          first | (simp [isA, *]; done) | (simp_all [isA]; done)
  · -- c1 false
    try simp only [nrm] at c1
    have hdrop : l.drop i = [] := List.drop_eq_nil_of_le (by omega)
    rw [hdrop, List.any_nil] at hinv
    refine W_exit ?_
    simp only [go_sem]
    refine kq2 _ _ ?_
    refine W_seq fun kz9 kq9 => ?_
    refine W_region [6] fun R hR => ?_   -- r6
    simp only [go_sem]
    refine hR _ _ (kq9 _ _ ?_); clear hR R; try clear kq9 kz9
    try simp only [go_sem]
    refine W_ret ?_
    simp only [go_sem]
    refine ⟨.inr (by trivial), ?_⟩
    first | refine Fin_same hcl rfl (Wk_eq ?_ (by simp only [go_sem])) | refine Fin_self hcl rfl (Wk_eq ?_ (by simp only [go_sem]))
    try simp only [go_sem]
    all_goals
      first | rfl | (simp_all; done) | (simp_all; omega)
set_option maxHeartbeats 2000000 in
theorem rEq_pc (Y : YEnv) (σ : Sg) (xs ys : List Int) (o o2 : Own) (hx : xs.length < 2 ^ 50) (hy : ys.length < 2 ^ 50) :
    PC Tryz.prog Y 114 [intsO o xs, intsO o2 ys] σ (.bool (decide (xs = ys))) (σ) := by
  refine PC_of_W Tryz.func114 rfl (by kernel_rfl) Tryz.ntmps114 (by simp) fun hcl hca => ?_
  obtain ⟨res, hres⟩ : ∃ r, decide (xs = ys) = r := ⟨_, rfl⟩
  rw [hres]
  refine W_seq fun kz1 kq1 => ?_
  refine W_region [0, 1] fun R hR => ?_   -- r0
  simp only [go_sem]
  refine hR _ _ (kq1 _ _ ?_); clear hR R; try clear kq1 kz1
  try simp only [go_sem]
  refine W_seq fun kz2 kq2 => ?_
  refine W_seq fun kz3 kq3 => ?_
  refine W_region [0, 1, 5] fun R hR => ?_   -- r1
  simp only [go_sem]
  refine hR _ _ (kq3 _ _ ?_); clear hR R; try clear kq3 kz3
  try simp only [go_sem]
  refine W_block ?_
  refine W_loopS (α := Nat) (fun (i : Nat) => [(5, I i)]) (fun (i : Nat) => i ≤ xs.length ∧ i ≤ ys.length ∧ res = decide (xs.drop i = ys.drop i)) (fun (i : Nat) => xs.length - i) (0) rfl (⟨Nat.zero_le _, Nat.zero_le _, by rw [← hres]; rfl⟩) ?_
  rintro i ⟨hi, hi2, hinv⟩
  refine W_seq fun kz4 kq4 => ?_
  refine W_seq fun kz5 kq5 => ?_
  refine W_regionJ [0, 1, 5, 15] [(15, .bool (decide (i < xs.length) && decide (i < ys.length)))] ?_ fun R hR => ?_   -- r2
  · refine kq5 _ _ ?_
    simp only [go_sem]
    refine W_cond rfl (fun c1 => ?_) (fun c1 => ?_)
    · -- c1 true
      try simp only [nrm] at c1
      have hb' : i < xs.length ∧ i < ys.length := by simpa using c1
      have hi' := hb'.1
      obtain ⟨x, hx⟩ : ∃ x, xs[i]? = some x := ⟨xs[i], by simp [hi']⟩
      obtain ⟨y, hy⟩ : ∃ y, ys[i]? = some y := ⟨ys[i]'(by omega), by simp⟩
      have d1 : xs.drop i = x :: xs.drop (i + 1) := by
        rw [List.drop_eq_getElem_cons hi']; congr 1; exact (List.getElem?_eq_some_iff.1 hx).2
      have d2 : ys.drop i = y :: ys.drop (i + 1) := by
        rw [List.drop_eq_getElem_cons (by omega)]; congr 1; exact (List.getElem?_eq_some_iff.1 hy).2
      rw [d1, d2] at hinv
      refine W_skip (kq4 _ _ ?_)
      refine W_seq fun kz6 kq6 => ?_
      refine W_block ?_
      refine W_seq fun kz7 kq7 => ?_
      refine W_draw [0, 1, 5, 26] [0, 1, 2, 3, 4, 5, 6, 7, 8] [] [[], [], [0, 1], [0, 1, 2], [], [], [4, 5], [4, 5, 6], [0, 1, 2, 3, 4, 5, 6, 7]] mixed (by kernel_rfl) fun R hR => ?_   -- r4
      simp only [go_sem, hx, hy]
      try refine And.intro (by repeat' (first | refine And.intro ?_ ?_ | exact GOr_right (fun _ => by simp only [go_sem, hx, hy]))) ?_
      refine hR _ _ (kq7 _ _ ?_); clear hR R; try clear kq7 kz7
      try simp only [go_sem, hx, hy]
      refine W_cond rfl (fun c2 => ?_) (fun c2 => ?_)
      · -- c2 true
        try simp only [nrm] at c2
        refine W_seq fun kz8 kq8 => ?_
        refine W_region [4] fun R hR => ?_   -- r5
        simp only [go_sem, hx, hy]
        refine hR _ _ (kq8 _ _ ?_); clear hR R; try clear kq8 kz8
        try simp only [go_sem, hx, hy]
        refine W_ret ?_
        simp only [go_sem, hx, hy]
        refine ⟨.inr (by trivial), ?_⟩
        first | refine Fin_same hcl rfl (Wk_eq ?_ (by simp only [go_sem])) | refine Fin_self hcl rfl (Wk_eq ?_ (by simp only [go_sem]))
        try simp only [go_sem]
        all_goals
          first | (rw [hinv]; simp_all; done) | (rw [hinv]; congr 1; rw [Bool.eq_iff_iff]; simp; done) | (rw [hinv]; congr 1; rw [Bool.eq_iff_iff]; simp; omega) | (simp_all; done)
      · -- c2 false
        try simp only [nrm] at c2
        refine W_skip (kq6 _ _ ?_)
        refine W_region [0, 1, 5] fun R hR => ?_   -- r3
        simp only [go_sem, hx, hy]
        try simp (disch := omega) only [wrapI, wrapU]
        refine hR _ _ ?_; clear hR R
        try simp only [go_sem, hx, hy]
        refine ⟨i + 1, ?_, by (try simp only []); omega, ?_⟩
        · first | exact Weak.refl | exact Weak.eq (by first | rfl | (simp only [go_sem]; done) | (simp only [go_sem]; rfl) | (simp [go_sem]; done) | (simp [go_sem]; omega)) (by first | rfl | (simp only [go_sem]; done) | (simp [go_sem]; done))
        · try dsimp only
          refine ⟨by omega, by omega, ?_⟩
          rw [hinv]; simp_all
    · -- c1 false
      try simp only [nrm] at c1
      have hb' : ¬ (i < xs.length ∧ i < ys.length) := by simpa using c1
      have hll : decide (xs.drop i = ys.drop i) = decide (xs.length = ys.length) := by
        by_cases e : i = xs.length
        · rw [List.drop_eq_nil_of_le (by omega)]
          by_cases e2 : i = ys.length
          · rw [List.drop_eq_nil_of_le (by omega)]; simp; omega
          · have : ys.drop i ≠ [] := fun h => by rw [List.drop_eq_nil_iff] at h; omega
            rw [decide_eq_false (fun h => this h.symm), decide_eq_false (by omega)]
        · have : xs.drop i ≠ [] := fun h => by rw [List.drop_eq_nil_iff] at h; omega
          rw [show ys.drop i = [] from List.drop_eq_nil_of_le (by omega), decide_eq_false this, decide_eq_false (by omega)]
      rw [hll] at hinv
      refine W_exit ?_
      simp only [go_sem]
      refine kq2 _ _ ?_
      refine W_seq fun kz9 kq9 => ?_
      refine W_region [4] fun R hR => ?_   -- r6
      simp only [go_sem]
      refine hR _ _ (kq9 _ _ ?_); clear hR R; try clear kq9 kz9
      try simp only [go_sem]
      refine W_ret ?_
      simp only [go_sem]
      refine ⟨.inr (by trivial), ?_⟩
      first | refine Fin_same hcl rfl (Wk_eq ?_ (by simp only [go_sem])) | refine Fin_self hcl rfl (Wk_eq ?_ (by simp only [go_sem]))
      try simp only [go_sem]
      all_goals
        first | (rw [hinv]; simp_all; done) | (rw [hinv]; congr 1; rw [Bool.eq_iff_iff]; simp; done) | (rw [hinv]; congr 1; rw [Bool.eq_iff_iff]; simp; omega) | (simp_all; done)
  · simp only [go_sem]
    refine GWant_split (fun g1 => ?_) (fun g1 => ?_)
    · try simp only [Bool.not_eq_true', Bool.not_eq_false'] at g1
      have n1 := g1; try simp only [nrm] at n1
      simp only [go_sem, g1]
      refine hR _ ?_
      all_goals try simp only [go_sem]
      all_goals
        first | (simp [*]; done) | (simp_all; done)
    · try simp only [Bool.not_eq_true', Bool.not_eq_false'] at g1
      have n1 := g1; try simp only [nrm] at n1
      simp only [go_sem, g1]
      refine hR _ ?_
      all_goals try simp only [go_sem]
      all_goals
        first | (simp [*]; done) | (simp_all; done)
set_option maxHeartbeats 4000000 in
theorem rOpen_pc (Y : YEnv) (σ : Sg) (s : Scale) (l : List Envl) (hv : s.V) (hl : l.length < 2 ^ 40) (hm : ∀ x, x ∈ l → x.marks.length < 2 ^ 40) :
    PC Tryz.prog Y 95 [scPV s, evs l] σ (I (rOpen s l)) (σ) := by
  refine PC_of_W Tryz.func95 rfl (by kernel_rfl) Tryz.ntmps95 (by simp) fun hcl hca => ?_
  have q1 := hv.mt
  have q2 := hv.jd
  have q3 := hv.sc
  have q4 := hv.lo
  have q5 := hv.hi
  obtain ⟨res, hres⟩ : ∃ r, rOpen s l = r := ⟨_, rfl⟩
  rw [hres]
  unfold rOpen at hres
  refine W_seq fun kz1 kq1 => ?_
  refine W_region [1, 2] fun R hR => ?_   -- r0
  simp only [go_sem]
  refine hR _ _ (kq1 _ _ ?_); clear hR R; try clear kq1 kz1
  try simp only [go_sem]
  refine W_seq fun kz2 kq2 => ?_
  refine W_seq fun kz3 kq3 => ?_
  refine W_region [1, 2, 11] fun R hR => ?_   -- r1
  simp only [go_sem]
  refine hR _ _ (kq3 _ _ ?_); clear hR R; try clear kq3 kz3
  try simp only [go_sem]
  refine W_cond rfl (fun c1 => ?_) (fun c1 => ?_)
  · -- c1 true
    try simp only [nrm] at c1
    refine W_seq fun kz4 kq4 => ?_
    refine W_region [4] fun R hR => ?_   -- r2
    simp only [go_sem]
    refine hR _ _ (kq4 _ _ ?_); clear hR R; try clear kq4 kz4
    try simp only [go_sem]
    refine W_ret ?_
    simp only [go_sem]
    refine ⟨.inr (by trivial), ?_⟩
    first | refine Fin_same hcl rfl (Wk_eq ?_ (by simp only [go_sem])) | refine Fin_self hcl rfl (Wk_eq ?_ (by simp only [go_sem]))
    try simp only [go_sem]
    all_goals
      rw [← hres, if_pos (by omega)]
  · -- c1 false
    try simp only [nrm] at c1
    rw [if_neg (by omega)] at hres
    refine W_skip (kq2 _ _ ?_)
    refine W_seq fun kz5 kq5 => ?_
    refine W_seq fun kz6 kq6 => ?_
    refine W_region [1, 2, 5] fun R hR => ?_   -- r3
    simp only [go_sem]
    refine hR _ _ (kq6 _ _ ?_); clear hR R; try clear kq6 kz6
    try simp only [go_sem]
    refine W_block ?_
    refine W_loopS (α := Nat × Kn) (fun ⟨i, kk⟩ => [(5, I i)]) (fun ⟨i, kk⟩ => i ≤ l.length ∧ KAs kk (l.take i) ∧ res = (openK s (l.drop i) kk).1) (fun ⟨i, kk⟩ => l.length - i) ((0, [])) rfl (⟨Nat.zero_le _, (fun j => rfl), hres.symm⟩) ?_
    rintro ⟨i, kk⟩ ⟨hi, hka, hinv⟩
    refine W_seq fun kz7 kq7 => ?_
    refine W_seq fun kz8 kq8 => ?_
    refine W_region [1, 2, 5, 15] fun R hR => ?_   -- r4
    simp only [go_sem]
    refine hR _ _ (kq8 _ _ ?_); clear hR R; try clear kq8 kz8
    try simp only [go_sem]
    refine W_cond rfl (fun c2 => ?_) (fun c2 => ?_)
    · -- c2 true
      try simp only [nrm] at c2
      have hi' : i < l.length := by first | assumption | omega
      obtain ⟨x, hx⟩ : ∃ x, l[i]? = some x := ⟨l[i], by simp [hi']⟩
      have hdrop : l.drop i = x :: l.drop (i + 1) := by
        rw [List.drop_eq_getElem_cons hi']; congr 1; exact (List.getElem?_eq_some_iff.1 hx).2
      have hxl : x ∈ l := List.mem_of_getElem? hx
      rw [hdrop, openK_step hka] at hinv
      refine W_skip (kq7 _ _ ?_)
      refine W_seq fun kz9 kq9 => ?_
      refine W_block ?_
      refine W_seq fun kz10 kq10 => ?_
      refine W_seq fun kz11 kq11 => ?_
      refine W_draw [1, 2, 5, 6] [0, 1, 2, 3, 4, 5, 6, 7, 8, 9, 10, 11, 12] [] [[], [], [], [1, 2], [1, 2, 3], [1, 2, 3, 4], [], [], [6, 7], [6, 7, 8], [6, 7, 8, 9], [0, 1, 2, 3, 4, 5, 6, 7, 8, 9, 10], [0, 1, 2, 3, 4, 5, 6, 7, 8, 9, 10, 11]] mixed (by kernel_rfl) fun R hR => ?_   -- r6
      simp only [go_sem, hx]
      refine GCall_of (rJudge_pc Y _ s x.matter x.judge hv) ?_   -- t29
      simp only [go_sem, hx]
      try refine And.intro (by repeat' (first | refine And.intro ?_ ?_ | exact GOr_right (fun _ => by simp only [go_sem, hx]))) ?_
      refine hR _ _ (kq11 _ _ ?_); clear hR R; try clear kq11 kz11
      try simp only [go_sem, hx]
      refine W_seq fun kz12 kq12 => ?_
      refine W_region [1, 2, 5, 6, 31] fun R hR => ?_   -- r7
      simp only [go_sem, hx]
      refine hR _ _ (kq12 _ _ ?_); clear hR R; try clear kq12 kz12
      try simp only [go_sem, hx]
      refine W_cond rfl (fun c3 => ?_) (fun c3 => ?_)
      · -- c3 true
        try simp only [nrm] at c3
        refine W_seq fun kz13 kq13 => ?_
        refine W_region [4] fun R hR => ?_   -- r8
        simp only [go_sem, hx]
        refine hR _ _ (kq13 _ _ ?_); clear hR R; try clear kq13 kz13
        try simp only [go_sem, hx]
        refine W_ret ?_
        simp only [go_sem, hx]
        refine ⟨.inr (by trivial), ?_⟩
        first | refine Fin_same hcl rfl (Wk_eq ?_ (by simp only [go_sem])) | refine Fin_self hcl rfl (Wk_eq ?_ (by simp only [go_sem]))
        try simp only [go_sem]
        all_goals
          rw [hinv]; simp [jdE, c3]
      · -- c3 false
        try simp only [nrm] at c3
        refine W_skip (kq10 _ _ ?_)
        refine W_seq fun kz14 kq14 => ?_
        refine W_seq fun kz15 kq15 => ?_
        refine W_draw [1, 2, 5, 7] [0, 1, 2, 3, 4, 5, 6, 7] [] [[], [], [], [1, 2], [1, 2, 3], [1, 2, 3, 4], [0, 1, 2, 3, 4, 5], [0, 1, 2, 3, 4, 5, 6]] mixed (by kernel_rfl) fun R hR => ?_   -- r9
        simp only [go_sem, hx]
        refine GCall_of (rMarks_pc Y _ s x.marks .ro (hm x hxl)) ?_   -- t39
        simp only [go_sem, hx]
        try refine And.intro (by repeat' (first | refine And.intro ?_ ?_ | exact GOr_right (fun _ => by simp only [go_sem, hx]))) ?_
        refine hR _ _ (kq15 _ _ ?_); clear hR R; try clear kq15 kz15
        try simp only [go_sem, hx]
        refine W_seq fun kz16 kq16 => ?_
        refine W_region [1, 2, 5, 7, 41] fun R hR => ?_   -- r10
        simp only [go_sem, hx]
        refine hR _ _ (kq16 _ _ ?_); clear hR R; try clear kq16 kz16
        try simp only [go_sem, hx]
        refine W_cond rfl (fun c4 => ?_) (fun c4 => ?_)
        · -- c4 true
          try simp only [nrm] at c4
          refine W_seq fun kz17 kq17 => ?_
          refine W_region [4] fun R hR => ?_   -- r11
          simp only [go_sem, hx]
          refine hR _ _ (kq17 _ _ ?_); clear hR R; try clear kq17 kz17
          try simp only [go_sem, hx]
          refine W_ret ?_
          simp only [go_sem, hx]
          refine ⟨.inr (by trivial), ?_⟩
          first | refine Fin_same hcl rfl (Wk_eq ?_ (by simp only [go_sem])) | refine Fin_self hcl rfl (Wk_eq ?_ (by simp only [go_sem]))
          try simp only [go_sem]
          all_goals
            rw [hinv]; simp [jdE, c3, c4]
        · -- c4 false
          try simp only [nrm] at c4
          have hmk : marked s (jdE x) x.marks = 0 := by rw [marked_r]; simp [jdE, c3, c4]
          obtain ⟨k1, k2, k3⟩ := marked_ok hmk
          simp only [ofSc_true, jdE] at k1
          have hfa := findE_at hx
          obtain ⟨ki, yy, hki1, hki2, hkf⟩ : ∃ (ki : Nat) (yy : Envl), fIdx (isJ x.matter x.judge) 0 l = (ki : Int) ∧ l[ki]? = some yy ∧ findE l (jdE x) = some yy.marks := by
            rcases fIdx_find (a := x.matter) (b := x.judge) (l := l) (p := 0) with ⟨_, h⟩ | ⟨i2, y2, h1, h2, _, h3⟩
            · have : findE l (jdE x) = none := h
              rw [hfa] at this; cases this
            · exact ⟨i2, y2, by rw [h1, Nat.zero_add], h2, h3⟩
          have hyy : (findE (l.take i) (jdE x)).getD x.marks = yy.marks := by rw [hfa] at hkf; exact Option.some.inj hkf
          rw [hyy] at hinv
          simp only [jdE] at hinv
          refine W_skip (kq14 _ _ ?_)
          refine W_seq fun kz18 kq18 => ?_
          refine W_seq fun kz19 kq19 => ?_
          refine W_draw [1, 2, 5, 64] [0, 1, 2, 3, 4, 5, 6, 7, 8, 9, 10, 11, 12, 13, 14, 15, 16, 17, 18, 19, 20, 21] [(0, 22), (1, 22), (2, 22), (3, 22), (4, 22)] [[], [], [0, 1], [0, 1, 2], [0, 1, 2, 3], [], [], [5, 6], [5, 6, 7], [5, 6, 7, 8], [], [], [10, 11], [10, 11, 12], [10, 11, 12, 13], [], [], [15, 16], [15, 16, 17], [15, 16, 17, 18], [5, 6, 7, 8, 9, 10, 11, 12, 13, 14, 15, 16, 17, 18, 19], [0, 1, 2, 3, 4, 5, 6, 7, 8, 9, 10, 11, 12, 13, 14, 15, 16, 17, 18, 19, 20]] mixed (by kernel_rfl) fun R hR => ?_   -- r12
          simp only [go_sem, hx]
          refine GCall_of (rseal_pc Y _ x.matter x.judge x.marks .ro (by omega) (by omega) (by omega) (fun z hz => by have := k3 z hz; omega)) ?_   -- t63
          simp only [go_sem, hx]
          try refine And.intro (by repeat' (first | refine And.intro ?_ ?_ | exact GOr_right (fun _ => by simp only [go_sem, hx]))) ?_
          refine hR _ _ (kq19 _ _ ?_); clear hR R; try clear kq19 kz19
          try simp only [go_sem, hx]
          refine W_cond rfl (fun c5 => ?_) (fun c5 => ?_)
          · -- c5 true
            try simp only [nrm] at c5
            refine W_seq fun kz20 kq20 => ?_
            refine W_region [4] fun R hR => ?_   -- r13
            simp only [go_sem, hx]
            refine hR _ _ (kq20 _ _ ?_); clear hR R; try clear kq20 kz20
            try simp only [go_sem, hx]
            refine W_ret ?_
            simp only [go_sem, hx]
            refine ⟨.inr (by trivial), ?_⟩
            first | refine Fin_same hcl rfl (Wk_eq ?_ (by simp only [go_sem])) | refine Fin_self hcl rfl (Wk_eq ?_ (by simp only [go_sem]))
            try simp only [go_sem]
            all_goals
              rw [hinv]; simp [jdE, c3, c4, c5]
          · -- c5 false
            try simp only [nrm] at c5
            refine W_skip (kq18 _ _ ?_)
            refine W_seq fun kz21 kq21 => ?_
            refine W_draw [1, 2, 5, 8] [0, 1, 2, 3, 4, 5, 6, 7, 8, 9, 10, 11, 12] [] [[], [], [], [1, 2], [1, 2, 3], [1, 2, 3, 4], [], [], [6, 7], [6, 7, 8], [6, 7, 8, 9], [0, 1, 2, 3, 4, 5, 6, 7, 8, 9, 10], [0, 1, 2, 3, 4, 5, 6, 7, 8, 9, 10, 11]] mixed (by kernel_rfl) fun R hR => ?_   -- r14
            simp only [go_sem, hx]
            refine GCall_of (PC.val (v' := I (ki : Int)) (rFind_pc Y _ l x.matter x.judge (by omega)) (by rw [hki1])) ?_   -- t76
            simp only [go_sem, hx]
            try refine And.intro (by repeat' (first | refine And.intro ?_ ?_ | exact GOr_right (fun _ => by simp only [go_sem, hx]))) ?_
            refine hR _ _ (kq21 _ _ ?_); clear hR R; try clear kq21 kz21
            try simp only [go_sem, hx]
            refine W_seq fun kz22 kq22 => ?_
            refine W_draw [1, 2, 5, 88] [0, 1, 2, 3, 4, 5, 6, 7, 8, 9, 10, 11] [] [[], [], [0, 1], [0, 1, 2], [0, 1, 2, 3], [], [], [5, 6], [5, 6, 7], [5, 6, 7, 8], [0, 1, 2, 3, 4, 5, 6, 7, 8, 9], [0, 1, 2, 3, 4, 5, 6, 7, 8, 9, 10]] mixed (by kernel_rfl) fun R hR => ?_   -- r15
            simp only [go_sem, hx, hki2]
            refine GCall_of (rEq_pc Y _ yy.marks x.marks .ro .ro (by have := hm yy (List.mem_of_getElem? hki2); omega) (by have := hm x hxl; omega)) ?_   -- t87
            simp only [go_sem, hx, hki2]
            try refine And.intro (by repeat' (first | refine And.intro ?_ ?_ | exact GOr_right (fun _ => by simp only [go_sem, hx, hki2]))) ?_
            refine hR _ _ (kq22 _ _ ?_); clear hR R; try clear kq22 kz22
            try simp only [go_sem, hx]
            refine W_cond rfl (fun c6 => ?_) (fun c6 => ?_)
            · -- c6 true
              try simp only [nrm] at c6
              refine W_seq fun kz23 kq23 => ?_
              refine W_region [4] fun R hR => ?_   -- r16
              simp only [go_sem, hx]
              refine hR _ _ (kq23 _ _ ?_); clear hR R; try clear kq23 kz23
              try simp only [go_sem, hx]
              refine W_ret ?_
              simp only [go_sem, hx]
              refine ⟨.inr (by trivial), ?_⟩
              first | refine Fin_same hcl rfl (Wk_eq ?_ (by simp only [go_sem])) | refine Fin_self hcl rfl (Wk_eq ?_ (by simp only [go_sem]))
              try simp only [go_sem]
              all_goals
                have hyx : yy.marks ≠ x.marks := by simpa using c6
                rw [hinv]; simp [jdE, c3, c4, c5, hyx]
            · -- c6 false
              try simp only [nrm] at c6
              have hyx : yy.marks = x.marks := by simpa using c6
              refine W_skip (kq9 _ _ ?_)
              refine W_region [1, 2, 5] fun R hR => ?_   -- r5
              simp only [go_sem, hx]
              try simp (disch := omega) only [wrapI, wrapU]
              refine hR _ _ ?_; clear hR R
              try simp only [go_sem, hx]
              refine ⟨(i + 1, aput (jdE x) x.marks kk), ?_, by (try simp only []); omega, ?_⟩
              · first | exact Weak.refl | exact Weak.eq (by first | rfl | (simp only [go_sem]; done) | (simp only [go_sem]; rfl) | (simp [go_sem]; done) | (simp [go_sem]; omega)) (by first | rfl | (simp only [go_sem]; done) | (simp [go_sem]; done))
              · try dsimp only
                refine ⟨hi', hka.next hx (by rw [hyy, hyx]), ?_⟩
                rw [hinv]; simp [jdE, c3, c4, c5, hyx]
    · -- c2 false
      try simp only [nrm] at c2
      have hdrop : l.drop i = [] := List.drop_eq_nil_of_le (by omega)
      rw [hdrop] at hinv
      simp only [openK] at hinv
      refine W_exit ?_
      simp only [go_sem]
      refine kq5 _ _ ?_
      refine W_seq fun kz24 kq24 => ?_
      refine W_region [4] fun R hR => ?_   -- r17
      simp only [go_sem]
      refine hR _ _ (kq24 _ _ ?_); clear hR R; try clear kq24 kz24
      try simp only [go_sem]
      refine W_ret ?_
      simp only [go_sem]
      refine ⟨.inr (by trivial), ?_⟩
      first | refine Fin_same hcl rfl (Wk_eq ?_ (by simp only [go_sem])) | refine Fin_self hcl rfl (Wk_eq ?_ (by simp only [go_sem]))
      try simp only [go_sem]
      all_goals
        rw [hinv]
end Go.Proofs.YtgelnjmddabgpaaGreat
namespace Go.Proofs.YtgelnjmddabgpaaGreat
set_option maxRecDepth 100000
def lexlt : List Int → List Int → Prop
  | x :: xs, y :: ys => x < y ∨ (x = y ∧ lexlt xs ys)
  | _, _ => False
theorem lexlt_trans : ∀ {a b c : List Int}, lexlt a b → lexlt b c → lexlt a c := by
  intro a
  induction a with
  | nil => intro b c h; cases b <;> exact h.elim
  | cons x a ih =>
    intro b c h k
    cases b with
    | nil => exact h.elim
    | cons y b =>
      cases c with
      | nil => exact k.elim
      | cons z c =>
        rcases h with h | ⟨rfl, h⟩
        · rcases k with k | ⟨rfl, k⟩
          · exact .inl (by omega)
          · exact .inl h
        · rcases k with k | ⟨rfl, k⟩
          · exact .inl k
          · exact .inr ⟨rfl, ih h k⟩
theorem lexlt_irrefl : ∀ {a : List Int}, ¬ lexlt a a := by
  intro a
  induction a with
  | nil => exact fun h => h
  | cons x a ih =>
    rintro (h | ⟨_, h⟩)
    · omega
    · exact ih h
theorem lexlt_total : ∀ {a b : List Int}, a.length = b.length → lexlt a b ∨ a = b ∨ lexlt b a := by
  intro a
  induction a with
  | nil => intro b h; cases b with | nil => exact .inr (.inl rfl) | cons => simp at h
  | cons x a ih =>
    intro b h
    cases b with
    | nil => simp at h
    | cons y b =>
      rcases Int.lt_trichotomy x y with k | rfl | k
      · exact .inl (.inl k)
      · rcases ih (b := b) (by simpa using h) with k | rfl | k
        · exact .inl (.inr ⟨rfl, k⟩)
        · exact .inr (.inl rfl)
        · exact .inr (.inr (.inr ⟨rfl, k⟩))
      · exact .inr (.inr (.inl k))
/-- What is compared, number by number. -/
def keyS (ord : List Int) (x : Stand) : List Int := -x.total :: (ord.map (fun m => -ptAt x m) ++ [x.school])
theorem keyS_len (ord : List Int) (x : Stand) : (keyS ord x).length = ord.length + 2 := by simp [keyS]
theorem firstNZ_lex : ∀ {a b : List Int}, a.length = b.length → (firstNZ (List.zipWith (fun p q => p - q) a b) < 0 ↔ lexlt a b) := by
  intro a
  induction a with
  | nil => intro b h; simp [firstNZ, lexlt]
  | cons x a ih =>
    intro b h
    cases b with
    | nil => simp at h
    | cons y b =>
      simp only [List.zipWith_cons_cons, firstNZ, lexlt]
      split
      · constructor
        · intro k; exact .inl (by omega)
        · rintro (k | ⟨k, _⟩)
          · omega
          · omega
      · rw [ih (by simpa using h)]
        constructor
        · intro k; exact .inr ⟨by omega, k⟩
        · rintro (k | ⟨_, k⟩)
          · omega
          · exact k
theorem cmpRules_zip (ord : List Int) (a b : Stand) : cmpRules ord a b = List.zipWith (fun p q => p - q) (keyS ord a) (keyS ord b) := by
  unfold cmpRules keyS
  rw [List.zipWith_cons_cons]
  congr 1
  · omega
  · induction ord with
    | nil => simp
    | cons m ord ih =>
      simp only [List.map_cons, List.cons_append, List.zipWith_cons_cons]
      rw [ih]
      congr 1
      omega
/-- A stands ahead of b. -/
def Ahd (ord : List Int) (a b : Stand) : Prop := cmpSt ord a b < 0
instance (ord : List Int) (a b : Stand) : Decidable (Ahd ord a b) := inferInstanceAs (Decidable (cmpSt ord a b < 0))
theorem Ahd_lex {ord : List Int} {a b : Stand} : Ahd ord a b ↔ lexlt (keyS ord a) (keyS ord b) := by
  unfold Ahd cmpSt
  rw [cmpRules_zip, firstNZ_lex (by rw [keyS_len, keyS_len])]
theorem Ahd.trans {ord : List Int} {a b c : Stand} (h : Ahd ord a b) (k : Ahd ord b c) : Ahd ord a c := Ahd_lex.2 (lexlt_trans (Ahd_lex.1 h) (Ahd_lex.1 k))
theorem Ahd.irrefl {ord : List Int} {a : Stand} : ¬ Ahd ord a a := fun h => lexlt_irrefl (Ahd_lex.1 h)
theorem Ahd.asymm {ord : List Int} {a b : Stand} (h : Ahd ord a b) : ¬ Ahd ord b a := fun k => Ahd.irrefl (h.trans k)
theorem Ahd.total {ord : List Int} {a b : Stand} (h : a.school ≠ b.school) : Ahd ord a b ∨ Ahd ord b a := by
  rcases lexlt_total (a := keyS ord a) (b := keyS ord b) (by rw [keyS_len, keyS_len]) with k | k | k
  · exact .inl (Ahd_lex.2 k)
  · exfalso
    apply h
    unfold keyS at k
    simp only [List.cons.injEq] at k
    have := List.append_inj_right' k.2 rfl
    simpa using this
  · exact .inr (Ahd_lex.2 k)
theorem not_ahd {ord : List Int} {a b : Stand} (h : a.school ≠ b.school) (k : ¬ Ahd ord a b) : Ahd ord b a := (Ahd.total h).resolve_left k
def insZ (x : Int) : List Int → List Int
  | [] => [x]
  | y :: l => if x ≤ y then x :: y :: l else y :: insZ x l
def isortZ : List Int → List Int
  | [] => []
  | x :: l => insZ x (isortZ l)
def Asc (l : List Int) : Prop := l.Pairwise (· ≤ ·)
theorem insZ_perm (x : Int) : ∀ l, (insZ x l).Perm (x :: l) := by
  intro l
  induction l with
  | nil => exact .refl _
  | cons y l ih =>
    simp only [insZ]
    split
    · exact .refl _
    · exact (List.Perm.cons y ih).trans (.swap x y l)
theorem isortZ_perm : ∀ l, (isortZ l).Perm l := by
  intro l
  induction l with
  | nil => exact .refl _
  | cons x l ih => exact (insZ_perm x _).trans (.cons x ih)
theorem insZ_asc (x : Int) : ∀ {l : List Int}, Asc l → Asc (insZ x l) := by
  intro l
  induction l with
  | nil => intro _; simp [insZ, Asc]
  | cons y l ih =>
    intro h
    obtain ⟨h1, h2⟩ := List.pairwise_cons.1 h
    simp only [insZ]
    split
    · exact List.pairwise_cons.2 ⟨fun z hz => by
        rcases List.mem_cons.1 hz with rfl | hz
        · assumption
        · have := h1 z hz; omega, h⟩
    · refine List.pairwise_cons.2 ⟨fun z hz => ?_, ih h2⟩
      rcases List.mem_cons.1 ((insZ_perm x l).mem_iff.1 hz) with rfl | hz
      · omega
      · exact h1 z hz
theorem isortZ_asc : ∀ l, Asc (isortZ l) := by
  intro l
  induction l with
  | nil => exact .nil
  | cons x l ih => exact insZ_asc x ih
theorem asc_perm : ∀ {a b : List Int}, a.Perm b → Asc a → Asc b → a = b := by
  intro a
  induction a with
  | nil => intro b h _ _; exact (List.nil_perm.1 h).symm
  | cons x a ih =>
    intro b h ha hb
    cases b with
    | nil => exact absurd h.length_eq (by simp)
    | cons y b =>
      obtain ⟨a1, a2⟩ := List.pairwise_cons.1 ha
      obtain ⟨b1, b2⟩ := List.pairwise_cons.1 hb
      have e : x = y := by
        have hx : x ∈ y :: b := h.mem_iff.1 (by simp)
        have hy : y ∈ x :: a := h.mem_iff.2 (by simp)
        rcases List.mem_cons.1 hx with rfl | hx
        · rfl
        · rcases List.mem_cons.1 hy with rfl | hy
          · rfl
          · have := a1 y hy; have := b1 x hx; omega
      subst e
      rw [ih (List.Perm.cons_inv h) a2 b2]
theorem sortI_isort (l : List Int) : sortI l = isortZ l := by
  refine asc_perm ((List.mergeSort_perm l _).trans (isortZ_perm l).symm) ?_ (isortZ_asc l)
  have := List.pairwise_mergeSort (le := fun x y : Int => decide (x ≤ y)) (by simp; omega) (by simp; omega) l
  exact this.imp (by simp)
end Go.Proofs.YtgelnjmddabgpaaGreat
namespace Go.Proofs.YtgelnjmddabgpaaGreat
set_option maxRecDepth 100000
section
variable {s : Scale} {k k' : Kn} {sc sc' m u v : Int}
end
theorem mem_toI {n x : Int} : x ∈ toI n ↔ 0 ≤ x ∧ x < n := by
  unfold toI
  rw [List.mem_map]
  constructor
  · rintro ⟨i, hi, rfl⟩
    have := List.mem_range.1 hi
    omega
  · rintro ⟨h1, h2⟩
    exact ⟨x.toNat, List.mem_range.2 (by omega), by omega⟩
/-- How many. -/
def cnt (N : Nat) (p : Nat → Bool) : Nat := ((List.range N).filter p).length
theorem cnt_succ (N : Nat) (p : Nat → Bool) : cnt (N + 1) p = cnt N p + (if p N = true then 1 else 0) := by
  unfold cnt
  rw [List.range_succ, List.filter_append, List.length_append]
  cases h : p N <;> simp [h]
theorem cnt_le (N : Nat) (p : Nat → Bool) : cnt N p ≤ N := by
  unfold cnt
  have := List.length_filter_le p (List.range N)
  simpa using this
section
variable {s : Scale} {k : Kn} {g : Night} {N : Nat}
end
end Go.Proofs.YtgelnjmddabgpaaGreat
namespace Go.Proofs.YtgelnjmddabgpaaGreat
open Go Go.RowKit
set_option maxRecDepth 100000
theorem fIdx_neg {a b : Int} {l : List Envl} : (0 ≤ fIdx (isJ a b) 0 l) ↔ findE l (a, b) ≠ none := by
  rcases fIdx_find (a := a) (b := b) (l := l) (p := 0) with ⟨h1, h2⟩ | ⟨i, x, h1, _, _, h2⟩
  · rw [h1, h2]; simp
  · rw [h1, h2]; simp
theorem any_isA {l : List (Int × Int)} {a b : Int} : l.any (isA a b) = true ↔ (a, b) ∈ l := by
  rw [List.any_eq_true]
  constructor
  · rintro ⟨x, h1, h2⟩; rw [isA_iff] at h2; rw [← h2]; exact h1
  · intro h; exact ⟨_, h, isA_iff.2 rfl⟩
def absL (s : Scale) (op : List Envl) : List (Int × Int) → Int
  | [] => 0
  | j :: r => if rJudge s j ≠ 0 then rJudge s j else if findE op j ≠ none then 10 else absL s op r
theorem absL_missK {s : Scale} {op : List Envl} : ∀ {l : List (Int × Int)} {k : Kn}, (∀ j, (aget j k).getD [] ≠ [] ↔ findE op j ≠ none) → absL s op l = (missK s l k).1 := by
  intro l
  induction l with
  | nil => intro k _; rfl
  | cons j l ih =>
    intro k h
    simp only [absL, missK]
    have hr : rJudge s j = if ofSc s j then 0 else 7 := rfl
    by_cases h1 : ofSc s j = true
    · rw [hr, h1]
      simp only [if_true, ne_eq, not_true_eq_false, if_false, Bool.not_true, Bool.false_eq_true]
      by_cases h2 : findE op j = none
      · have h3 : (aget j k).getD [] = [] := Classical.not_not.1 fun e => (h j).1 e h2
        rw [if_neg (by simp [h2]), if_neg (by simp [h3])]
        refine ih fun j' => ?_
        rw [aget_put]
        by_cases e : j' = j
        · subst e; rw [if_pos rfl]; simp [h2]
        · rw [if_neg e]; exact h j'
      · have h3 := (h j).2 h2
        rw [if_pos h2, if_pos h3]
    · have e : ofSc s j = false := by simpa using h1
      rw [hr, e]
      simp
def presN (n : Night) (J : Nat) (m : Int) : Nat := cnt J fun q => !(n.absent.any (isA m q))
def shN (s : Scale) (n : Night) : Bool := (List.range s.matters.toNat).any fun m => decide (presN n s.judges.toNat m = 0)
def rAbsE (s : Scale) (n : Night) : Int := if 60 < (n.absent.length : Int) then 5 else if absL s n.opened n.absent ≠ 0 then absL s n.opened n.absent else if shN s n = true then 4 else 0
def rNightE (s : Scale) (n : Night) : Int := if rOpen s n.opened ≠ 0 then rOpen s n.opened else if rAbsE s n ≠ 0 then rAbsE s n else if 10 < (n.fines.length : Int) then 5 else finesR s n.fines
theorem presN_zero {n : Night} {J : Nat} {m : Int} : presN n J m = 0 ↔ ∀ q : Nat, q < J → (m, (q : Int)) ∈ n.absent := by
  unfold presN cnt
  rw [List.length_eq_zero_iff, List.filter_eq_nil_iff]
  constructor
  · intro h q hq
    have := h q (List.mem_range.2 hq)
    exact any_isA.1 (by simpa using this)
  · intro h q hq
    have := any_isA.2 (h q (List.mem_range.1 hq))
    simp [this]
theorem shN_shortK {s : Scale} {n : Night} {k : Kn} (hk : ∀ j, absentK k j = true ↔ j ∈ n.absent) : shN s n = shortK s k := by
  rw [Bool.eq_iff_iff]
  unfold shN shortK
  simp only [List.any_eq_true, List.all_eq_true, decide_eq_true_eq, presN_zero, hk, List.mem_range]
  constructor
  · rintro ⟨m, h1, h2⟩
    refine ⟨m, mem_toI.2 (by omega), fun q hq => ?_⟩
    have := mem_toI.1 hq
    obtain ⟨p, rfl⟩ : ∃ p : Nat, q = p := ⟨q.toNat, by omega⟩
    exact h2 p (by omega)
  · rintro ⟨m, h1, h2⟩
    have := mem_toI.1 h1
    obtain ⟨p, rfl⟩ : ∃ p : Nat, m = p := ⟨m.toNat, by omega⟩
    exact ⟨p, by omega, fun q hq => h2 q (mem_toI.2 (by omega))⟩
theorem rNight_known {s : Scale} {n : Night} (hc : chkSc s = 0) : rNightE s n = knownE s n := by
  have hv := Scale.v hc
  unfold rNightE knownE rOpen rAbsE finesE
  rw [if_neg (show ¬ chkSc s ≠ 0 by simp [hc])]
  by_cases c2 : 60 < (n.opened.length : Int)
  · simp [c2]
  rw [if_neg c2, if_neg (show ¬ (n.opened.length : Int) > 60 from c2)]
  by_cases c3 : (openK s n.opened []).1 = 0
  · simp only [c3, ne_eq, not_true_eq_false, if_false, gt_iff_lt]
    obtain ⟨o1, o2, _⟩ := openK_zero.1 c3
    have hg := openK_get c3
    by_cases c4 : 60 < (n.absent.length : Int)
    · simp [c4]
    simp only [c4, if_false]
    have hab : absL s n.opened n.absent = (missK s n.absent (openK s n.opened []).2).1 := absL_missK fun j => by
      rw [hg j]
      cases hf : findE n.opened j with
      | none => simp [aget]
      | some v =>
        obtain ⟨x, h1, _, rfl⟩ := findE_some hf
        simp [(o1 x h1).ne hv]
    rw [hab]
    by_cases c5 : (missK s n.absent (openK s n.opened []).2).1 = 0
    · simp only [c5, not_true_eq_false, if_false]
      have hk : ∀ j, absentK (knownK s n) j = true ↔ j ∈ n.absent := fun j => by
        rw [absentK_iff, pre_get c3 c5]
        refine kOf_nil hv o1 (fun j hj x hx e => ?_) j
        have := (missK_zero.1 c5 j hj).2
        rw [hg j, ← e, findE_mem o2 hx] at this
        simp at this
        exact (o1 x hx).ne hv this
      rw [shN_shortK hk]
      by_cases c6 : shortK s (knownK s n) = true
      · simp [c6]
      · simp [c6]
    · simp [c5]
  · simp [c3]
def rCkE (s : Scale) (n : Night) : Int := if chkSc s ≠ 0 then chkSc s else rNightE s n
theorem rCk_known (s : Scale) (n : Night) : rCkE s n = knownE s n := by
  unfold rCkE
  by_cases h : chkSc s = 0
  · rw [if_neg (by simp [h])]; exact rNight_known h
  · rw [if_pos h]; unfold knownE; rw [if_pos h]
set_option maxHeartbeats 2000000 in
theorem rPres_pc (Y : YEnv) (σ : Sg) (s : Scale) (n : Night) (m : Int) (J : Nat) (hJ : s.judges = J) (hJ8 : J < 2 ^ 40) (ha : n.absent.length < 2 ^ 40) :
    PC Tryz.prog Y 115 [scPV s, ngPV n, I m] σ (I (presN n J m)) (σ) := by
  refine PC_of_W Tryz.func115 rfl (by kernel_rfl) Tryz.ntmps115 (by simp) fun hcl hca => ?_
  have hJi : (s.judges : Int) = (J : Int) := hJ
  refine W_seq fun kz1 kq1 => ?_
  refine W_region [2, 3, 4] fun R hR => ?_   -- r0
  simp only [go_sem]
  refine hR _ _ (kq1 _ _ ?_); clear hR R; try clear kq1 kz1
  try simp only [go_sem]
  refine W_seq fun kz2 kq2 => ?_
  refine W_region [2, 3, 4, 7] fun R hR => ?_   -- r1
  simp only [go_sem]
  refine hR _ _ (kq2 _ _ ?_); clear hR R; try clear kq2 kz2
  try simp only [go_sem]
  refine W_seq fun kz3 kq3 => ?_
  refine W_seq fun kz4 kq4 => ?_
  refine W_region [2, 3, 4, 7, 8] fun R hR => ?_   -- r2
  simp only [go_sem]
  refine hR _ _ (kq4 _ _ ?_); clear hR R; try clear kq4 kz4
  try simp only [go_sem]
  refine W_block ?_
  refine W_loopS (α := Nat × Nat) (fun ⟨i, c⟩ => [(7, I c), (8, I i)]) (fun ⟨i, c⟩ => i ≤ J ∧ c = presN n i m) (fun ⟨i, c⟩ => J - i) ((0, 0)) rfl (⟨Nat.zero_le _, rfl⟩) ?_
  rintro ⟨i, c⟩ ⟨hi, hc⟩
  refine W_seq fun kz5 kq5 => ?_
  refine W_seq fun kz6 kq6 => ?_
  refine W_region [2, 3, 4, 7, 8, 12] fun R hR => ?_   -- r3
  simp only [go_sem]
  refine hR _ _ (kq6 _ _ ?_); clear hR R; try clear kq6 kz6
  try simp only [go_sem]
  refine W_cond rfl (fun c1 => ?_) (fun c1 => ?_)
  · -- c1 true
    try simp only [nrm] at c1
    have hiJ : i < J := by first | omega | (simp at c1; omega)
    have hcs := cnt_succ i fun q => !(n.absent.any (isA m q))
    have hcl := cnt_le i fun q => !(n.absent.any (isA m q))
    have hcb : c ≤ i := by rw [hc]; exact hcl
    refine W_skip (kq5 _ _ ?_)
    refine W_seq fun kz7 kq7 => ?_
    refine W_block ?_
    refine W_seq fun kz8 kq8 => ?_
    refine W_region [2, 3, 4, 7, 8, 20] fun R hR => ?_   -- r5
    simp only [go_sem]
    refine GCall_of (rAbs_pc Y _ n.absent m i (by omega)) ?_   -- t19
    simp only [go_sem]
    refine hR _ _ (kq8 _ _ ?_); clear hR R; try clear kq8 kz8
    try simp only [go_sem]
    refine W_cond rfl (fun c2 => ?_) (fun c2 => ?_)
    · -- c2 true
      try simp only [nrm] at c2
      refine W_region [2, 3, 4, 7, 8] fun R hR => ?_   -- r6
      simp only [go_sem]
      try simp (disch := omega) only [wrapI, wrapU]
      refine hR _ _ (kq7 _ _ ?_); clear hR R; try clear kq7 kz7
      try simp only [go_sem]
      refine W_region [2, 3, 4, 7, 8] fun R hR => ?_   -- r4
      simp only [go_sem]
      try simp (disch := omega) only [wrapI, wrapU]
      refine hR _ _ ?_; clear hR R
      try simp only [go_sem]
      refine ⟨(i + 1, c + 1), ?_, by (try simp only []); omega, ?_⟩
      · first | exact Weak.refl | exact Weak.eq (by first | rfl | (simp only [go_sem]; done) | (simp only [go_sem]; rfl) | (simp [go_sem]; done) | (simp [go_sem]; omega)) (by first | rfl | (simp only [go_sem]; done) | (simp [go_sem]; done))
      · try dsimp only
        refine ⟨by omega, ?_⟩
        unfold presN at hc ⊢
        rw [hcs, ← hc]; simp_all
    · -- c2 false
      try simp only [nrm] at c2
      refine W_skip (kq7 _ _ ?_)
      refine W_region [2, 3, 4, 7, 8] fun R hR => ?_   -- r4
      simp only [go_sem]
      try simp (disch := omega) only [wrapI, wrapU]
      refine hR _ _ ?_; clear hR R
      try simp only [go_sem]
      refine ⟨(i + 1, c), ?_, by (try simp only []); omega, ?_⟩
      · first | exact Weak.refl | exact Weak.eq (by first | rfl | (simp only [go_sem]; done) | (simp only [go_sem]; rfl) | (simp [go_sem]; done) | (simp [go_sem]; omega)) (by first | rfl | (simp only [go_sem]; done) | (simp [go_sem]; done))
      · try dsimp only
        refine ⟨by omega, ?_⟩
        unfold presN at hc ⊢
        rw [hcs, ← hc]; simp_all
  · -- c1 false
    try simp only [nrm] at c1
    have hie : i = J := by first | omega | (simp at c1; omega)
    subst hie
    refine W_exit ?_
    simp only [go_sem]
    refine kq3 _ _ ?_
    refine W_seq fun kz9 kq9 => ?_
    refine W_region [6] fun R hR => ?_   -- r7
    simp only [go_sem]
    refine hR _ _ (kq9 _ _ ?_); clear hR R; try clear kq9 kz9
    try simp only [go_sem]
    refine W_ret ?_
    simp only [go_sem]
    refine ⟨.inr (by trivial), ?_⟩
    first | refine Fin_same hcl rfl (Wk_eq ?_ (by simp only [go_sem])) | refine Fin_self hcl rfl (Wk_eq ?_ (by simp only [go_sem]))
    try simp only [go_sem]
    all_goals
      rw [hc]
set_option maxHeartbeats 4000000 in
theorem rAbsE_pc (Y : YEnv) (σ : Sg) (s : Scale) (n : Night) (hv : s.V) (ho : n.opened.length < 2 ^ 40) (ha : n.absent.length < 2 ^ 40) :
    PC Tryz.prog Y 96 [scPV s, ngPV n] σ (I (rAbsE s n)) (σ) := by
  refine PC_of_W Tryz.func96 rfl (by kernel_rfl) Tryz.ntmps96 (by simp) fun hcl hca => ?_
  have q1 := hv.mt
  have q2 := hv.jd
  obtain ⟨M, hM⟩ : ∃ z : Nat, s.matters = z := ⟨s.matters.toNat, by omega⟩
  obtain ⟨J, hJ⟩ : ∃ z : Nat, s.judges = z := ⟨s.judges.toNat, by omega⟩
  have hMi : (s.matters : Int) = (M : Int) := hM
  obtain ⟨res, hres⟩ : ∃ r, rAbsE s n = r := ⟨_, rfl⟩
  rw [hres]
  unfold rAbsE at hres
  refine W_seq fun kz1 kq1 => ?_
  refine W_region [2, 3] fun R hR => ?_   -- r0
  simp only [go_sem]
  refine hR _ _ (kq1 _ _ ?_); clear hR R; try clear kq1 kz1
  try simp only [go_sem]
  refine W_seq fun kz2 kq2 => ?_
  refine W_seq fun kz3 kq3 => ?_
  refine W_region [2, 3, 12] fun R hR => ?_   -- r1
  simp only [go_sem]
  refine hR _ _ (kq3 _ _ ?_); clear hR R; try clear kq3 kz3
  try simp only [go_sem]
  refine W_cond rfl (fun c1 => ?_) (fun c1 => ?_)
  · -- c1 true
    try simp only [nrm] at c1
    refine W_seq fun kz4 kq4 => ?_
    refine W_region [4] fun R hR => ?_   -- r2
    simp only [go_sem]
    refine hR _ _ (kq4 _ _ ?_); clear hR R; try clear kq4 kz4
    try simp only [go_sem]
    refine W_ret ?_
    simp only [go_sem]
    refine ⟨.inr (by trivial), ?_⟩
    first | refine Fin_same hcl rfl (Wk_eq ?_ (by simp only [go_sem])) | refine Fin_self hcl rfl (Wk_eq ?_ (by simp only [go_sem]))
    try simp only [go_sem]
    all_goals
      rw [← hres, if_pos (by omega)]
  · -- c1 false
    try simp only [nrm] at c1
    rw [if_neg (by omega)] at hres
    refine W_skip (kq2 _ _ ?_)
    refine W_seq fun kz5 kq5 => ?_
    refine W_seq fun kz6 kq6 => ?_
    refine W_region [2, 3, 5] fun R hR => ?_   -- r3
    simp only [go_sem]
    refine hR _ _ (kq6 _ _ ?_); clear hR R; try clear kq6 kz6
    try simp only [go_sem]
    refine W_block ?_
    refine W_loopS (α := Nat) (fun (i : Nat) => [(5, I i)]) (fun (i : Nat) => i ≤ n.absent.length ∧ absL s n.opened n.absent = absL s n.opened (n.absent.drop i)) (fun (i : Nat) => n.absent.length - i) (0) rfl (⟨Nat.zero_le _, rfl⟩) ?_
    rintro i ⟨hi, hinv⟩
    refine W_seq fun kz7 kq7 => ?_
    refine W_seq fun kz8 kq8 => ?_
    refine W_region [2, 3, 5, 17] fun R hR => ?_   -- r4
    simp only [go_sem]
    refine hR _ _ (kq8 _ _ ?_); clear hR R; try clear kq8 kz8
    try simp only [go_sem]
    refine W_cond rfl (fun c2 => ?_) (fun c2 => ?_)
    · -- c2 true
      try simp only [nrm] at c2
      have hi' : i < n.absent.length := by first | assumption | omega
      obtain ⟨x, hx⟩ : ∃ x, n.absent[i]? = some x := ⟨n.absent[i], by simp [hi']⟩
      have hdrop : n.absent.drop i = x :: n.absent.drop (i + 1) := by
        rw [List.drop_eq_getElem_cons hi']; congr 1; exact (List.getElem?_eq_some_iff.1 hx).2
      rw [hdrop] at hinv
      simp only [absL] at hinv
      refine W_skip (kq7 _ _ ?_)
      refine W_seq fun kz9 kq9 => ?_
      refine W_block ?_
      refine W_seq fun kz10 kq10 => ?_
      refine W_region [2, 3, 5, 6] fun R hR => ?_   -- r6
      simp only [go_sem, hx]
      refine hR _ _ (kq10 _ _ ?_); clear hR R; try clear kq10 kz10
      try simp only [go_sem, hx]
      refine W_seq fun kz11 kq11 => ?_
      refine W_seq fun kz12 kq12 => ?_
      refine W_region [2, 3, 5, 6, 7] fun R hR => ?_   -- r7
      simp only [go_sem, hx]
      refine GCall_of (rJudge_pc Y _ s x.1 x.2 hv) ?_   -- t30
      simp only [go_sem, hx]
      refine hR _ _ (kq12 _ _ ?_); clear hR R; try clear kq12 kz12
      try simp only [go_sem, hx]
      refine W_seq fun kz13 kq13 => ?_
      refine W_region [2, 3, 5, 6, 7, 32] fun R hR => ?_   -- r8
      simp only [go_sem, hx]
      refine hR _ _ (kq13 _ _ ?_); clear hR R; try clear kq13 kz13
      try simp only [go_sem, hx]
      refine W_cond rfl (fun c3 => ?_) (fun c3 => ?_)
      · -- c3 true
        try simp only [nrm] at c3
        refine W_seq fun kz14 kq14 => ?_
        refine W_region [4] fun R hR => ?_   -- r9
        simp only [go_sem, hx]
        refine hR _ _ (kq14 _ _ ?_); clear hR R; try clear kq14 kz14
        try simp only [go_sem, hx]
        refine W_ret ?_
        simp only [go_sem, hx]
        refine ⟨.inr (by trivial), ?_⟩
        first | refine Fin_same hcl rfl (Wk_eq ?_ (by simp only [go_sem])) | refine Fin_self hcl rfl (Wk_eq ?_ (by simp only [go_sem]))
        try simp only [go_sem]
        all_goals
          rw [← hres, hinv]; simp [c3]
      · -- c3 false
        try simp only [nrm] at c3
        refine W_skip (kq11 _ _ ?_)
        refine W_seq fun kz15 kq15 => ?_
        refine W_region [2, 3, 5, 41] fun R hR => ?_   -- r10
        simp only [go_sem, hx]
        refine GCall_of (rFind_pc Y _ n.opened x.1 x.2 (by omega)) ?_   -- t40
        simp only [go_sem, hx]
        refine hR _ _ (kq15 _ _ ?_); clear hR R; try clear kq15 kz15
        try simp only [go_sem, hx]
        refine W_cond rfl (fun c4 => ?_) (fun c4 => ?_)
        · -- c4 true
          try simp only [nrm] at c4
          have hfd := fIdx_neg.1 (by first | exact c4 | exact of_decide_eq_true c4)
          refine W_seq fun kz16 kq16 => ?_
          refine W_region [4] fun R hR => ?_   -- r11
          simp only [go_sem, hx]
          refine hR _ _ (kq16 _ _ ?_); clear hR R; try clear kq16 kz16
          try simp only [go_sem, hx]
          refine W_ret ?_
          simp only [go_sem, hx]
          refine ⟨.inr (by trivial), ?_⟩
          first | refine Fin_same hcl rfl (Wk_eq ?_ (by simp only [go_sem])) | refine Fin_self hcl rfl (Wk_eq ?_ (by simp only [go_sem]))
          try simp only [go_sem]
          all_goals
            rw [← hres, hinv]; simp [c3, hfd]
        · -- c4 false
          try simp only [nrm] at c4
          have hfd : findE n.opened (x.1, x.2) = none := Classical.not_not.1 fun e => (by first | exact c4 | exact of_decide_eq_false c4 : ¬ (0 ≤ fIdx (isJ x.1 x.2) 0 n.opened)) (fIdx_neg.2 e)
          refine W_skip (kq9 _ _ ?_)
          refine W_region [2, 3, 5] fun R hR => ?_   -- r5
          simp only [go_sem, hx]
          try simp (disch := omega) only [wrapI, wrapU]
          refine hR _ _ ?_; clear hR R
          try simp only [go_sem, hx]
          refine ⟨i + 1, ?_, by (try simp only []); omega, ?_⟩
          · refine Weak.trans (Weak.cutX 2 0 (by omega) (by omega) hcl (by simp only [go_sem] <;> omega) (by simp only [go_sem] <;> omega)) ?_
            simp only [go_sem]
            exact Weak.eq (by first | rfl | (simp only [go_sem]; done) | (simp only [go_sem]; rfl) | (simp [go_sem]; done) | (simp [go_sem]; omega)) (by first | rfl | (simp only [go_sem]; done) | (simp [go_sem]; done))
          · try dsimp only
            exact ⟨hi', by rw [hinv]; simp [c3, hfd]⟩
    · -- c2 false
      try simp only [nrm] at c2
      have hdrop : n.absent.drop i = [] := List.drop_eq_nil_of_le (by omega)
      rw [hdrop] at hinv
      simp only [absL] at hinv
      rw [if_neg (by simp [hinv])] at hres
      refine W_exit ?_
      simp only [go_sem]
      refine kq5 _ _ ?_
      refine W_seq fun kz17 kq17 => ?_
      refine W_seq fun kz18 kq18 => ?_
      refine W_region [2, 3, 8] fun R hR => ?_   -- r12
      simp only [go_sem]
      refine hR _ _ (kq18 _ _ ?_); clear hR R; try clear kq18 kz18
      try simp only [go_sem]
      refine W_block ?_
      refine W_loopS (α := Nat) (fun (i : Nat) => [(8, I i)]) (fun (i : Nat) => i ≤ M ∧ ∀ m, m < i → presN n J (m : Int) ≠ 0) (fun (i : Nat) => M - i) (0) rfl (⟨Nat.zero_le _, fun m h => by omega⟩) ?_
      rintro i ⟨hi, hall⟩
      refine W_seq fun kz19 kq19 => ?_
      refine W_seq fun kz20 kq20 => ?_
      refine W_region [2, 3, 8, 45] fun R hR => ?_   -- r13
      simp only [go_sem]
      refine hR _ _ (kq20 _ _ ?_); clear hR R; try clear kq20 kz20
      try simp only [go_sem]
      refine W_cond rfl (fun c5 => ?_) (fun c5 => ?_)
      · -- c5 true
        try simp only [nrm] at c5
        have hiM : i < M := by first | omega | (simp at c5; omega)
        refine W_skip (kq19 _ _ ?_)
        refine W_seq fun kz21 kq21 => ?_
        refine W_block ?_
        refine W_seq fun kz22 kq22 => ?_
        refine W_region [2, 3, 8, 52] fun R hR => ?_   -- r15
        simp only [go_sem]
        refine GCall_of (rPres_pc Y _ s n (i : Int) J hJ (by omega) ha) ?_   -- t51
        simp only [go_sem]
        refine hR _ _ (kq22 _ _ ?_); clear hR R; try clear kq22 kz22
        try simp only [go_sem]
        refine W_cond rfl (fun c6 => ?_) (fun c6 => ?_)
        · -- c6 true
          try simp only [nrm] at c6
          refine W_seq fun kz23 kq23 => ?_
          refine W_region [4] fun R hR => ?_   -- r16
          simp only [go_sem]
          refine hR _ _ (kq23 _ _ ?_); clear hR R; try clear kq23 kz23
          try simp only [go_sem]
          refine W_ret ?_
          simp only [go_sem]
          refine ⟨.inr (by trivial), ?_⟩
          first | refine Fin_same hcl rfl (Wk_eq ?_ (by simp only [go_sem])) | refine Fin_self hcl rfl (Wk_eq ?_ (by simp only [go_sem]))
          try simp only [go_sem]
          all_goals
            have hsh : shN s n = true := by
              unfold shN
              rw [List.any_eq_true]
              refine ⟨i, List.mem_range.2 (by omega), ?_⟩
              rw [hJ, Int.toNat_natCast]; simp; first | omega | (simp at c6; omega)
            rw [← hres, hsh, if_pos rfl]
        · -- c6 false
          try simp only [nrm] at c6
          refine W_skip (kq21 _ _ ?_)
          refine W_region [2, 3, 8] fun R hR => ?_   -- r14
          simp only [go_sem]
          try simp (disch := omega) only [wrapI, wrapU]
          refine hR _ _ ?_; clear hR R
          try simp only [go_sem]
          refine ⟨i + 1, ?_, by (try simp only []); omega, ?_⟩
          · first | exact Weak.refl | exact Weak.eq (by first | rfl | (simp only [go_sem]; done) | (simp only [go_sem]; rfl) | (simp [go_sem]; done) | (simp [go_sem]; omega)) (by first | rfl | (simp only [go_sem]; done) | (simp [go_sem]; done))
          · try dsimp only
            refine ⟨by omega, fun m hm => ?_⟩
            by_cases e : m = i
            · subst e; first | omega | (simp at c6; omega)
            · exact hall m (by omega)
      · -- c5 false
        try simp only [nrm] at c5
        have hie : i = M := by first | omega | (simp at c5; omega)
        subst hie
        have hsh : shN s n = false := by
          unfold shN
          rw [List.any_eq_false]
          intro m hm
          have := hall m (by have := List.mem_range.1 hm; omega)
          rw [hJ, Int.toNat_natCast]; simpa using this
        rw [hsh, if_neg (by simp)] at hres
        refine W_exit ?_
        simp only [go_sem]
        refine kq17 _ _ ?_
        refine W_seq fun kz24 kq24 => ?_
        refine W_region [4] fun R hR => ?_   -- r17
        simp only [go_sem]
        refine hR _ _ (kq24 _ _ ?_); clear hR R; try clear kq24 kz24
        try simp only [go_sem]
        refine W_ret ?_
        simp only [go_sem]
        refine ⟨.inr (by trivial), ?_⟩
        first | refine Fin_same hcl rfl (Wk_eq ?_ (by simp only [go_sem])) | refine Fin_self hcl rfl (Wk_eq ?_ (by simp only [go_sem]))
        try simp only [go_sem]
        all_goals
          rw [← hres]
set_option maxHeartbeats 2000000 in
theorem rNight_pc (Y : YEnv) (σ : Sg) (s : Scale) (n : Night) (hv : s.V) (hn : n.Ok) :
    PC Tryz.prog Y 74 [scPV s, ngPV n] σ (I (rNightE s n)) (σ) := by
  refine PC_of_W Tryz.func74 rfl (by kernel_rfl) Tryz.ntmps74 (by simp) fun hcl hca => ?_
  have q3 := hv.sc
  have ho := hn.ho
  have ha := hn.ha
  have hf := hn.hf
  obtain ⟨res, hres⟩ : ∃ r, rNightE s n = r := ⟨_, rfl⟩
  rw [hres]
  unfold rNightE at hres
  refine W_seq fun kz1 kq1 => ?_
  refine W_region [2, 3] fun R hR => ?_   -- r0
  simp only [go_sem]
  refine hR _ _ (kq1 _ _ ?_); clear hR R; try clear kq1 kz1
  try simp only [go_sem]
  refine W_seq fun kz2 kq2 => ?_
  refine W_seq fun kz3 kq3 => ?_
  refine W_region [2, 3, 5] fun R hR => ?_   -- r1
  simp only [go_sem]
  refine GCall_of (rOpen_pc Y _ s n.opened hv ho hn.hm) ?_   -- t11
  simp only [go_sem]
  refine hR _ _ (kq3 _ _ ?_); clear hR R; try clear kq3 kz3
  try simp only [go_sem]
  refine W_seq fun kz4 kq4 => ?_
  refine W_region [2, 3, 5, 13] fun R hR => ?_   -- r2
  simp only [go_sem]
  refine hR _ _ (kq4 _ _ ?_); clear hR R; try clear kq4 kz4
  try simp only [go_sem]
  refine W_cond rfl (fun c1 => ?_) (fun c1 => ?_)
  · -- c1 true
    try simp only [nrm] at c1
    refine W_seq fun kz5 kq5 => ?_
    refine W_region [4] fun R hR => ?_   -- r3
    simp only [go_sem]
    refine hR _ _ (kq5 _ _ ?_); clear hR R; try clear kq5 kz5
    try simp only [go_sem]
    refine W_ret ?_
    simp only [go_sem]
    refine ⟨.inr (by trivial), ?_⟩
    first | refine Fin_same hcl rfl (Wk_eq ?_ (by simp only [go_sem])) | refine Fin_self hcl rfl (Wk_eq ?_ (by simp only [go_sem]))
    try simp only [go_sem]
    all_goals
      rw [← hres, if_pos (by simp [c1])]
  · -- c1 false
    try simp only [nrm] at c1
    rw [if_neg (by simp [c1])] at hres
    refine W_skip (kq2 _ _ ?_)
    refine W_seq fun kz6 kq6 => ?_
    refine W_seq fun kz7 kq7 => ?_
    refine W_region [2, 3, 6] fun R hR => ?_   -- r4
    simp only [go_sem]
    refine GCall_of (rAbsE_pc Y _ s n hv ho ha) ?_   -- t17
    simp only [go_sem]
    refine hR _ _ (kq7 _ _ ?_); clear hR R; try clear kq7 kz7
    try simp only [go_sem]
    refine W_seq fun kz8 kq8 => ?_
    refine W_region [2, 3, 6, 19] fun R hR => ?_   -- r5
    simp only [go_sem]
    refine hR _ _ (kq8 _ _ ?_); clear hR R; try clear kq8 kz8
    try simp only [go_sem]
    refine W_cond rfl (fun c2 => ?_) (fun c2 => ?_)
    · -- c2 true
      try simp only [nrm] at c2
      refine W_seq fun kz9 kq9 => ?_
      refine W_region [4] fun R hR => ?_   -- r6
      simp only [go_sem]
      refine hR _ _ (kq9 _ _ ?_); clear hR R; try clear kq9 kz9
      try simp only [go_sem]
      refine W_ret ?_
      simp only [go_sem]
      refine ⟨.inr (by trivial), ?_⟩
      first | refine Fin_same hcl rfl (Wk_eq ?_ (by simp only [go_sem])) | refine Fin_self hcl rfl (Wk_eq ?_ (by simp only [go_sem]))
      try simp only [go_sem]
      all_goals
        rw [← hres, if_pos (by simp [c2])]
    · -- c2 false
      try simp only [nrm] at c2
      rw [if_neg (by simp [c2])] at hres
      refine W_skip (kq6 _ _ ?_)
      refine W_seq fun kz10 kq10 => ?_
      refine W_seq fun kz11 kq11 => ?_
      refine W_region [2, 3, 24] fun R hR => ?_   -- r7
      simp only [go_sem]
      refine hR _ _ (kq11 _ _ ?_); clear hR R; try clear kq11 kz11
      try simp only [go_sem]
      refine W_cond rfl (fun c3 => ?_) (fun c3 => ?_)
      · -- c3 true
        try simp only [nrm] at c3
        refine W_seq fun kz12 kq12 => ?_
        refine W_region [4] fun R hR => ?_   -- r8
        simp only [go_sem]
        refine hR _ _ (kq12 _ _ ?_); clear hR R; try clear kq12 kz12
        try simp only [go_sem]
        refine W_ret ?_
        simp only [go_sem]
        refine ⟨.inr (by trivial), ?_⟩
        first | refine Fin_same hcl rfl (Wk_eq ?_ (by simp only [go_sem])) | refine Fin_self hcl rfl (Wk_eq ?_ (by simp only [go_sem]))
        try simp only [go_sem]
        all_goals
          rw [← hres, if_pos (by omega)]
      · -- c3 false
        try simp only [nrm] at c3
        rw [if_neg (by omega)] at hres
        refine W_skip (kq10 _ _ ?_)
        refine W_seq fun kz13 kq13 => ?_
        refine W_seq fun kz14 kq14 => ?_
        refine W_region [2, 3, 7] fun R hR => ?_   -- r9
        simp only [go_sem]
        refine hR _ _ (kq14 _ _ ?_); clear hR R; try clear kq14 kz14
        try simp only [go_sem]
        refine W_block ?_
        refine W_loopS (α := Nat) (fun (i : Nat) => [(7, I i)]) (fun (i : Nat) => i ≤ n.fines.length ∧ res = finesR s (n.fines.drop i)) (fun (i : Nat) => n.fines.length - i) (0) rfl (⟨Nat.zero_le _, hres.symm⟩) ?_
        rintro i ⟨hi, hinv⟩
        refine W_seq fun kz15 kq15 => ?_
        refine W_seq fun kz16 kq16 => ?_
        refine W_region [2, 3, 7, 29] fun R hR => ?_   -- r10
        simp only [go_sem]
        refine hR _ _ (kq16 _ _ ?_); clear hR R; try clear kq16 kz16
        try simp only [go_sem]
        refine W_cond rfl (fun c4 => ?_) (fun c4 => ?_)
        · -- c4 true
          try simp only [nrm] at c4
          have hi' : i < n.fines.length := by first | assumption | omega
          obtain ⟨x, hx⟩ : ∃ x, n.fines[i]? = some x := ⟨n.fines[i], by simp [hi']⟩
          have hdrop : n.fines.drop i = x :: n.fines.drop (i + 1) := by
            rw [List.drop_eq_getElem_cons hi']; congr 1; exact (List.getElem?_eq_some_iff.1 hx).2
          rw [hdrop] at hinv
          simp only [finesR] at hinv
          refine W_skip (kq15 _ _ ?_)
          refine W_seq fun kz17 kq17 => ?_
          refine W_block ?_
          refine W_seq fun kz18 kq18 => ?_
          refine W_seq fun kz19 kq19 => ?_
          refine W_draw [2, 3, 7, 42] [0, 1, 2, 3, 4, 5, 6, 7, 8, 9, 10] [] [[], [0], [], [0, 1, 2], [0, 1, 2, 3], [0, 1, 2, 3, 4], [], [6], [6, 7], [0, 1, 2, 3, 4, 5, 6, 7, 8], [0, 1, 2, 3, 4, 5, 6, 7, 8, 9]] mixed (by kernel_rfl) fun R hR => ?_   -- r12
          simp only [go_sem, hx]
          try simp (disch := omega) only [wrapI, wrapU]
          refine GCall_of (rin_pc Y _ x.1 0 _) ?_   -- t41
          simp only [go_sem, hx]
          try simp (disch := omega) only [wrapI, wrapU]
          try refine And.intro (by repeat' (first | refine And.intro ?_ ?_ | exact GOr_right (fun _ => by simp only [go_sem, hx]))) ?_
          refine hR _ _ (kq19 _ _ ?_); clear hR R; try clear kq19 kz19
          try simp only [go_sem, hx]
          refine W_cond rfl (fun c5 => ?_) (fun c5 => ?_)
          · -- c5 true
            try simp only [nrm] at c5
            refine W_seq fun kz20 kq20 => ?_
            refine W_region [4] fun R hR => ?_   -- r13
            simp only [go_sem, hx]
            refine hR _ _ (kq20 _ _ ?_); clear hR R; try clear kq20 kz20
            try simp only [go_sem, hx]
            refine W_ret ?_
            simp only [go_sem, hx]
            refine ⟨.inr (by trivial), ?_⟩
            first | refine Fin_same hcl rfl (Wk_eq ?_ (by simp only [go_sem])) | refine Fin_self hcl rfl (Wk_eq ?_ (by simp only [go_sem]))
            try simp only [go_sem]
            all_goals
              first | rfl | (simp_all; done) | (simp_all; omega)
          · -- c5 false
            try simp only [nrm] at c5
            refine W_skip (kq18 _ _ ?_)
            refine W_seq fun kz21 kq21 => ?_
            refine W_region [2, 3, 7, 50] fun R hR => ?_   -- r14
            simp only [go_sem, hx]
            refine GCall_of (rin_pc Y _ x.2 0 1000) ?_   -- t49
            simp only [go_sem, hx]
            refine hR _ _ (kq21 _ _ ?_); clear hR R; try clear kq21 kz21
            try simp only [go_sem, hx]
            refine W_cond rfl (fun c6 => ?_) (fun c6 => ?_)
            · -- c6 true
              try simp only [nrm] at c6
              refine W_seq fun kz22 kq22 => ?_
              refine W_region [4] fun R hR => ?_   -- r15
              simp only [go_sem, hx]
              refine hR _ _ (kq22 _ _ ?_); clear hR R; try clear kq22 kz22
              try simp only [go_sem, hx]
              refine W_ret ?_
              simp only [go_sem, hx]
              refine ⟨.inr (by trivial), ?_⟩
              first | refine Fin_same hcl rfl (Wk_eq ?_ (by simp only [go_sem])) | refine Fin_self hcl rfl (Wk_eq ?_ (by simp only [go_sem]))
              try simp only [go_sem]
              all_goals
                first | rfl | (simp_all; done) | (simp_all; omega)
            · -- c6 false
              try simp only [nrm] at c6
              refine W_skip (kq17 _ _ ?_)
              refine W_region [2, 3, 7] fun R hR => ?_   -- r11
              simp only [go_sem, hx]
              try simp (disch := omega) only [wrapI, wrapU]
              refine hR _ _ ?_; clear hR R
              try simp only [go_sem, hx]
              refine ⟨i + 1, ?_, by (try simp only []); omega, ?_⟩
              · first | exact Weak.refl | exact Weak.eq (by first | rfl | (simp only [go_sem]; done) | (simp only [go_sem]; rfl) | (simp [go_sem]; done) | (simp [go_sem]; omega)) (by first | rfl | (simp only [go_sem]; done) | (simp [go_sem]; done))
              · try dsimp only
                exact ⟨hi', by simp_all⟩
        · -- c4 false
          try simp only [nrm] at c4
          have hdrop : n.fines.drop i = [] := List.drop_eq_nil_of_le (by omega)
          rw [hdrop] at hinv
          simp only [finesR] at hinv
          refine W_exit ?_
          simp only [go_sem]
          refine kq13 _ _ ?_
          refine W_seq fun kz23 kq23 => ?_
          refine W_region [4] fun R hR => ?_   -- r16
          simp only [go_sem]
          refine hR _ _ (kq23 _ _ ?_); clear hR R; try clear kq23 kz23
          try simp only [go_sem]
          refine W_ret ?_
          simp only [go_sem]
          refine ⟨.inr (by trivial), ?_⟩
          first | refine Fin_same hcl rfl (Wk_eq ?_ (by simp only [go_sem])) | refine Fin_self hcl rfl (Wk_eq ?_ (by simp only [go_sem]))
          try simp only [go_sem]
          all_goals
            first | rfl | (simp_all; done) | (simp_all; omega)
set_option maxHeartbeats 2000000 in
theorem rCk0_pc (Y : YEnv) (σ : Sg) (s : Scale) (n : Night) (hs : s.Ok) (hn : n.Ok) :
    PC Tryz.prog Y 46 [scPV s, ngPV n] σ (I (rCkE s n)) (σ) := by
  refine PC_of_W Tryz.func46 rfl (by kernel_rfl) Tryz.ntmps46 (by simp) fun hcl hca => ?_
  refine W_seq fun kz1 kq1 => ?_
  refine W_region [2, 3] fun R hR => ?_   -- r0
  simp only [go_sem]
  refine hR _ _ (kq1 _ _ ?_); clear hR R; try clear kq1 kz1
  try simp only [go_sem]
  refine W_seq fun kz2 kq2 => ?_
  refine W_seq fun kz3 kq3 => ?_
  refine W_region [2, 3, 5] fun R hR => ?_   -- r1
  simp only [go_sem]
  refine GCall_of (rCheck_pc Y _ s hs) ?_   -- t7
  simp only [go_sem]
  refine hR _ _ (kq3 _ _ ?_); clear hR R; try clear kq3 kz3
  try simp only [go_sem]
  refine W_seq fun kz4 kq4 => ?_
  refine W_region [2, 3, 5, 9] fun R hR => ?_   -- r2
  simp only [go_sem]
  refine hR _ _ (kq4 _ _ ?_); clear hR R; try clear kq4 kz4
  try simp only [go_sem]
  refine W_cond rfl (fun c1 => ?_) (fun c1 => ?_)
  · -- c1 true
    try simp only [nrm] at c1
    refine W_seq fun kz5 kq5 => ?_
    refine W_region [4] fun R hR => ?_   -- r3
    simp only [go_sem]
    refine hR _ _ (kq5 _ _ ?_); clear hR R; try clear kq5 kz5
    try simp only [go_sem]
    refine W_ret ?_
    simp only [go_sem]
    refine ⟨.inr (by trivial), ?_⟩
    first | refine Fin_same hcl rfl (Wk_eq ?_ (by simp only [go_sem])) | refine Fin_self hcl rfl (Wk_eq ?_ (by simp only [go_sem]))
    try simp only [go_sem]
    all_goals
      simp [rCkE, *]
  · -- c1 false
    try simp only [nrm] at c1
    refine W_skip (kq2 _ _ ?_)
    refine W_seq fun kz6 kq6 => ?_
    refine W_region [4] fun R hR => ?_   -- r4
    simp only [go_sem]
    have hv := Scale.v c1
    refine GCall_of (rNight_pc Y _ s n hv hn) ?_   -- t13
    simp only [go_sem]
    refine hR _ _ (kq6 _ _ ?_); clear hR R; try clear kq6 kz6
    try simp only [go_sem]
    refine W_ret ?_
    simp only [go_sem]
    refine ⟨.inr (by trivial), ?_⟩
    first | refine Fin_same hcl rfl (Wk_eq ?_ (by simp only [go_sem])) | refine Fin_self hcl rfl (Wk_eq ?_ (by simp only [go_sem]))
    try simp only [go_sem]
    all_goals
      simp [rCkE, *]
theorem rCheckNight_pc (Y : YEnv) (σ : Sg) (s : Scale) (n : Night) (hs : s.Ok) (hn : n.Ok) : PC Tryz.prog Y 46 [scPV s, ngPV n] σ (I (knownE s n)) σ := by
  rw [← rCk_known]; exact rCk0_pc Y σ s n hs hn
end Go.Proofs.YtgelnjmddabgpaaGreat
namespace Go.Proofs.YtgelnjmddabgpaaGreat
open Go Go.RowKit
set_option maxRecDepth 100000
def lays189_ren : Go.Shelf.Ren := ⟨fun | 189 => 117 | 125 => 87 | 257 => 125 | 128 => 110 | 129 => 111 | 294 => 127 | 295 => 128 | 296 => 129 | 297 => 130 | 298 => 131 | 299 => 132 | 216 => 133 | 300 => 134 | 301 => 135 | 328 => 136 | 329 => 120 | 330 => 121 | 331 => 137 | 332 => 138 | 215 => 139 | 343 => 140 | n => n, fun | 28 => 22 | 3 => 3 | 46 => 112 | 0 => 0 | 51 => 156 | 53 => 87 | 4 => 4 | 183 => 149 | 182 => 148 | 131 => 153 | 5 => 5 | 9 => 9 | 218 => 161 | 222 => 164 | 228 => 168 | 229 => 169 | n => n, fun n => n⟩
theorem lays189 : Lays.n189 Tryz.prog lays189_ren where
  mixed := by kernel_rfl
  f125 := Tryz.func87.trans (congrArg some (by kernel_rfl))
  f128 := Tryz.func110.trans (congrArg some (by kernel_rfl))
  f129 := Tryz.func111.trans (congrArg some (by kernel_rfl))
  f189 := Tryz.func117.trans (congrArg some (by kernel_rfl))
  f215 := Tryz.func139.trans (congrArg some (by kernel_rfl))
  f216 := Tryz.func133.trans (congrArg some (by kernel_rfl))
  f257 := Tryz.func125.trans (congrArg some (by kernel_rfl))
  f294 := Tryz.func127.trans (congrArg some (by kernel_rfl))
  f295 := Tryz.func128.trans (congrArg some (by kernel_rfl))
  f296 := Tryz.func129.trans (congrArg some (by kernel_rfl))
  f297 := Tryz.func130.trans (congrArg some (by kernel_rfl))
  f298 := Tryz.func131.trans (congrArg some (by kernel_rfl))
  f299 := Tryz.func132.trans (congrArg some (by kernel_rfl))
  f300 := Tryz.func134.trans (congrArg some (by kernel_rfl))
  f301 := Tryz.func135.trans (congrArg some (by kernel_rfl))
  f328 := Tryz.func136.trans (congrArg some (by kernel_rfl))
  f329 := Tryz.func120.trans (congrArg some (by kernel_rfl))
  f330 := Tryz.func121.trans (congrArg some (by kernel_rfl))
  f331 := Tryz.func137.trans (congrArg some (by kernel_rfl))
  f332 := Tryz.func138.trans (congrArg some (by kernel_rfl))
  f343 := Tryz.func140.trans (congrArg some (by kernel_rfl))
  t0 := Tryz.underlying0
  a0 := Tryz.isAgg0
  z0 := Tryz.sizeOf0
  v0 := Tryz.zeroValue0
  t3 := Tryz.underlying3
  a3 := Tryz.isAgg3
  z3 := Tryz.sizeOf3
  v3 := Tryz.zeroValue3
  t4 := Tryz.underlying4
  a4 := Tryz.isAgg4
  z4 := Tryz.sizeOf4
  v4 := Tryz.zeroValue4
  t5 := Tryz.underlying5
  a5 := Tryz.isAgg5
  z5 := Tryz.sizeOf5
  v5 := Tryz.zeroValue5
  t9 := Tryz.underlying9
  a9 := Tryz.isAgg9
  z9 := Tryz.sizeOf9
  v9 := Tryz.zeroValue9
  t28 := Tryz.underlying22
  a28 := Tryz.isAgg22
  z28 := Tryz.sizeOf22
  v28 := Tryz.zeroValue22
  t46 := Tryz.underlying112
  a46 := Tryz.isAgg112
  z46 := Tryz.sizeOf112
  v46 := Tryz.zeroValue112
  t51 := Tryz.underlying156
  a51 := Tryz.isAgg156
  z51 := Tryz.sizeOf156
  v51 := Tryz.zeroValue156
  t53 := Tryz.underlying87
  a53 := Tryz.isAgg87
  z53 := Tryz.sizeOf87
  v53 := Tryz.zeroValue87
  t131 := Tryz.underlying153
  a131 := Tryz.isAgg153
  z131 := Tryz.sizeOf153
  v131 := Tryz.zeroValue153
  t182 := Tryz.underlying148
  a182 := Tryz.isAgg148
  z182 := Tryz.sizeOf148
  v182 := Tryz.zeroValue148
  t183 := Tryz.underlying149
  a183 := Tryz.isAgg149
  z183 := Tryz.sizeOf149
  v183 := Tryz.zeroValue149
  t218 := Tryz.underlying161
  a218 := Tryz.isAgg161
  z218 := Tryz.sizeOf161
  v218 := Tryz.zeroValue161
  t222 := Tryz.underlying164
  a222 := Tryz.isAgg164
  z222 := Tryz.sizeOf164
  v222 := Tryz.zeroValue164
  t228 := Tryz.underlying168
  a228 := Tryz.isAgg168
  z228 := Tryz.sizeOf168
  v228 := Tryz.zeroValue168
  t229 := Tryz.underlying169
  a229 := Tryz.isAgg169
  z229 := Tryz.sizeOf169
  v229 := Tryz.zeroValue169
def lays125_ren : Go.Shelf.Ren := ⟨fun | 125 => 87 | 128 => 110 | 129 => 111 | n => n, fun | 46 => 112 | 3 => 3 | 51 => 156 | 53 => 87 | 4 => 4 | 5 => 5 | 9 => 9 | n => n, fun n => n⟩
theorem lays125 : Lays.n125 Tryz.prog lays125_ren where
  mixed := by kernel_rfl
  f125 := Tryz.func87.trans (congrArg some (by kernel_rfl))
  f128 := Tryz.func110.trans (congrArg some (by kernel_rfl))
  f129 := Tryz.func111.trans (congrArg some (by kernel_rfl))
  t3 := Tryz.underlying3
  a3 := Tryz.isAgg3
  z3 := Tryz.sizeOf3
  v3 := Tryz.zeroValue3
  t4 := Tryz.underlying4
  a4 := Tryz.isAgg4
  z4 := Tryz.sizeOf4
  v4 := Tryz.zeroValue4
  t5 := Tryz.underlying5
  a5 := Tryz.isAgg5
  z5 := Tryz.sizeOf5
  v5 := Tryz.zeroValue5
  t9 := Tryz.underlying9
  a9 := Tryz.isAgg9
  z9 := Tryz.sizeOf9
  v9 := Tryz.zeroValue9
  t46 := Tryz.underlying112
  a46 := Tryz.isAgg112
  z46 := Tryz.sizeOf112
  v46 := Tryz.zeroValue112
  t51 := Tryz.underlying156
  a51 := Tryz.isAgg156
  z51 := Tryz.sizeOf156
  v51 := Tryz.zeroValue156
  t53 := Tryz.underlying87
  a53 := Tryz.isAgg87
  z53 := Tryz.sizeOf87
  v53 := Tryz.zeroValue87
theorem sortsI : SortsI Tryz.prog 117 := ⟨by kernel_rfl, Any.slices_Sort_int_none lays189, Any.slices_Sort_int lays189⟩
theorem bitsLen_pc (Y : YEnv) (σ : Sg) (x : Int) (h0 : 0 ≤ x) (h1 : x ≤ 18446744073709551615) : PC Tryz.prog Y 87 [.int .u64 x] σ (.int .i64 (Lib.bitLen x.toNat)) σ := by
  refine PC_of_calls (by kernel_rfl) fun Ψ vals w hs ha => ?_
  obtain ⟨v, rfl⟩ : ∃ v, vals = #[v] := by
    have := ha.1
    match vals, this with
    | ⟨[v]⟩, _ => exact ⟨v, rfl⟩
  have hx := (ha.2 0 _ _ rfl rfl).int_inv
  subst hx
  refine (Any.bits_Len lays125 x w h0 h1).mono ?_
  rintro e w' ⟨rfl, rfl⟩
  exact ⟨_, Ψ, rfl, Ty.le.refl _, hs, .int _ _, Below.refl _ _⟩
end Go.Proofs.YtgelnjmddabgpaaGreat
namespace Go.Proofs.YtgelnjmddabgpaaGreat
open Go Go.RowKit
set_option maxRecDepth 100000
theorem Fin_more {P : Program} {fn : Func} {σ σ' : Sg} {E : Env} {rs : List PV} {v : PV} (hcl : CleanSg σ') (h1 : σ.store.length ≤ σ'.store.length) (h2 : σ.rooms.length ≤ σ'.rooms.length) (h3 : σ'.ys.length = σ.ys.length)
    (hr : resPV P σ' E fn.results.toList = some rs) (hv : Wk σ'.store.length σ'.rooms.length σ.ys.length (oneOr rs) v) : Fin P fn σ v σ' E σ' := by
  refine ⟨rs, _, _, hr, h1, h2, hv, ?_, ?_, h3⟩
  · rw [← h3]; simp [Sg.cut]
  · unfold CleanSg at hcl; rw [h3] at hcl; exact hcl
theorem stX_glI0 {σ : Sg} {l : List (Option (List PV))} {rm : List Nat} {ys : List LState} {off n : Nat} {out : List Int} : stX 1 (σ.ext l rm ys) σ.store.length off (glI n out) = match l[0]? with
    | some (some cs) => if off + 1 ≤ cs.length then some (σ.ext (l.set 0 (some (putCells cs off [glI n out]))) rm ys) else none
    | _ => none := by
  have := stX_glI (σ := σ) (l := l) (rm := rm) (ys := ys) (j := 0) (off := off) (n := n) (out := out)
  exact this
attribute [go_sem high] stX_glI0
theorem take_snoc {l : List Int} {i : Nat} {x : Int} (h : l[i]? = some x) : l.take i ++ [x] = l.take (i + 1) := by rw [List.take_add_one, h]; rfl
set_option maxHeartbeats 2000000 in
theorem values_pc (Y : YEnv) (σ : Sg) (pid n : Nat) :
    PC Tryz.prog Y 101 [.msl pid 0 n] σ (.func (.func 118) [] [.ptr σ.store.length 0]) (σ.ext [some [.msl pid 0 n]] []) := by
  refine PC_of_W Tryz.func101 rfl (by kernel_rfl) Tryz.ntmps101 (by simp) fun hcl hca => ?_
  have hp : pid < σ.store.length := by
    have := hca (.msl pid 0 n) (by simp)
    cases this; assumption
  refine W_seq fun kz1 kq1 => ?_
  refine W_region [1] fun R hR => ?_   -- r0
  simp only [go_sem]
  refine hR _ _ (kq1 _ _ ?_); clear hR R; try clear kq1 kz1
  try simp only [go_sem]
  refine W_seq fun kz2 kq2 => ?_
  refine W_region [2] fun R hR => ?_   -- r1
  simp only [go_sem]
  refine hR _ _ (kq2 _ _ ?_); clear hR R; try clear kq2 kz2
  try simp only [go_sem]
  refine W_ret ?_
  simp only [go_sem]
  refine ⟨.inr (by trivial), ?_⟩
  refine Fin_ext 1 0 hcl rfl (Wk_eq rfl ?_) ?_
  · simp only [go_sem] <;> omega
  · show CleanLs _ _ _ _
    simp only [go_sem] <;> omega
  try simp only [go_sem]
  all_goals
    skip
set_option maxHeartbeats 2000000 in
theorem values1_pc (Y : YEnv) (σ : Sg) (y id pid n : Nat) (xs : List Int) (τ : Nat → Sg) (hn : n ≤ xs.length) (hnb : n < 2 ^ 40)
    (hst : ∀ t, t ≤ n → (τ t).store[id]? = some (some [.msl pid 0 n])) (hst2 : ∀ t, t ≤ n → (τ t).store[pid]? = some (some (xs.map I)))
    (hY : ∀ t x, t < n → xs[t]? = some x → Y y [I x] (τ t) true (τ (t + 1)))
    (hlen : (τ 0).store.length ≤ (τ n).store.length) (hr : (τ 0).rooms.length ≤ (τ n).rooms.length) (hy : (τ n).ys.length = (τ 0).ys.length) (hcl' : CleanSg (τ 0) → CleanSg (τ n)) :
    PC Tryz.prog Y 118 [.yield y, .ptr id 0] (τ 0) (.tuple []) (τ n) := by
  refine PC_of_W Tryz.func118 rfl (by kernel_rfl) Tryz.ntmps118 (by simp) fun hcl hca => ?_
  have hs00 := hst 0 (Nat.zero_le _)
  refine W_seq fun kz1 kq1 => ?_
  refine W_region [0, 5, 6, 7] fun R hR => ?_   -- r0
  simp only [go_sem, ldS_at hs00]
  refine hR _ _ (kq1 _ _ ?_); clear hR R; try clear kq1 kz1
  try simp only [go_sem]
  refine W_block ?_
  refine W_loopT (α := Nat) (fun (i : Nat) => [(7, I i)]) (fun (i : Nat) => τ i) (fun (i : Nat) => i ≤ n) (fun (i : Nat) => n - i) (0) rfl (by first | rfl | (simp only [go_sem]; done) | (simp only [go_sem]; rfl)) (Nat.zero_le _) ?_
  rintro i hi
  refine W_seq fun kz2 kq2 => ?_
  refine W_region [0, 5, 6, 7, 8] fun R hR => ?_   -- r1
  simp only [go_sem]
  refine hR _ _ (kq2 _ _ ?_); clear hR R; try clear kq2 kz2
  try simp only [go_sem]
  refine W_seq fun kz3 kq3 => ?_
  refine W_cond rfl (fun c1 => ?_) (fun c1 => ?_)
  · -- c1 true
    try simp only [nrm] at c1
    have hin0 : i < n := by first | omega | (simp at c1; omega)
    have hin : (i : Int) < (n : Int) := by omega
    have hs2 := hst2 i (by omega)
    obtain ⟨x, hx⟩ : ∃ z, xs[i]? = some z := ⟨xs[i]'(by omega), by simp⟩
    refine W_skip (kq3 _ _ ?_)
    refine W_seq fun kz4 kq4 => ?_
    refine W_block ?_
    refine W_seq fun kz5 kq5 => ?_
    refine W_region [0, 4, 5, 6, 7] fun R hR => ?_   -- r2
    simp only [go_sem, hx, hin, iaM_nat hin0, Nat.mul_one, Nat.zero_add, ldS_at hs2, List.getElem?_map]
    refine hR _ _ (kq5 _ _ ?_); clear hR R; try clear kq5 kz5
    try simp only [go_sem, hx]
    refine W_seq fun kz6 kq6 => ?_
    refine W_region [0, 5, 6, 7, 14] fun R hR => ?_   -- r3
    simp only [go_sem, hx]
    refine GYield_of (hY i x hin0 hx) ?_
    simp only [go_sem, hx]
    refine hR _ _ (kq6 _ _ ?_); clear hR R; try clear kq6 kz6
    try simp only [go_sem, hx]
    refine W_cond_false rfl ?_
    refine W_skip (kq4 _ _ ?_)
    refine W_region [0, 5, 6, 7] fun R hR => ?_   -- r4
    simp only [go_sem, hx]
    try simp (disch := omega) only [wrapI, wrapU]
    refine hR _ _ ?_; clear hR R
    try simp only [go_sem, hx]
    refine ⟨i + 1, ?_, by (try simp only []); omega, ?_⟩
    · first | exact Weak.refl | exact Weak.eq (by first | rfl | (simp only [go_sem]; done) | (simp only [go_sem]; rfl) | (simp [go_sem]; done) | (simp [go_sem]; omega)) (by first | rfl | (simp only [go_sem]; done) | (simp [go_sem]; done))
    · try dsimp only
      omega
  · -- c1 false
    try simp only [nrm] at c1
    have hie : i = n := by first | omega | (simp at c1; omega)
    subst hie
    refine W_exit ?_
    simp only [go_sem]
    try simp only [go_sem]
    refine ⟨.inl (by trivial), ?_⟩
    exact Fin_more (rs := []) (hcl' hcl) hlen hr hy rfl (Wk.of_clean (.tuple _ Clean.all_nil))
    try simp only [go_sem]
    all_goals
      skip
set_option maxHeartbeats 2000000 in
theorem appendSeq_pc (Y : YEnv) (σ : Sg) (id pid n : Nat) (xs : List Int) (hid : σ.store[id]? = some (some [.msl pid 0 n])) (hpid : σ.store[pid]? = some (some (xs.map I))) (hn : n ≤ xs.length) (hnb : n < 2 ^ 40) :
    PC Tryz.prog Y 124 [.isl [] .exact, .func (.func 118) [] [.ptr id 0]] σ (glI (σ.store.length + 1) (xs.take n)) (σ.ext ([some [glI (σ.store.length + 1) (xs.take n)]] ++ gsI (xs.take n)) []) := by
  refine PC_of_W Tryz.func124 rfl (by kernel_rfl) Tryz.ntmps124 (by simp) fun hcl hca => ?_
  have hxl : (xs.take n).length = n := by simp; omega
  obtain ⟨xn, hxn⟩ : ∃ z, xs.take n = z := ⟨_, rfl⟩
  rw [hxn] at hxl ⊢
  refine W_seq fun kz1 kq1 => ?_
  refine W_region [1, 2] fun R hR => ?_   -- r0
  simp only [go_sem]
  refine hR _ _ (kq1 _ _ ?_); clear hR R; try clear kq1 kz1
  try simp only [go_sem]
  refine W_seq fun kz2 kq2 => ?_
  refine W_seq fun kz3 kq3 => ?_
  refine W_region [2, 6] fun R hR => ?_   -- r1
  simp only [go_sem]
  refine hR _ _ (kq3 _ _ ?_); clear hR R; try clear kq3 kz3
  try simp only [go_sem]
  refine W_block ?_
  let L : List Int → List (Option (List PV)) := fun p => [some [glI (σ.store.length + 1) p]] ++ gsI p
  let so : Nat → Sg := fun t => σ.ext (L (xs.take t)) [] [.ready]
  have hLc : ∀ p (n r y : Nat), σ.store.length + 1 + p.length ≤ n → CleanLs n r y (L p) := fun p n r y h1 => by
    refine CleanLs_append ?_ (gsI_clean _)
    have := glI_clean (a := n) (b := r) (c := y) h1
    simp only [go_sem, this]
  refine W_weak (Weak.gnilX (j := 0) (off := 0) rfl rfl) ?_
  simp only [go_sem]
  refine W_rangeFunc (gf := 118) (v := .tuple []) (s := .ready) (σ5 := so n) rfl (by simp) (fun args τ b' τ' => ∃ t x, t < n ∧ xs[t]? = some x ∧ args = [I x] ∧ b' = true ∧ τ = so t ∧ τ' = so (t + 1)) ?_ ?_ ?_ ?_ ?_
  · rintro args τ b τ' ⟨t, x, ht, hx, rfl, rfl, rfl, rfl⟩
    refine ⟨rfl, ?_, ?_⟩
    · simp only [so, go_sem]
    · simp only [so, L, go_sem]
      refine W_region [2, 5] fun R hR => ?_   -- r2
      simp only [go_sem, putAll]
      refine hR _ _ ?_; clear hR R
      try simp only [go_sem, putAll]
      have hsn := take_snoc hx
      obtain ⟨out, hout⟩ : ∃ z, xs.take t = z := ⟨_, rfl⟩
      have hol : out.length ≤ t := by rw [← hout]; simp; omega
      rw [hout] at hsn
      try simp only [← hsn, hout]
      have happ := appG_gl (σ := σ) (A := [some [glI (σ.store.length + 1) out]]) (rm := []) (ys := [.busy]) (out := out) x (by omega)
      simp only [go_sem, List.length_cons, List.length_nil] at happ
      refine W_post_weak ?_
      refine W_block ?_
      refine W_region [] fun R hR => ?_   -- r3
      simp only [go_sem, putAll, happ]
      try simp (disch := first | omega | (simp only [go_sem] <;> omega)) only [wrapI, wrapU, appX_exact, appX_tok]
      try simp only [go_sem, putAll, happ]
      refine hR _ _ ?_; clear hR R
      try simp only [go_sem, putAll]
      refine ⟨[], _, Weak.keep [], ?_⟩
      simp only [RoundEnd, go_sem]
  · have hst := values1_pc (Y.at σ.ys.length (fun args τ b' τ' => ∃ t x, t < n ∧ xs[t]? = some x ∧ args = [I x] ∧ b' = true ∧ τ = so t ∧ τ' = so (t + 1))) σ σ.ys.length id pid n xs so hn hnb
      (fun t _ => by simp only [so]; exact get_extx hid) (fun t _ => by simp only [so]; exact get_extx hpid)
      (fun t x h1 h2 => by rw [YEnv.at_self]; exact ⟨t, x, h1, h2, rfl, rfl, rfl, rfl⟩) (by simp only [so, L, List.take_zero, gsI, go_sem] <;> omega) (by simp only [so, L, go_sem] <;> omega) (by simp only [so, L, go_sem])
      (fun _ => CleanSg_ext hcl (by refine hLc _ _ _ _ ?_; simp only [L, gsI_len, go_sem] <;> omega))
    have e0 : so 0 = σ.ext (L []) [] [.ready] := rfl
    rw [e0] at hst
    simp only [L, glI, gsI, go_sem] at hst ⊢
    exact hst
  · simp only [so, L, go_sem]
  · simp only [go_sem]
    exact CleanCut_ext hcl (by simp only [so, L, go_sem] <;> omega) (by simp only [so, L, go_sem, Nat.le_add_right]) (by omega) (by refine hLc _ _ _ _ ?_; simp only [so, L, gsI_len, go_sem] <;> omega)
  · simp only [AfterLoop, so, L, go_sem]
    simp only [hxn]
    refine kq2 _ _ ?_
    refine W_seq fun kz4 kq4 => ?_
    refine W_region [4] fun R hR => ?_   -- r4
    simp only [go_sem]
    refine hR _ _ (kq4 _ _ ?_); clear hR R; try clear kq4 kz4
    try simp only [go_sem]
    refine W_ret ?_
    simp only [go_sem]
    refine ⟨.inr (by trivial), ?_⟩
    have hcl2 : CleanSg (σ.ext ([some [glI (σ.store.length + 1) xn]] ++ gsI xn) []) := CleanSg_ext hcl (by refine hLc _ _ _ _ ?_; simp only [L, gsI_len, go_sem] <;> omega)
    refine Fin_more (σ := σ) hcl2 (by simp only [go_sem] <;> omega) (by simp only [go_sem] <;> omega) (by simp only [go_sem]) rfl (Wk.of_clean ?_)
    simp only [go_sem]
    refine glI_clean ?_
    simp only [gsI_len, go_sem] <;> omega
    try simp only [go_sem]
    all_goals
      skip
set_option maxHeartbeats 2000000 in
theorem collect_pc (Y : YEnv) (σ : Sg) (id pid n : Nat) (xs : List Int) (hid : σ.store[id]? = some (some [.msl pid 0 n])) (hpid : σ.store[pid]? = some (some (xs.map I))) (hn : n ≤ xs.length) (hnb : n < 2 ^ 40) :
    PC Tryz.prog Y 116 [.func (.func 118) [] [.ptr id 0]] σ (glI (σ.store.length + 1) (xs.take n)) (σ.ext ([some [glI (σ.store.length + 1) (xs.take n)]] ++ gsI (xs.take n)) []) := by
  refine PC_of_W Tryz.func116 rfl (by kernel_rfl) Tryz.ntmps116 (by simp) fun hcl hca => ?_
  refine W_seq fun kz1 kq1 => ?_
  refine W_region [0] fun R hR => ?_   -- r0
  simp only [go_sem]
  refine hR _ _ (kq1 _ _ ?_); clear hR R; try clear kq1 kz1
  try simp only [go_sem]
  refine W_seq fun kz2 kq2 => ?_
  refine W_region [2] fun R hR => ?_   -- r1
  simp only [go_sem]
  refine GCall_of (appendSeq_pc Y _ id pid n xs hid hpid hn hnb) ?_   -- t4
  simp only [go_sem]
  refine hR _ _ (kq2 _ _ ?_); clear hR R; try clear kq2 kz2
  try simp only [go_sem]
  refine W_ret ?_
  simp only [go_sem]
  refine ⟨.inr (by trivial), ?_⟩
  have hol : (xs.take n).length = n := by simp; omega
  generalize xs.take n = out at hol ⊢
  have hcl2 : CleanSg (σ.ext ([some [glI (σ.store.length + 1) out]] ++ gsI out) []) := CleanSg_ext hcl (by
    refine CleanLs_append ?_ (gsI_clean _)
    have := glI_clean (a := σ.store.length + ([some [glI (σ.store.length + 1) out]] ++ gsI out).length) (b := σ.rooms.length + ([] : List Nat).length) (c := σ.ys.length) (n := σ.store.length + 1) (out := out) (by simp only [gsI_len, go_sem] <;> omega)
    simp only [go_sem] at this ⊢
    simp only [this])
  refine Fin_more (σ := σ) hcl2 (by simp only [go_sem] <;> omega) (by simp only [go_sem] <;> omega) (by simp only [go_sem]) rfl (Wk.of_clean ?_)
  simp only [go_sem]
  refine glI_clean ?_
  simp only [gsI_len, go_sem] <;> omega
  try simp only [go_sem]
  all_goals
    skip
set_option maxHeartbeats 2000000 in
theorem sorted_pc (Y : YEnv) (σ : Sg) (id pid n : Nat) (xs : List Int) (hid : σ.store[id]? = some (some [.msl pid 0 n])) (hpid : σ.store[pid]? = some (some (xs.map I))) (hn : n ≤ xs.length) (hnb : n < 2 ^ 40) (hn0 : 0 < n) :
    PC Tryz.prog Y 100 [.func (.func 118) [] [.ptr id 0]] σ (ints (sortI (xs.take n))) (σ) := by
  refine PC_of_W Tryz.func100 rfl (by kernel_rfl) Tryz.ntmps100 (by simp) fun hcl hca => ?_
  have hol : (xs.take n).length = n := by simp; omega
  obtain ⟨out, hout⟩ : ∃ z, xs.take n = z := ⟨_, rfl⟩
  have hcoll := collect_pc Y σ id pid n xs hid hpid hn hnb
  rw [hout] at hcoll hol ⊢
  refine W_seq fun kz1 kq1 => ?_
  refine W_region [0] fun R hR => ?_   -- r0
  simp only [go_sem]
  refine hR _ _ (kq1 _ _ ?_); clear hR R; try clear kq1 kz1
  try simp only [go_sem]
  refine W_seq fun kz2 kq2 => ?_
  refine W_region [3] fun R hR => ?_   -- r1
  simp only [go_sem]
  refine GCall_of (hcoll) ?_   -- t5
  simp only [go_sem]
  refine hR _ _ (kq2 _ _ ?_); clear hR R; try clear kq2 kz2
  try simp only [go_sem]
  refine W_seq fun kz3 kq3 => ?_
  refine W_region [3] fun R hR => ?_   -- r2
  simp only [go_sem]
  refine GCall_of (sort_gl (A := [_]) sortsI (by omega)) ?_   -- t7
  simp only [go_sem]
  refine hR _ _ (kq3 _ _ ?_); clear hR R; try clear kq3 kz3
  try simp only [go_sem]
  refine W_seq fun kz4 kq4 => ?_
  have hsl := sortI_len out
  obtain ⟨z, zs, hz⟩ : ∃ z zs, sortI out = z :: zs := by cases h : sortI out with
    | nil => rw [h] at hsl; simp at hsl; omega
    | cons z zs => exact ⟨z, zs, rfl⟩
  refine W_weak (Weak.keep [3]) ?_
  have hE3 : glI (σ.store.length + 1) out = .gsl (σ.store.length + (1 + zs.length)) (zs.length + 1) 1 := by rw [← glI_sort, hz]; simp only [glI, Nat.add_assoc]
  simp only [go_sem, hE3, hz]
  refine W_weak (Weak.freeze (t := 3) (id := σ.store.length + (1 + zs.length)) (len := zs.length + 1) (es := 1) (l := (z :: zs).map I) rfl (by rw [Sg.get_ext, rowC_ints]; exact gsI_get (A := [_])) (by simp) (fun q hq => by obtain ⟨x, _, rfl⟩ := List.mem_map.1 hq; rfl)) ?_
  simp only [go_sem]
  refine W_region [2] fun R hR => ?_   -- r3
  simp only [go_sem]
  refine hR _ _ (kq4 _ _ ?_); clear hR R; try clear kq4 kz4
  try simp only [go_sem]
  refine W_ret ?_
  simp only [go_sem]
  refine ⟨.inr (by trivial), ?_⟩
  rw [hz]; refine Fin_same hcl rfl (Wk_eq rfl ?_)
  try simp only [go_sem]
  all_goals
    simp only [go_sem]
end Go.Proofs.YtgelnjmddabgpaaGreat
namespace Go.Proofs.YtgelnjmddabgpaaGreat
open Go Go.RowKit
set_option maxRecDepth 100000
theorem mem_sortI {x : Int} {l : List Int} : x ∈ sortI l ↔ x ∈ l := (List.mergeSort_perm l _).mem_iff
def presL (k : Kn) (m : Int) (i : Nat) : List Int := ((List.range i).map fun (n : Nat) => (n : Int)).filter fun n => !(absentK k (m, n))
theorem presL_succ (k : Kn) (m : Int) (i : Nat) : presL k m (i + 1) = if absentK k (m, (i : Int)) then presL k m i else presL k m i ++ [(i : Int)] := by
  unfold presL
  rw [List.range_succ, List.map_append, List.filter_append]
  cases h : absentK k (m, (i : Int)) <;> simp [h]
theorem presL_J {s : Scale} {J : Nat} (hJ : s.judges = J) (k : Kn) (m : Int) : presJ s k m = presL k m J := by simp only [presJ, toI, presL, hJ, Int.toNat_natCast]
theorem sumI_append (l r : List Int) : sumI (l ++ r) = sumI l + sumI r := by
  induction l with
  | nil => simp [sumI]
  | cons x l ih => simp only [List.cons_append, sumI, ih]; omega
theorem sumI_bd {b : Int} : ∀ {l : List Int}, (∀ x, x ∈ l → 0 ≤ x ∧ x ≤ b) → 0 ≤ sumI l ∧ sumI l ≤ l.length * b := by
  intro l
  induction l with
  | nil => intro _; simp [sumI]
  | cons x l ih =>
    intro h
    have h1 := ih fun y hy => h y (by simp [hy])
    have h2 := h x (by simp)
    simp only [sumI, List.length_cons]
    have : ((l.length + 1 : Nat) : Int) * b = l.length * b + b := by rw [show ((l.length + 1 : Nat) : Int) = (l.length : Int) + 1 by omega, Int.add_mul, Int.one_mul]
    omega
/-- What is known of a night that may be. -/
def KnOk (s : Scale) (k : Kn) : Prop := ∀ e, e ∈ k → e.2 = [] ∨ ((e.2.length : Int) = s.schools ∧ ∀ x, x ∈ e.2 → s.low ≤ x ∧ x ≤ s.high)
theorem mkAt_bd {s : Scale} {k : Kn} (hv : s.V) (hk : KnOk s k) {u : Int} (hu : 0 ≤ u ∧ u ≤ 100) (sc m n : Int) : 0 ≤ mkAt k sc m u n ∧ mkAt k sc m u n ≤ 100 := by
  unfold mkAt
  cases h : aget (m, n) k with
  | none => exact hu
  | some l =>
    cases l with
    | nil => exact hu
    | cons x l =>
      simp only
      rcases hk _ (aget_mem h) with e | ⟨_, e⟩
      · cases e
      · cases hq : (x :: l)[sc.toNat]? with
        | none => simp
        | some y =>
          have := e y (List.mem_of_getElem? hq)
          have q4 := hv.lo
          have q5 := hv.hi
          simp only [Option.getD_some]
          omega
theorem mkAt_none {k : Kn} {sc m u n : Int} (h : (aget (m, n) k).getD [] = []) : mkAt k sc m u n = u := by
  unfold mkAt
  cases h2 : aget (m, n) k with
  | none => rfl
  | some l => rw [h2] at h; simp only [Option.getD_some] at h; subst h; rfl
theorem mkAt_some {k : Kn} {m u n x : Int} {sc : Nat} {l : List Int} (h : (aget (m, n) k).getD [] = l) (hl : l ≠ []) (hx : l[sc]? = some x) : mkAt k sc m u n = x := by
  unfold mkAt
  cases h2 : aget (m, n) k with
  | none => rw [h2] at h; exact absurd h.symm hl
  | some l2 =>
    rw [h2] at h
    simp only [Option.getD_some] at h
    subst h
    cases l2 with
    | nil => exact absurd rfl hl
    | cons y l => simp only [Int.toNat_natCast, hx, Option.getD_some]
theorem kn_len {s : Scale} {k : Kn} (hk : KnOk s k) {j : Int × Int} (h : (aget j k).getD [] ≠ []) : (((aget j k).getD []).length : Int) = s.schools := by
  cases h2 : aget j k with
  | none => rw [h2] at h; exact absurd rfl h
  | some l =>
    rw [h2] at h
    rcases hk _ (aget_mem h2) with e | ⟨e, _⟩
    · exact absurd e h
    · exact e
theorem meanM_bd {s : Scale} {k : Kn} (hv : s.V) (hk : KnOk s k) {u : Int} (hu : 0 ≤ u ∧ u ≤ 100) (sc m : Int) : 0 ≤ meanM s k sc m u ∧ meanM s k sc m u ≤ 100 := by
  unfold meanM
  have hb := sumI_bd (b := 100) (l := (presJ s k m).map (mkAt k sc m u)) fun x hx => by
    obtain ⟨n, _, rfl⟩ := List.mem_map.1 hx
    exact mkAt_bd hv hk hu sc m n
  simp only [List.length_map] at hb
  rw [Int.tdiv_eq_ediv_of_nonneg hb.1]
  rcases Nat.eq_zero_or_pos (presJ s k m).length with h | h
  · rw [h]; simp
  · exact ⟨Int.ediv_nonneg hb.1 (by omega), Int.ediv_le_of_le_mul (by omega) (by rw [Int.mul_comm]; exact hb.2)⟩
theorem panelM_bd {s : Scale} {k : Kn} (hv : s.V) (hk : KnOk s k) {u : Int} (hu : 0 ≤ u ∧ u ≤ 100) (sc m : Int) : ∀ x, x ∈ panelM s k sc m u → 0 ≤ x ∧ x ≤ 100 := by
  intro x hx
  obtain ⟨n, _, rfl⟩ := List.mem_map.1 hx
  split
  · exact meanM_bd hv hk hu sc m
  · exact mkAt_bd hv hk hu sc m n
theorem panelM_len {s : Scale} {J : Nat} (hJ : s.judges = J) (k : Kn) (sc m u : Int) : (panelM s k sc m u).length = J := by simp [panelM, toI, hJ]
theorem panelM_eq {s : Scale} {J : Nat} (hJ : s.judges = J) (k : Kn) (sc m u : Int) {pp : List Int} (hl : J ≤ pp.length)
    (h1 : ∀ q : Nat, q < J → absentK k (m, (q : Int)) = false → pp[q]? = some (mkAt k sc m u q)) (h2 : ∀ q : Nat, q < J → absentK k (m, (q : Int)) = true → pp[q]? = some (meanM s k sc m u)) : pp.take J = panelM s k sc m u := by
  refine List.ext_getElem? fun q => ?_
  by_cases hq : q < J
  · rw [List.getElem?_take_of_lt hq]
    simp only [panelM, toI, hJ, Int.toNat_natCast, List.getElem?_map, List.getElem?_range hq, Option.map_some]
    cases h : absentK k (m, (q : Int)) with
    | true => rw [h2 q hq h]; rfl
    | false => rw [h1 q hq h]; rfl
  · rw [List.getElem?_eq_none (by simp; omega), List.getElem?_eq_none (by rw [panelM_len hJ]; omega)]
theorem points_bd {s : Scale} {k : Kn} (hv : s.V) (hk : KnOk s k) {u : Int} (hu : 0 ≤ u ∧ u ≤ 100) (sc m : Int) : 0 ≤ pointsK s k sc m u ∧ pointsK s k sc m u ≤ 500 := by
  have h := sumI_bd (b := 100) (l := (sortI (panelM s k sc m u)).drop s.drop.toNat) fun x hx => panelM_bd hv hk hu sc m x (mem_sortI.1 (List.mem_of_mem_drop hx))
  have q2 := hv.jd
  have hl : ((sortI (panelM s k sc m u)).drop s.drop.toNat).length ≤ 5 := by
    simp only [List.length_drop, sortI_len, panelM, toI, List.length_map, List.length_range]
    omega
  unfold pointsK
  omega
set_option maxHeartbeats 4000000 in
theorem points_pc (Y : YEnv) (σ : Sg) (id : Nat) (k : Kn) (hd : σ.store[id]? = some (some (.mark :: knE k))) (s : Scale) (hv : s.V) (hk : KnOk s k) (sc : Nat) (hsc : (sc : Int) < s.schools) (m : Int) (hp : presJ s k m ≠ []) (u : Int) (hu : 0 ≤ u ∧ u ≤ 100) :
    PC Tryz.prog Y 82 [.map id, scPV s, I sc, I m, I u] σ (I (pointsK s k sc m u)) (σ) := by
  refine PC_of_W Tryz.func82 rfl (by kernel_rfl) Tryz.ntmps82 (by simp) fun hcl hca => ?_
  have hlt := lt_of_get hd
  have q2 := hv.jd
  have q3 := hv.sc
  have q6 := hv.dr
  obtain ⟨J, hJ⟩ : ∃ z : Nat, s.judges = z := ⟨s.judges.toNat, by omega⟩
  obtain ⟨d, hdr⟩ : ∃ z : Nat, s.drop = z := ⟨s.drop.toNat, by omega⟩
  have hpJ := presL_J hJ k m
  have hbd := mkAt_bd hv hk hu sc m
  have hme := meanM_bd hv hk hu sc m
  obtain ⟨mean, hmean⟩ : ∃ z, meanM s k sc m u = z := ⟨_, rfl⟩
  rw [hmean] at hme
  refine W_seq fun kz1 kq1 => ?_
  refine W_region [0, 2, 3, 4, 6] fun R hR => ?_   -- r0
  simp only [go_sem, lkX_old hlt, lkX_at hd, hJ, hdr]
  refine hR _ _ (kq1 _ _ ?_); clear hR R; try clear kq1 kz1
  try simp only [go_sem, lkX_old hlt, lkX_at hd, hJ, hdr]
  refine W_seq fun kz2 kq2 => ?_
  refine W_region [0, 2, 3, 4, 6, 11] fun R hR => ?_   -- r1
  simp only [go_sem, lkX_old hlt, lkX_at hd, hJ, hdr]
  refine hR _ _ (kq2 _ _ ?_); clear hR R; try clear kq2 kz2
  try simp only [go_sem, lkX_old hlt, lkX_at hd, hJ, hdr]
  refine W_seq fun kz3 kq3 => ?_
  refine W_region [0, 2, 3, 4, 6, 11, 12, 13] fun R hR => ?_   -- r2
  simp only [go_sem, lkX_old hlt, lkX_at hd, hJ, hdr]
  refine hR _ _ (kq3 _ _ ?_); clear hR R; try clear kq3 kz3
  try simp only [go_sem, lkX_old hlt, lkX_at hd, hJ, hdr]
  refine W_seq fun kz4 kq4 => ?_
  refine W_seq fun kz5 kq5 => ?_
  refine W_region [0, 2, 3, 4, 6, 11, 12, 13, 23, 24] fun R hR => ?_   -- r3
  simp only [go_sem, lkX_old hlt, lkX_at hd, hJ, hdr]
  refine hR _ _ (kq5 _ _ ?_); clear hR R; try clear kq5 kz5
  try simp only [go_sem, lkX_old hlt, lkX_at hd, hJ, hdr]
  refine W_block ?_
  refine W_loopT (α := Nat × (List Int) × Int × Nat) (fun ⟨i, pp, sm, mn⟩ => [(12, I sm), (13, I mn), (24, I i)]) (fun ⟨i, pp, sm, mn⟩ => σ.ext [some [I s.schools, I s.matters, I (J : Int), I (d : Int), I s.low, I s.high, ints s.order], some (pp.map I)] []) (fun ⟨i, pp, sm, mn⟩ => i ≤ J ∧ pp.length = 5 ∧ (∀ q : Nat, q < i → absentK k (m, (q : Int)) = false → pp[q]? = some (mkAt k sc m u q)) ∧ sm = sumI ((presL k m i).map (mkAt k sc m u)) ∧ mn = (presL k m i).length ∧ 0 ≤ sm ∧ sm ≤ 100 * (i : Int) ∧ mn ≤ i) (fun ⟨i, pp, sm, mn⟩ => J - i) ((0, [0, 0, 0, 0, 0], 0, 0)) rfl (by first | rfl | (simp only [go_sem]; done) | (simp only [go_sem]; rfl)) (⟨Nat.zero_le _, rfl, fun q hq => absurd hq (Nat.not_lt_zero _), rfl, rfl, Int.le_refl _, Int.le_refl _, Nat.le_refl _⟩) ?_
  rintro ⟨i, pp, sm, mn⟩ ⟨hi, hpl, hpv, hsm, hmn, hs1, hs2, hm1⟩
  refine W_seq fun kz6 kq6 => ?_
  refine W_region [0, 2, 3, 4, 6, 11, 12, 13, 23, 24, 25] fun R hR => ?_   -- r4
  simp only [go_sem, lkX_old hlt, lkX_at hd, hJ, hdr]
  refine hR _ _ (kq6 _ _ ?_); clear hR R; try clear kq6 kz6
  try simp only [go_sem, lkX_old hlt, lkX_at hd, hJ, hdr]
  refine W_seq fun kz7 kq7 => ?_
  refine W_cond rfl (fun c1 => ?_) (fun c1 => ?_)
  · -- c1 true
    try simp only [nrm] at c1
    have hiJ : i < J := by first | omega | (simp at c1; omega)
    have hi5 : i < 5 := by omega
    have hI5 : (i : Int) < 5 := by omega
    have hi1 : i + 1 ≤ pp.length := by omega
    have hset : ∀ v : Int, (pp.set i v)[i]? = some v := fun v => by rw [List.getElem?_set_self (by omega)]
    have hps := presL_succ k m i
    have hbi := hbd i
    refine W_skip (kq7 _ _ ?_)
    refine W_seq fun kz8 kq8 => ?_
    refine W_block ?_
    refine W_seq fun kz9 kq9 => ?_
    refine W_region [0, 2, 3, 4, 6, 11, 12, 13, 14, 23, 24] fun R hR => ?_   -- r5
    simp only [go_sem, lkX_old hlt, lkX_at hd, hJ, hdr]
    refine hR _ _ (kq9 _ _ ?_); clear hR R; try clear kq9 kz9
    try simp only [go_sem, lkX_old hlt, lkX_at hd, hJ, hdr]
    refine W_seq fun kz10 kq10 => ?_
    refine W_region [0, 2, 3, 4, 6, 11, 12, 13, 14, 15, 23, 24] fun R hR => ?_   -- r6
    simp only [go_sem, lkX_old hlt, lkX_at hd, hJ, hdr]
    refine hR _ _ (kq10 _ _ ?_); clear hR R; try clear kq10 kz10
    try simp only [go_sem, lkX_old hlt, lkX_at hd, hJ, hdr]
    refine W_seq fun kz11 kq11 => ?_
    refine W_seq fun kz12 kq12 => ?_
    refine W_region [0, 2, 3, 4, 6, 11, 12, 13, 14, 15, 23, 24, 32] fun R hR => ?_   -- r7
    simp only [go_sem, lkX_old hlt, lkX_at hd, hJ, hdr]
    refine GCall_of (absent_pc Y _ id k (get_extx hd) (m, (i : Int))) ?_   -- t32
    simp only [go_sem, lkX_old hlt, lkX_at hd, hJ, hdr]
    refine hR _ _ (kq12 _ _ ?_); clear hR R; try clear kq12 kz12
    try simp only [go_sem, lkX_old hlt, lkX_at hd, hJ, hdr]
    refine W_cond rfl (fun c2 => ?_) (fun c2 => ?_)
    · -- c2 true
      try simp only [nrm] at c2
      have ha : absentK k (m, (i : Int)) = true := c2
      refine W_exit ?_
      simp only [go_sem, lkX_old hlt, lkX_at hd, hJ, hdr]
      refine kq8 _ _ ?_
      refine W_region [0, 2, 3, 4, 6, 11, 12, 13, 23, 24] fun R hR => ?_   -- r14
      simp only [go_sem, lkX_old hlt, lkX_at hd, hJ, hdr]
      try simp (disch := omega) only [wrapI, wrapU]
      refine hR _ _ ?_; clear hR R
      try simp only [go_sem, lkX_old hlt, lkX_at hd, hJ, hdr]
      refine ⟨(i + 1, pp, sm, mn), ?_, by (try simp only []); omega, ?_⟩
      · refine Weak.trans (Weak.cutX 2 0 (by omega) (by omega) hcl (by simp only [go_sem] <;> omega) (by simp only [go_sem] <;> omega)) ?_
        simp only [go_sem]
        exact Weak.eq (by first | rfl | (simp only [go_sem]; done) | (simp only [go_sem]; rfl) | (simp [go_sem]; done) | (simp [go_sem]; omega)) (by first | rfl | (simp only [go_sem]; done) | (simp [go_sem]; done))
      · try dsimp only
        first
        | (rw [ha, if_pos rfl] at hps
           rw [hps]
           refine ⟨hiJ, hpl, fun q hq ha2 => ?_, hsm, hmn, hs1, by omega, by omega⟩
           rcases Nat.lt_succ_iff_lt_or_eq.1 hq with h | h
           · exact hpv q h ha2
           · subst h; rw [ha] at ha2; cases ha2)
        | (rw [ha, if_neg (by simp)] at hps
           rw [hps, List.map_append, sumI_append, List.length_append, ← hsm, ← hmn]
           rw [hmk] at hbi
           refine ⟨hiJ, by rw [List.length_set]; exact hpl, fun q hq ha2 => ?_, by simp only [List.map_cons, List.map_nil, sumI, hmk]; omega, rfl, by omega, by omega, by omega⟩
           rcases Nat.lt_succ_iff_lt_or_eq.1 hq with h | h
           · rw [List.getElem?_set_ne (by omega)]; exact hpv q h ha2
           · subst h; rw [hset, hmk])
    · -- c2 false
      try simp only [nrm] at c2
      have ha : absentK k (m, (i : Int)) = false := by simpa using c2
      refine W_skip (kq11 _ _ ?_)
      refine W_seq fun kz13 kq13 => ?_
      refine W_region [0, 2, 3, 4, 6, 11, 12, 13, 14, 15, 23, 24] fun R hR => ?_   -- r8
      simp only [go_sem, lkX_old hlt, lkX_at hd, hJ, hdr, hI5, iaM_nat hi5, Nat.mul_one, Nat.zero_add, hi1]
      refine hR _ _ (kq13 _ _ ?_); clear hR R; try clear kq13 kz13
      try simp only [go_sem, lkX_old hlt, lkX_at hd, hJ, hdr]
      refine W_seq fun kz14 kq14 => ?_
      refine W_seq fun kz15 kq15 => ?_
      refine W_region [0, 2, 3, 4, 6, 11, 12, 13, 14, 16, 23, 24] fun R hR => ?_   -- r9
      simp only [go_sem, lkX_old hlt, lkX_at hd, hJ, hdr]
      refine hR _ _ (kq15 _ _ ?_); clear hR R; try clear kq15 kz15
      try simp only [go_sem, lkX_old hlt, lkX_at hd, hJ, hdr]
      refine W_seq fun kz16 kq16 => ?_
      refine W_region [0, 2, 3, 4, 6, 11, 12, 13, 14, 16, 23, 24, 40] fun R hR => ?_   -- r10
      simp only [go_sem, lkX_old hlt, lkX_at hd, hJ, hdr]
      refine hR _ _ (kq16 _ _ ?_); clear hR R; try clear kq16 kz16
      try simp only [go_sem, lkX_old hlt, lkX_at hd, hJ, hdr]
      refine W_cond rfl (fun c3 => ?_) (fun c3 => ?_)
      · -- c3 true
        try simp only [nrm] at c3
        obtain ⟨lx, hlx0⟩ : ∃ z, (aget (m, (i : Int)) k).getD [] = z := ⟨_, rfl⟩
        have hne : lx ≠ [] := by rw [hlx0] at c3; intro e; rw [e] at c3; simp at c3
        have hll := kn_len hk (j := (m, (i : Int))) (by rw [hlx0]; exact hne)
        rw [hlx0] at hll
        obtain ⟨x, hlx⟩ : ∃ z, lx[sc]? = some z := ⟨lx[sc]'(by omega), by simp⟩
        have hmk : mkAt k sc m u i = x := mkAt_some hlx0 hne hlx
        simp only [hlx0, mkPV_ne hne]
        refine W_region [0, 2, 3, 4, 6, 11, 12, 13, 14, 23, 24] fun R hR => ?_   -- r11
        simp only [go_sem, lkX_old hlt, lkX_at hd, hJ, hdr, hI5, iaM_nat hi5, Nat.mul_one, Nat.zero_add, hi1, hset, hlx, List.set_set, List.length_set]
        refine hR _ _ (kq14 _ _ ?_); clear hR R; try clear kq14 kz14
        try simp only [go_sem, lkX_old hlt, lkX_at hd, hJ, hdr]
        refine W_seq fun kz17 kq17 => ?_
        refine W_region [0, 2, 3, 4, 6, 11, 12, 13, 23, 24] fun R hR => ?_   -- r12
        simp only [go_sem, lkX_old hlt, lkX_at hd, hJ, hdr, hI5, iaM_nat hi5, Nat.mul_one, Nat.zero_add, List.getElem?_map, hset]
        try simp (disch := omega) only [wrapI, wrapU]
        refine hR _ _ (kq17 _ _ ?_); clear hR R; try clear kq17 kz17
        try simp only [go_sem, lkX_old hlt, lkX_at hd, hJ, hdr]
        refine W_region [0, 2, 3, 4, 6, 11, 12, 13, 23, 24] fun R hR => ?_   -- r13
        simp only [go_sem, lkX_old hlt, lkX_at hd, hJ, hdr]
        try simp (disch := omega) only [wrapI, wrapU]
        refine hR _ _ (kq8 _ _ ?_); clear hR R; try clear kq8 kz8
        try simp only [go_sem, lkX_old hlt, lkX_at hd, hJ, hdr]
        refine W_region [0, 2, 3, 4, 6, 11, 12, 13, 23, 24] fun R hR => ?_   -- r14
        simp only [go_sem, lkX_old hlt, lkX_at hd, hJ, hdr]
        try simp (disch := omega) only [wrapI, wrapU]
        refine hR _ _ ?_; clear hR R
        try simp only [go_sem, lkX_old hlt, lkX_at hd, hJ, hdr]
        refine ⟨(i + 1, pp.set i x, sm + x, mn + 1), ?_, by (try simp only []); omega, ?_⟩
        · refine Weak.trans (Weak.cutX 2 0 (by omega) (by omega) hcl (by simp only [go_sem] <;> omega) (by simp only [go_sem] <;> omega)) ?_
          simp only [go_sem]
          exact Weak.eq (by first | rfl | (simp only [go_sem]; done) | (simp only [go_sem]; rfl) | (simp [go_sem]; done) | (simp [go_sem]; omega)) (by first | rfl | (simp only [go_sem]; done) | (simp [go_sem]; done))
        · try dsimp only
          first
          | (rw [ha, if_pos rfl] at hps
             rw [hps]
             refine ⟨hiJ, hpl, fun q hq ha2 => ?_, hsm, hmn, hs1, by omega, by omega⟩
             rcases Nat.lt_succ_iff_lt_or_eq.1 hq with h | h
             · exact hpv q h ha2
             · subst h; rw [ha] at ha2; cases ha2)
          | (rw [ha, if_neg (by simp)] at hps
             rw [hps, List.map_append, sumI_append, List.length_append, ← hsm, ← hmn]
             rw [hmk] at hbi
             refine ⟨hiJ, by rw [List.length_set]; exact hpl, fun q hq ha2 => ?_, by simp only [List.map_cons, List.map_nil, sumI, hmk]; omega, rfl, by omega, by omega, by omega⟩
             rcases Nat.lt_succ_iff_lt_or_eq.1 hq with h | h
             · rw [List.getElem?_set_ne (by omega)]; exact hpv q h ha2
             · subst h; rw [hset, hmk])
      · -- c3 false
        try simp only [nrm] at c3
        have hmk : mkAt k sc m u i = u := mkAt_none (by simpa using c3)
        refine W_skip (kq14 _ _ ?_)
        refine W_seq fun kz18 kq18 => ?_
        refine W_region [0, 2, 3, 4, 6, 11, 12, 13, 23, 24] fun R hR => ?_   -- r12
        simp only [go_sem, lkX_old hlt, lkX_at hd, hJ, hdr, hI5, iaM_nat hi5, Nat.mul_one, Nat.zero_add, List.getElem?_map, hset]
        try simp (disch := omega) only [wrapI, wrapU]
        refine hR _ _ (kq18 _ _ ?_); clear hR R; try clear kq18 kz18
        try simp only [go_sem, lkX_old hlt, lkX_at hd, hJ, hdr]
        refine W_region [0, 2, 3, 4, 6, 11, 12, 13, 23, 24] fun R hR => ?_   -- r13
        simp only [go_sem, lkX_old hlt, lkX_at hd, hJ, hdr]
        try simp (disch := omega) only [wrapI, wrapU]
        refine hR _ _ (kq8 _ _ ?_); clear hR R; try clear kq8 kz8
        try simp only [go_sem, lkX_old hlt, lkX_at hd, hJ, hdr]
        refine W_region [0, 2, 3, 4, 6, 11, 12, 13, 23, 24] fun R hR => ?_   -- r14
        simp only [go_sem, lkX_old hlt, lkX_at hd, hJ, hdr]
        try simp (disch := omega) only [wrapI, wrapU]
        refine hR _ _ ?_; clear hR R
        try simp only [go_sem, lkX_old hlt, lkX_at hd, hJ, hdr]
        refine ⟨(i + 1, pp.set i u, sm + u, mn + 1), ?_, by (try simp only []); omega, ?_⟩
        · refine Weak.trans (Weak.cutX 2 0 (by omega) (by omega) hcl (by simp only [go_sem] <;> omega) (by simp only [go_sem] <;> omega)) ?_
          simp only [go_sem]
          exact Weak.eq (by first | rfl | (simp only [go_sem]; done) | (simp only [go_sem]; rfl) | (simp [go_sem]; done) | (simp [go_sem]; omega)) (by first | rfl | (simp only [go_sem]; done) | (simp [go_sem]; done))
        · try dsimp only
          first
          | (rw [ha, if_pos rfl] at hps
             rw [hps]
             refine ⟨hiJ, hpl, fun q hq ha2 => ?_, hsm, hmn, hs1, by omega, by omega⟩
             rcases Nat.lt_succ_iff_lt_or_eq.1 hq with h | h
             · exact hpv q h ha2
             · subst h; rw [ha] at ha2; cases ha2)
          | (rw [ha, if_neg (by simp)] at hps
             rw [hps, List.map_append, sumI_append, List.length_append, ← hsm, ← hmn]
             rw [hmk] at hbi
             refine ⟨hiJ, by rw [List.length_set]; exact hpl, fun q hq ha2 => ?_, by simp only [List.map_cons, List.map_nil, sumI, hmk]; omega, rfl, by omega, by omega, by omega⟩
             rcases Nat.lt_succ_iff_lt_or_eq.1 hq with h | h
             · rw [List.getElem?_set_ne (by omega)]; exact hpv q h ha2
             · subst h; rw [hset, hmk])
  · -- c1 false
    try simp only [nrm] at c1
    have hie : J = i := by first | omega | (simp at c1; omega)
    subst hie
    refine W_exit ?_
    simp only [go_sem, lkX_old hlt, lkX_at hd, hJ, hdr]
    refine kq4 _ _ ?_
    refine W_seq fun kz19 kq19 => ?_
    refine W_seq fun kz20 kq20 => ?_
    refine W_region [0, 3, 6, 11, 12, 13, 56, 57] fun R hR => ?_   -- r15
    simp only [go_sem, lkX_old hlt, lkX_at hd, hJ, hdr]
    refine hR _ _ (kq20 _ _ ?_); clear hR R; try clear kq20 kz20
    try simp only [go_sem, lkX_old hlt, lkX_at hd, hJ, hdr]
    refine W_block ?_
    rw [← hpJ] at hsm hmn
    have hmn0 : ¬ ((mn : Int) = 0) := fun e => hp (List.eq_nil_of_length_eq_zero (by omega))
    have htd0 : sm.tdiv mn = mean := by rw [← hmean, meanM, ← hsm, ← hmn]
    have htd : IntKind.i64.wrap (sm.tdiv mn) = mean := by rw [htd0]; exact wrapI (by omega) (by omega)
    refine W_loopT (α := Nat × (List Int)) (fun ⟨j, pp⟩ => [(57, I j)]) (fun ⟨j, pp⟩ => σ.ext [some [I s.schools, I s.matters, I (J : Int), I (d : Int), I s.low, I s.high, ints s.order], some (pp.map I)] []) (fun ⟨j, pp⟩ => j ≤ J ∧ pp.length = 5 ∧ (∀ q : Nat, q < J → absentK k (m, (q : Int)) = false → pp[q]? = some (mkAt k sc m u q)) ∧ (∀ q : Nat, q < j → absentK k (m, (q : Int)) = true → pp[q]? = some mean)) (fun ⟨j, pp⟩ => J - j) ((0, pp)) rfl (by first | rfl | (simp only [go_sem]; done) | (simp only [go_sem]; rfl)) (⟨Nat.zero_le _, hpl, hpv, fun q hq => absurd hq (Nat.not_lt_zero _)⟩) ?_
    rintro ⟨j, pp⟩ ⟨hj, hpl2, hpv2, hpm⟩
    refine W_seq fun kz21 kq21 => ?_
    refine W_region [0, 3, 6, 11, 12, 13, 56, 57, 58] fun R hR => ?_   -- r16
    simp only [go_sem, lkX_old hlt, lkX_at hd, hJ, hdr]
    refine hR _ _ (kq21 _ _ ?_); clear hR R; try clear kq21 kz21
    try simp only [go_sem, lkX_old hlt, lkX_at hd, hJ, hdr]
    refine W_seq fun kz22 kq22 => ?_
    refine W_cond rfl (fun c4 => ?_) (fun c4 => ?_)
    · -- c4 true
      try simp only [nrm] at c4
      have hjJ : j < J := by first | omega | (simp at c4; omega)
      have hi5 : j < 5 := by omega
      have hI5 : (j : Int) < 5 := by omega
      have hi1 : j + 1 ≤ pp.length := by omega
      have hset : ∀ v : Int, (pp.set j v)[j]? = some v := fun v => by rw [List.getElem?_set_self (by omega)]
      refine W_skip (kq22 _ _ ?_)
      refine W_seq fun kz23 kq23 => ?_
      refine W_block ?_
      refine W_seq fun kz24 kq24 => ?_
      refine W_region [0, 3, 6, 11, 12, 13, 17, 56, 57] fun R hR => ?_   -- r17
      simp only [go_sem, lkX_old hlt, lkX_at hd, hJ, hdr]
      refine hR _ _ (kq24 _ _ ?_); clear hR R; try clear kq24 kz24
      try simp only [go_sem, lkX_old hlt, lkX_at hd, hJ, hdr]
      refine W_seq fun kz25 kq25 => ?_
      refine W_region [0, 3, 6, 11, 12, 13, 17, 56, 57, 64] fun R hR => ?_   -- r18
      simp only [go_sem, lkX_old hlt, lkX_at hd, hJ, hdr]
      refine GCall_of (absent_pc Y _ id k (get_extx hd) (m, (j : Int))) ?_   -- t64
      simp only [go_sem, lkX_old hlt, lkX_at hd, hJ, hdr]
      refine hR _ _ (kq25 _ _ ?_); clear hR R; try clear kq25 kz25
      try simp only [go_sem, lkX_old hlt, lkX_at hd, hJ, hdr]
      refine W_cond rfl (fun c5 => ?_) (fun c5 => ?_)
      · -- c5 true
        try simp only [nrm] at c5
        have ha : absentK k (m, (j : Int)) = true := c5
        refine W_region [0, 3, 6, 11, 12, 13, 56, 57] fun R hR => ?_   -- r19
        simp only [go_sem, lkX_old hlt, lkX_at hd, hJ, hdr, hI5, iaM_nat hi5, Nat.mul_one, Nat.zero_add, hi1, hmn0, htd]
        try simp (disch := omega) only [wrapI, wrapU]
        refine hR _ _ (kq23 _ _ ?_); clear hR R; try clear kq23 kz23
        try simp only [go_sem, lkX_old hlt, lkX_at hd, hJ, hdr]
        refine W_region [0, 3, 6, 11, 12, 13, 56, 57] fun R hR => ?_   -- r20
        simp only [go_sem, lkX_old hlt, lkX_at hd, hJ, hdr]
        try simp (disch := omega) only [wrapI, wrapU]
        refine hR _ _ ?_; clear hR R
        try simp only [go_sem, lkX_old hlt, lkX_at hd, hJ, hdr]
        refine ⟨(j + 1, pp.set j mean), ?_, by (try simp only []); omega, ?_⟩
        · first | exact Weak.refl | exact Weak.eq (by first | rfl | (simp only [go_sem]; done) | (simp only [go_sem]; rfl) | (simp [go_sem]; done) | (simp [go_sem]; omega)) (by first | rfl | (simp only [go_sem]; done) | (simp [go_sem]; done))
        · try dsimp only
          first
          | (refine ⟨hjJ, by rw [List.length_set]; exact hpl2, fun q hq ha2 => ?_, fun q hq ha2 => ?_⟩
             · rw [List.getElem?_set_ne (by rintro rfl; rw [ha] at ha2; cases ha2)]; exact hpv2 q hq ha2
             · rcases Nat.lt_succ_iff_lt_or_eq.1 hq with h | h
               · rw [List.getElem?_set_ne (by omega)]; exact hpm q h ha2
               · subst h; exact hset mean)
          | (refine ⟨hjJ, hpl2, hpv2, fun q hq ha2 => ?_⟩
             rcases Nat.lt_succ_iff_lt_or_eq.1 hq with h | h
             · exact hpm q h ha2
             · subst h; rw [ha] at ha2; cases ha2)
      · -- c5 false
        try simp only [nrm] at c5
        have ha : absentK k (m, (j : Int)) = false := by simpa using c5
        refine W_skip (kq23 _ _ ?_)
        refine W_region [0, 3, 6, 11, 12, 13, 56, 57] fun R hR => ?_   -- r20
        simp only [go_sem, lkX_old hlt, lkX_at hd, hJ, hdr]
        try simp (disch := omega) only [wrapI, wrapU]
        refine hR _ _ ?_; clear hR R
        try simp only [go_sem, lkX_old hlt, lkX_at hd, hJ, hdr]
        refine ⟨(j + 1, pp), ?_, by (try simp only []); omega, ?_⟩
        · first | exact Weak.refl | exact Weak.eq (by first | rfl | (simp only [go_sem]; done) | (simp only [go_sem]; rfl) | (simp [go_sem]; done) | (simp [go_sem]; omega)) (by first | rfl | (simp only [go_sem]; done) | (simp [go_sem]; done))
        · try dsimp only
          first
          | (refine ⟨hjJ, by rw [List.length_set]; exact hpl2, fun q hq ha2 => ?_, fun q hq ha2 => ?_⟩
             · rw [List.getElem?_set_ne (by rintro rfl; rw [ha] at ha2; cases ha2)]; exact hpv2 q hq ha2
             · rcases Nat.lt_succ_iff_lt_or_eq.1 hq with h | h
               · rw [List.getElem?_set_ne (by omega)]; exact hpm q h ha2
               · subst h; exact hset mean)
          | (refine ⟨hjJ, hpl2, hpv2, fun q hq ha2 => ?_⟩
             rcases Nat.lt_succ_iff_lt_or_eq.1 hq with h | h
             · exact hpm q h ha2
             · subst h; rw [ha] at ha2; cases ha2)
    · -- c4 false
      try simp only [nrm] at c4
      have hje : J = j := by first | omega | (simp at c4; omega)
      subst hje
      refine W_exit ?_
      simp only [go_sem, lkX_old hlt, lkX_at hd, hJ, hdr]
      refine kq19 _ _ ?_
      refine W_seq fun kz26 kq26 => ?_
      have hJ5 : J ≤ 5 := by omega
      have hJ1 : ¬ (0 = J) := by omega
      have hJ0 : (0 : Int) ≤ (J : Int) := by omega
      refine W_region [6, 18] fun R hR => ?_   -- r21
      simp only [go_sem, lkX_old hlt, lkX_at hd, hJ, hdr, sl142, Int.toNat_natCast, hJ5, hJ0, hJ1]
      refine GCall_of (values_pc Y _ (σ.store.length + 1) J) ?_   -- t74
      simp only [go_sem, lkX_old hlt, lkX_at hd, hJ, hdr, sl142, Int.toNat_natCast, hJ5, hJ0, hJ1]
      refine GCall_of (sorted_pc Y _ (σ.store.length + 2) (σ.store.length + 1) J pp (Sg.get_ext ..) (Sg.get_ext ..) (by omega) (by omega) (by omega)) ?_   -- t75
      simp only [go_sem, lkX_old hlt, lkX_at hd, hJ, hdr, sl142, Int.toNat_natCast, hJ5, hJ0, hJ1]
      refine hR _ _ (kq26 _ _ ?_); clear hR R; try clear kq26 kz26
      try simp only [go_sem, lkX_old hlt, lkX_at hd, hJ, hdr]
      refine W_seq fun kz27 kq27 => ?_
      refine W_region [6, 18, 19] fun R hR => ?_   -- r22
      simp only [go_sem, lkX_old hlt, lkX_at hd, hJ, hdr]
      refine hR _ _ (kq27 _ _ ?_); clear hR R; try clear kq27 kz27
      try simp only [go_sem, lkX_old hlt, lkX_at hd, hJ, hdr]
      refine W_seq fun kz28 kq28 => ?_
      refine W_seq fun kz29 kq29 => ?_
      have hd0 : (0 : Int) ≤ (d : Int) := by omega
      have hdl : d ≤ (sortI (pp.take J)).length := by rw [sortI_len, List.length_take]; omega
      refine W_region [19, 79, 80, 81] fun R hR => ?_   -- r23
      simp only [go_sem, lkX_old hlt, lkX_at hd, hJ, hdr, hd0, hdl]
      refine hR _ _ (kq29 _ _ ?_); clear hR R; try clear kq29 kz29
      try simp only [go_sem, lkX_old hlt, lkX_at hd, hJ, hdr]
      refine W_block ?_
      have hpan : pp.take J = panelM s k sc m u := panelM_eq hJ k sc m u (by omega) hpv2 (fun q hq ha2 => by rw [hmean]; exact hpm q hq ha2)
      simp only [hpan]
      obtain ⟨dl, hdl0⟩ : ∃ z, (sortI (panelM s k sc m u)).drop d = z := ⟨_, rfl⟩
      have hdb : ∀ x, x ∈ dl → 0 ≤ x ∧ x ≤ 100 := fun x hx => panelM_bd hv hk hu sc m x (mem_sortI.1 (List.mem_of_mem_drop (by rw [hdl0]; exact hx)))
      have hdl5 : dl.length ≤ 5 := by rw [← hdl0, List.length_drop, sortI_len, panelM_len hJ]; omega
      have hfin : pointsK s k sc m u = sumI dl := by unfold pointsK; rw [hdr, Int.toNat_natCast, hdl0]
      simp only [hdl0]
      refine W_loopS (α := Nat × Int) (fun ⟨e, t⟩ => [(19, I t), (81, I e)]) (fun ⟨e, t⟩ => e ≤ dl.length ∧ sumI dl = t + sumI (dl.drop e) ∧ 0 ≤ t ∧ t ≤ 100 * (e : Int)) (fun ⟨e, t⟩ => dl.length - e) ((0, 0)) rfl (⟨Nat.zero_le _, by simp, Int.le_refl _, Int.le_refl _⟩) ?_
      rintro ⟨e, t⟩ ⟨he, hinv, ht1, ht2⟩
      refine W_seq fun kz30 kq30 => ?_
      refine W_region [19, 79, 80, 81, 82] fun R hR => ?_   -- r24
      simp only [go_sem, lkX_old hlt, lkX_at hd, hJ, hdr]
      refine hR _ _ (kq30 _ _ ?_); clear hR R; try clear kq30 kz30
      try simp only [go_sem, lkX_old hlt, lkX_at hd, hJ, hdr]
      refine W_seq fun kz31 kq31 => ?_
      refine W_cond rfl (fun c6 => ?_) (fun c6 => ?_)
      · -- c6 true
        try simp only [nrm] at c6
        have he' : e < dl.length := by first | assumption | omega
        obtain ⟨x, hx⟩ : ∃ x, dl[e]? = some x := ⟨dl[e], by simp [he']⟩
        have hdrop : dl.drop e = x :: dl.drop (e + 1) := by
          rw [List.drop_eq_getElem_cons he']; congr 1; exact (List.getElem?_eq_some_iff.1 hx).2
        have hxb := hdb x (List.mem_of_getElem? hx)
        rw [hdrop] at hinv
        simp only [sumI] at hinv
        refine W_skip (kq31 _ _ ?_)
        refine W_seq fun kz32 kq32 => ?_
        refine W_block ?_
        refine W_seq fun kz33 kq33 => ?_
        refine W_region [19, 21, 79, 80, 81] fun R hR => ?_   -- r25
        simp only [go_sem, lkX_old hlt, lkX_at hd, hJ, hdr, hx]
        refine hR _ _ (kq33 _ _ ?_); clear hR R; try clear kq33 kz33
        try simp only [go_sem, lkX_old hlt, lkX_at hd, hJ, hdr, hx]
        refine W_region [19, 79, 80, 81] fun R hR => ?_   -- r26
        simp only [go_sem, lkX_old hlt, lkX_at hd, hJ, hdr, hx]
        try simp (disch := omega) only [wrapI, wrapU]
        refine hR _ _ (kq32 _ _ ?_); clear hR R; try clear kq32 kz32
        try simp only [go_sem, lkX_old hlt, lkX_at hd, hJ, hdr, hx]
        refine W_region [19, 79, 80, 81] fun R hR => ?_   -- r27
        simp only [go_sem, lkX_old hlt, lkX_at hd, hJ, hdr, hx]
        try simp (disch := omega) only [wrapI, wrapU]
        refine hR _ _ ?_; clear hR R
        try simp only [go_sem, lkX_old hlt, lkX_at hd, hJ, hdr, hx]
        refine ⟨(e + 1, t + x), ?_, by (try simp only []); omega, ?_⟩
        · first | exact Weak.refl | exact Weak.eq (by first | rfl | (simp only [go_sem]; done) | (simp only [go_sem]; rfl) | (simp [go_sem]; done) | (simp [go_sem]; omega)) (by first | rfl | (simp only [go_sem]; done) | (simp [go_sem]; done))
        · try dsimp only
          exact ⟨he', by omega, by omega, by omega⟩
      · -- c6 false
        try simp only [nrm] at c6
        have hdrop : dl.drop e = [] := List.drop_eq_nil_of_le (by omega)
        rw [hdrop] at hinv
        simp only [sumI] at hinv
        refine W_exit ?_
        simp only [go_sem, lkX_old hlt, lkX_at hd, hJ, hdr]
        refine kq28 _ _ ?_
        refine W_seq fun kz34 kq34 => ?_
        refine W_region [10] fun R hR => ?_   -- r28
        simp only [go_sem, lkX_old hlt, lkX_at hd, hJ, hdr]
        refine hR _ _ (kq34 _ _ ?_); clear hR R; try clear kq34 kz34
        try simp only [go_sem, lkX_old hlt, lkX_at hd, hJ, hdr]
        refine W_ret ?_
        simp only [go_sem, lkX_old hlt, lkX_at hd, hJ, hdr]
        refine ⟨.inr (by trivial), ?_⟩
        first | refine Fin_same hcl rfl (Wk_eq ?_ (by simp only [go_sem])) | refine Fin_self hcl rfl (Wk_eq ?_ (by simp only [go_sem]))
        try simp only [go_sem]
        all_goals
          rw [hfin, hinv, Int.add_zero]
end Go.Proofs.YtgelnjmddabgpaaGreat
namespace Go.Proofs.YtgelnjmddabgpaaGreat
open Go Go.RowKit
set_option maxRecDepth 100000
attribute [go_sem] List.length_range
theorem short_pres {s : Scale} {k : Kn} (h : shortK s k = false) {M m : Nat} (hM : s.matters = M) (hm : m < M) : presJ s k m ≠ [] := by
  intro e
  have hall : ∀ n, n ∈ toI s.judges → absentK k ((m : Int), n) = true := fun n hn => by
    have : n ∉ presJ s k m := by rw [e]; simp
    simp only [presJ, List.mem_filter, not_and, Bool.not_eq_true', Bool.not_eq_false] at this
    exact this hn
  have : shortK s k = true := by
    simp only [shortK, List.any_eq_true, List.all_eq_true]
    exact ⟨(m : Int), by rw [toI, hM, Int.toNat_natCast]; exact List.mem_map.2 ⟨m, List.mem_range.2 hm, rfl⟩, hall⟩
  rw [h] at this
  cases this
/-- What standings are made of. -/
structure KnV (s : Scale) (k : Kn) (g : Night) : Prop where
  v : s.V
  ok : KnOk s k
  sh : shortK s k = false
  fl : g.fines.length ≤ 10
  fi : ∀ f, f ∈ g.fines → (0 ≤ f.1 ∧ f.1 ≤ s.schools - 1) ∧ 0 ≤ f.2 ∧ f.2 ≤ 1000
def ptsUp (s : Scale) (k : Kn) (sc u : Int) (i : Nat) : List Int := (List.range i).map fun (m : Nat) => pointsK s k sc m u
theorem ptsUp_succ (s : Scale) (k : Kn) (sc u : Int) (i : Nat) : ptsUp s k sc u (i + 1) = ptsUp s k sc u i ++ [pointsK s k sc i u] := by simp [ptsUp, List.range_succ]
theorem ptsUp_all {s : Scale} {M : Nat} (hM : s.matters = M) (k : Kn) (sc u : Int) : ptsUp s k sc u M = pointsL s k sc u := by
  simp only [ptsUp, pointsL, toI, hM, Int.toNat_natCast, List.map_map]
  rfl
theorem finesOf_cons (f : Int × Int) (l : List (Int × Int)) (sc : Int) : finesOf (f :: l) sc = (if f.1 = sc then f.2 else 0) + finesOf l sc := rfl
def rulesL (f63 f64 f65 : Nat) (L n : Nat) : List PV := .func (.func f63) [] [.ptr (L + 2) 0, .ptr (L + 1) 0] :: ((List.range n).map (fun j => PV.func (.func f64) [] [.ptr (L + 2) 0, .ptr (L + (j + 1 + 1 + 1)) 0, .ptr (L + 1) 0]) ++ [.func (.func f65) [] [.ptr (L + 1) 0, .ptr (L + 2) 0]])
theorem firstNZ_drop {l : List Int} {i : Nat} {x : Int} (hx : l[i]? = some x) : firstNZ (l.drop i) = if x ≠ 0 then x else firstNZ (l.drop (i + 1)) := by
  have hi := (List.getElem?_eq_some_iff.1 hx).1
  rw [List.drop_eq_getElem_cons hi, (List.getElem?_eq_some_iff.1 hx).2]
  rfl
set_option maxHeartbeats 4000000 in
theorem standing_pc (Y : YEnv) (σ : Sg) (id : Nat) (k : Kn) (hd : σ.store[id]? = some (some (.mark :: knE k))) (s : Scale) (g : Night) (hV : KnV s k g) (sc : Nat) (hsc : (sc : Int) < s.schools) (u : Int) (hu : 0 ≤ u ∧ u ≤ 100) :
    PC Tryz.prog Y 58 [.map id, scPV s, ngPV g, I sc, I u] σ (sdPV (standK s k g sc u)) (σ) := by
  refine PC_of_W Tryz.func58 rfl (by kernel_rfl) Tryz.ntmps58 (by simp) fun hcl hca => ?_
  have hv := hV.v
  have q1 := hv.mt
  obtain ⟨M, hM⟩ : ∃ z : Nat, s.matters = z := ⟨s.matters.toNat, by omega⟩
  have hfl := hV.fl
  have hfi := hV.fi
  have hMi : (s.matters : Int) = (M : Int) := hM
  refine W_seq fun kz1 kq1 => ?_
  refine W_region [0, 3, 4, 6, 7, 10] fun R hR => ?_   -- r0
  simp only [go_sem]
  refine hR _ _ (kq1 _ _ ?_); clear hR R; try clear kq1 kz1
  try simp only [go_sem]
  refine W_seq fun kz2 kq2 => ?_
  refine W_region [0, 3, 4, 6, 7, 10, 11] fun R hR => ?_   -- r1
  simp only [go_sem]
  refine hR _ _ (kq2 _ _ ?_); clear hR R; try clear kq2 kz2
  try simp only [go_sem]
  refine W_seq fun kz3 kq3 => ?_
  refine W_seq fun kz4 kq4 => ?_
  refine W_region [0, 3, 4, 6, 7, 10, 11, 19, 20] fun R hR => ?_   -- r2
  simp only [go_sem]
  refine hR _ _ (kq4 _ _ ?_); clear hR R; try clear kq4 kz4
  try simp only [go_sem]
  refine W_block ?_
  refine W_weak (Weak.roomX (j := 3) (off := 2) (es := 1) rfl rfl (by simp)) ?_
  simp only [go_sem]
  refine W_loopT (α := Nat × Int) (fun ⟨i, tot⟩ => [(20, I i)]) (fun ⟨i, tot⟩ => σ.ext [some (scCells s), some (ngCells g), some [I 0, I 0, .isl [] .exact], some [I sc, I tot, .isl ((ptsUp s k sc u i).map I) (.tok σ.rooms.length i 1)]] [i]) (fun ⟨i, tot⟩ => i ≤ M ∧ tot = sumI (ptsUp s k sc u i) ∧ 0 ≤ tot ∧ tot ≤ 500 * (i : Int)) (fun ⟨i, tot⟩ => M - i) ((0, 0)) rfl (by first | rfl | (simp only [go_sem]; done) | (simp only [go_sem]; rfl)) (⟨Nat.zero_le _, rfl, Int.le_refl _, Int.le_refl _⟩) ?_
  rintro ⟨i, tot⟩ ⟨hi, ht, ht1, ht2⟩
  have hpl : (ptsUp s k sc u i).length = i := by simp [ptsUp]
  refine W_seq fun kz5 kq5 => ?_
  refine W_region [0, 3, 4, 6, 7, 10, 11, 19, 20, 21] fun R hR => ?_   -- r3
  simp only [go_sem]
  refine hR _ _ (kq5 _ _ ?_); clear hR R; try clear kq5 kz5
  try simp only [go_sem]
  refine W_seq fun kz6 kq6 => ?_
  refine W_cond rfl (fun c1 => ?_) (fun c1 => ?_)
  · -- c1 true
    try simp only [nrm] at c1
    have hiM : i < M := by first | omega | (simp at c1; omega)
    have hpb := points_bd hv hV.ok hu sc i
    have hsu := ptsUp_succ s k sc u i
    have hpok : okC 1 ((ptsUp s k sc u i).map I) = True := by simp only [go_sem]
    refine W_skip (kq6 _ _ ?_)
    refine W_seq fun kz7 kq7 => ?_
    refine W_block ?_
    refine W_seq fun kz8 kq8 => ?_
    refine W_region [0, 3, 4, 6, 7, 10, 11, 12, 19, 20] fun R hR => ?_   -- r4
    simp only [go_sem]
    refine hR _ _ (kq8 _ _ ?_); clear hR R; try clear kq8 kz8
    try simp only [go_sem]
    refine W_seq fun kz9 kq9 => ?_
    refine W_region [0, 3, 4, 6, 7, 10, 11, 13, 19, 20] fun R hR => ?_   -- r5
    simp only [go_sem]
    refine GCall_of (points_pc Y _ id k (get_extx hd) s hv hV.ok sc hsc (i : Int) (short_pres hV.sh hM hiM) u hu) ?_   -- t28
    simp only [go_sem]
    refine hR _ _ (kq9 _ _ ?_); clear hR R; try clear kq9 kz9
    try simp only [go_sem]
    refine W_seq fun kz10 kq10 => ?_
    refine W_region [0, 3, 4, 6, 7, 10, 11, 13, 19, 20] fun R hR => ?_   -- r6
    simp only [go_sem]
    try simp (disch := first | omega | (simp only [go_sem] <;> omega)) only [wrapI, wrapU, appX_exact, appX_tok]
    try simp only [go_sem]
    refine hR _ _ (kq10 _ _ ?_); clear hR R; try clear kq10 kz10
    try simp only [go_sem]
    refine W_region [0, 3, 4, 6, 7, 10, 11, 19, 20] fun R hR => ?_   -- r7
    simp only [go_sem]
    try simp (disch := omega) only [wrapI, wrapU]
    refine hR _ _ (kq7 _ _ ?_); clear hR R; try clear kq7 kz7
    try simp only [go_sem]
    refine W_region [0, 3, 4, 6, 7, 10, 11, 19, 20] fun R hR => ?_   -- r8
    simp only [go_sem]
    try simp (disch := omega) only [wrapI, wrapU]
    refine hR _ _ ?_; clear hR R
    try simp only [go_sem]
    refine ⟨(i + 1, tot + pointsK s k sc i u), ?_, by (try simp only []); omega, ?_⟩
    · refine Weak.eq (by first | rfl | (simp only [go_sem]; done) | (simp [go_sem]; done)) ?_
      simp only [go_sem, hsu, List.map_append]
    · try dsimp only
      rw [hsu, sumI_append, ← ht]
      exact ⟨hiM, by simp [sumI], by omega, by omega⟩
  · -- c1 false
    try simp only [nrm] at c1
    have hie : M = i := by first | omega | (simp at c1; omega)
    subst hie
    rw [ptsUp_all hM] at ht
    refine W_exit ?_
    simp only [go_sem]
    refine kq3 _ _ ?_
    refine W_seq fun kz11 kq11 => ?_
    refine W_seq fun kz12 kq12 => ?_
    refine W_region [3, 10, 11, 42, 43, 44] fun R hR => ?_   -- r9
    simp only [go_sem]
    refine hR _ _ (kq12 _ _ ?_); clear hR R; try clear kq12 kz12
    try simp only [go_sem]
    refine W_block ?_
    simp only [ptsUp_all hM]
    refine W_loopT (α := Nat × Int) (fun ⟨j, t2⟩ => [(44, I j)]) (fun ⟨j, t2⟩ => σ.ext [some (scCells s), some (ngCells g), some [I 0, I 0, .isl [] .exact], some [I sc, I t2, .isl ((pointsL s k sc u).map I) (.tok σ.rooms.length M 1)]] [M]) (fun ⟨j, t2⟩ => j ≤ g.fines.length ∧ tot - finesOf g.fines sc = t2 - finesOf (g.fines.drop j) sc ∧ -1000 * (j : Int) ≤ t2 ∧ t2 ≤ 3000) (fun ⟨j, t2⟩ => g.fines.length - j) ((0, tot)) rfl (by first | rfl | (simp only [go_sem]; done) | (simp only [go_sem]; rfl)) (⟨Nat.zero_le _, rfl, by omega, by omega⟩) ?_
    rintro ⟨j, t2⟩ ⟨hj, hinv, ht3, ht4⟩
    refine W_seq fun kz13 kq13 => ?_
    refine W_region [3, 10, 11, 42, 43, 44, 45] fun R hR => ?_   -- r10
    simp only [go_sem]
    refine hR _ _ (kq13 _ _ ?_); clear hR R; try clear kq13 kz13
    try simp only [go_sem]
    refine W_seq fun kz14 kq14 => ?_
    refine W_cond rfl (fun c2 => ?_) (fun c2 => ?_)
    · -- c2 true
      try simp only [nrm] at c2
      have hj' : j < g.fines.length := by first | assumption | omega
      obtain ⟨f, hx⟩ : ∃ f, g.fines[j]? = some f := ⟨g.fines[j], by simp [hj']⟩
      have hdrop : g.fines.drop j = f :: g.fines.drop (j + 1) := by
        rw [List.drop_eq_getElem_cons hj']; congr 1; exact (List.getElem?_eq_some_iff.1 hx).2
      have hfb := hfi f (List.mem_of_getElem? hx)
      rw [hdrop, finesOf_cons] at hinv
      refine W_skip (kq14 _ _ ?_)
      refine W_seq fun kz15 kq15 => ?_
      refine W_block ?_
      refine W_seq fun kz16 kq16 => ?_
      refine W_region [3, 10, 11, 15, 42, 43, 44] fun R hR => ?_   -- r11
      simp only [go_sem, hx]
      refine hR _ _ (kq16 _ _ ?_); clear hR R; try clear kq16 kz16
      try simp only [go_sem, hx]
      refine W_seq fun kz17 kq17 => ?_
      refine W_region [3, 10, 11, 15, 42, 43, 44, 51] fun R hR => ?_   -- r12
      simp only [go_sem, hx]
      refine hR _ _ (kq17 _ _ ?_); clear hR R; try clear kq17 kz17
      try simp only [go_sem, hx]
      refine W_cond rfl (fun c3 => ?_) (fun c3 => ?_)
      · -- c3 true
        try simp only [nrm] at c3
        refine W_region [3, 10, 11, 42, 43, 44] fun R hR => ?_   -- r13
        simp only [go_sem, hx]
        try simp (disch := omega) only [wrapI, wrapU]
        refine hR _ _ (kq15 _ _ ?_); clear hR R; try clear kq15 kz15
        try simp only [go_sem, hx]
        refine W_region [3, 10, 11, 42, 43, 44] fun R hR => ?_   -- r14
        simp only [go_sem, hx]
        try simp (disch := omega) only [wrapI, wrapU]
        refine hR _ _ ?_; clear hR R
        try simp only [go_sem, hx]
        refine ⟨(j + 1, t2 - f.2), ?_, by (try simp only []); omega, ?_⟩
        · refine Weak.trans (Weak.cutX 4 1 (by omega) (by omega) hcl (by simp only [go_sem] <;> omega) (by simp only [go_sem] <;> omega)) ?_
          simp only [go_sem]
          exact Weak.eq (by first | rfl | (simp only [go_sem]; done) | (simp only [go_sem]; rfl) | (simp [go_sem]; done) | (simp [go_sem]; omega)) (by first | rfl | (simp only [go_sem]; done) | (simp [go_sem]; done))
        · try dsimp only
          first
          | (rw [if_pos c3] at hinv; exact ⟨hj', by omega, by omega, by omega⟩)
          | (rw [if_neg c3] at hinv; exact ⟨hj', by omega, by omega, by omega⟩)
      · -- c3 false
        try simp only [nrm] at c3
        refine W_skip (kq15 _ _ ?_)
        refine W_region [3, 10, 11, 42, 43, 44] fun R hR => ?_   -- r14
        simp only [go_sem, hx]
        try simp (disch := omega) only [wrapI, wrapU]
        refine hR _ _ ?_; clear hR R
        try simp only [go_sem, hx]
        refine ⟨(j + 1, t2), ?_, by (try simp only []); omega, ?_⟩
        · refine Weak.trans (Weak.cutX 4 1 (by omega) (by omega) hcl (by simp only [go_sem] <;> omega) (by simp only [go_sem] <;> omega)) ?_
          simp only [go_sem]
          exact Weak.eq (by first | rfl | (simp only [go_sem]; done) | (simp only [go_sem]; rfl) | (simp [go_sem]; done) | (simp [go_sem]; omega)) (by first | rfl | (simp only [go_sem]; done) | (simp [go_sem]; done))
        · try dsimp only
          first
          | (rw [if_pos c3] at hinv; exact ⟨hj', by omega, by omega, by omega⟩)
          | (rw [if_neg c3] at hinv; exact ⟨hj', by omega, by omega, by omega⟩)
    · -- c2 false
      try simp only [nrm] at c2
      have hdrop : g.fines.drop j = [] := List.drop_eq_nil_of_le (by omega)
      rw [hdrop] at hinv
      have hst : standK s k g sc u = ⟨sc, t2, pointsL s k sc u⟩ := by
        simp only [standK, ← ht, hinv]
        simp [finesOf, sumI]
      refine W_exit ?_
      simp only [go_sem]
      refine kq11 _ _ ?_
      refine W_seq fun kz18 kq18 => ?_
      refine W_region [10] fun R hR => ?_   -- r15
      simp only [go_sem]
      refine hR _ _ (kq18 _ _ ?_); clear hR R; try clear kq18 kz18
      try simp only [go_sem]
      refine W_ret ?_
      simp only [go_sem]
      refine ⟨.inr (by trivial), ?_⟩
      rw [hst]; refine Fin_same hcl (by show resPV Tryz.prog _ _ [.cell 10 55] = some _; simp only [resPV, go_sem]; rfl) (Wk.ro (by simp only [go_sem]) ?_)
      try simp only [go_sem]
      all_goals
        simp only [go_sem]
set_option maxHeartbeats 2000000 in
theorem cmp1_pc (Y : YEnv) (σ : Sg) (ia ib : Nat) (a b : Stand) (ha : σ.store[ia]? = some (some (sdCells a))) (hb : σ.store[ib]? = some (some (sdCells b))) (h1 : -2 ^ 40 ≤ a.total ∧ a.total ≤ 2 ^ 40) (h2 : -2 ^ 40 ≤ b.total ∧ b.total ≤ 2 ^ 40) :
    PC Tryz.prog Y 83 [.ptr ib 0, .ptr ia 0] σ (I (b.total - a.total)) (σ) := by
  refine PC_of_W Tryz.func83 rfl (by kernel_rfl) Tryz.ntmps83 (by simp) fun hcl hca => ?_
  refine W_seq fun kz1 kq1 => ?_
  refine W_region [0, 1] fun R hR => ?_   -- r0
  simp only [go_sem, ldS_at ha, ldS_at hb]
  refine hR _ _ (kq1 _ _ ?_); clear hR R; try clear kq1 kz1
  try simp only [go_sem, ldS_at ha, ldS_at hb]
  refine W_seq fun kz2 kq2 => ?_
  refine W_region [2] fun R hR => ?_   -- r1
  simp only [go_sem, ldS_at ha, ldS_at hb]
  try simp (disch := omega) only [wrapI, wrapU]
  refine hR _ _ (kq2 _ _ ?_); clear hR R; try clear kq2 kz2
  try simp only [go_sem, ldS_at ha, ldS_at hb]
  refine W_ret ?_
  simp only [go_sem, ldS_at ha, ldS_at hb]
  refine ⟨.inr (by trivial), ?_⟩
  first | refine Fin_same hcl rfl (Wk_eq ?_ (by simp only [go_sem])) | refine Fin_self hcl rfl (Wk_eq ?_ (by simp only [go_sem]))
  try simp only [go_sem]
  all_goals
    first | rfl | (simp_all; done) | (simp_all; omega)
set_option maxHeartbeats 2000000 in
theorem cmp2_pc (Y : YEnv) (σ : Sg) (ia ib : Nat) (a b : Stand) (ha : σ.store[ia]? = some (some (sdCells a))) (hb : σ.store[ib]? = some (some (sdCells b))) (im m : Nat) (hm : σ.store[im]? = some (some [I m])) (pa pb : Int) (hpa : a.points[m]? = some pa) (hpb : b.points[m]? = some pb) (h1 : -2 ^ 40 ≤ pa ∧ pa ≤ 2 ^ 40) (h2 : -2 ^ 40 ≤ pb ∧ pb ≤ 2 ^ 40) :
    PC Tryz.prog Y 84 [.ptr ib 0, .ptr im 0, .ptr ia 0] σ (I (pb - pa)) (σ) := by
  refine PC_of_W Tryz.func84 rfl (by kernel_rfl) Tryz.ntmps84 (by simp) fun hcl hca => ?_
  refine W_seq fun kz1 kq1 => ?_
  refine W_region [0, 1, 2] fun R hR => ?_   -- r0
  simp only [go_sem, ldS_at ha, ldS_at hb, ldS_at hm, hpa, hpb]
  refine hR _ _ (kq1 _ _ ?_); clear hR R; try clear kq1 kz1
  try simp only [go_sem, ldS_at ha, ldS_at hb, ldS_at hm, hpa, hpb]
  refine W_seq fun kz2 kq2 => ?_
  refine W_draw [3] [0, 1, 2, 3, 4, 5, 6, 7, 8, 9, 10, 11] [] [[], [0], [], [0, 1, 2], [0, 1, 2, 3], [], [5], [], [5, 6, 7], [5, 6, 7, 8], [0, 1, 2, 3, 4, 5, 6, 7, 8, 9], [0, 1, 2, 3, 4, 5, 6, 7, 8, 9, 10]] mixed (by kernel_rfl) fun R hR => ?_   -- r1
  simp only [go_sem, ldS_at ha, ldS_at hb, ldS_at hm, hpa, hpb]
  try simp (disch := omega) only [wrapI, wrapU]
  try refine And.intro (by repeat' (first | refine And.intro ?_ ?_ | exact GOr_right (fun _ => by simp only [go_sem, ldS_at ha, ldS_at hb, ldS_at hm, hpa, hpb]))) ?_
  refine hR _ _ (kq2 _ _ ?_); clear hR R; try clear kq2 kz2
  try simp only [go_sem, ldS_at ha, ldS_at hb, ldS_at hm, hpa, hpb]
  refine W_ret ?_
  simp only [go_sem, ldS_at ha, ldS_at hb, ldS_at hm, hpa, hpb]
  refine ⟨.inr (by trivial), ?_⟩
  first | refine Fin_same hcl rfl (Wk_eq ?_ (by simp only [go_sem])) | refine Fin_self hcl rfl (Wk_eq ?_ (by simp only [go_sem]))
  try simp only [go_sem]
  all_goals
    first | rfl | (simp_all; done) | (simp_all; omega)
set_option maxHeartbeats 2000000 in
theorem cmp3_pc (Y : YEnv) (σ : Sg) (ia ib : Nat) (a b : Stand) (ha : σ.store[ia]? = some (some (sdCells a))) (hb : σ.store[ib]? = some (some (sdCells b))) (h1 : -2 ^ 40 ≤ a.school ∧ a.school ≤ 2 ^ 40) (h2 : -2 ^ 40 ≤ b.school ∧ b.school ≤ 2 ^ 40) :
    PC Tryz.prog Y 85 [.ptr ia 0, .ptr ib 0] σ (I (a.school - b.school)) (σ) := by
  refine PC_of_W Tryz.func85 rfl (by kernel_rfl) Tryz.ntmps85 (by simp) fun hcl hca => ?_
  refine W_seq fun kz1 kq1 => ?_
  refine W_region [0, 1] fun R hR => ?_   -- r0
  simp only [go_sem, ldS_at ha, ldS_at hb]
  refine hR _ _ (kq1 _ _ ?_); clear hR R; try clear kq1 kz1
  try simp only [go_sem, ldS_at ha, ldS_at hb]
  refine W_seq fun kz2 kq2 => ?_
  refine W_region [2] fun R hR => ?_   -- r1
  simp only [go_sem, ldS_at ha, ldS_at hb]
  try simp (disch := omega) only [wrapI, wrapU]
  refine hR _ _ (kq2 _ _ ?_); clear hR R; try clear kq2 kz2
  try simp only [go_sem, ldS_at ha, ldS_at hb]
  refine W_ret ?_
  simp only [go_sem, ldS_at ha, ldS_at hb]
  refine ⟨.inr (by trivial), ?_⟩
  first | refine Fin_same hcl rfl (Wk_eq ?_ (by simp only [go_sem])) | refine Fin_self hcl rfl (Wk_eq ?_ (by simp only [go_sem]))
  try simp only [go_sem]
  all_goals
    first | rfl | (simp_all; done) | (simp_all; omega)
/-- Standings that can be compared. -/
structure CmpOk (ord : List Int) (a b : Stand) : Prop where
  ta : -2 ^ 40 ≤ a.total ∧ a.total ≤ 2 ^ 40
  tb : -2 ^ 40 ≤ b.total ∧ b.total ≤ 2 ^ 40
  sa : -2 ^ 40 ≤ a.school ∧ a.school ≤ 2 ^ 40
  sb : -2 ^ 40 ≤ b.school ∧ b.school ≤ 2 ^ 40
  pt : ∀ m, m ∈ ord → ∃ (i : Nat) (pa pb : Int), m = i ∧ a.points[i]? = some pa ∧ b.points[i]? = some pb ∧ (-2 ^ 40 ≤ pa ∧ pa ≤ 2 ^ 40) ∧ (-2 ^ 40 ≤ pb ∧ pb ≤ 2 ^ 40)
theorem rulesL_pc (Y : YEnv) (σ : Sg) (ord : List Int) (a b : Stand) (h : CmpOk ord a b) (i : Nat) (p : PV) (hp : (rulesL 83 84 85 σ.store.length ord.length)[i]? = some p) :
    ∃ f cs v, p = .func (.func f) [] cs ∧ (cmpRules ord a b)[i]? = some v ∧ PC Tryz.prog Y f cs (σ.ext (some [ints ord] :: some (sdCells a) :: some (sdCells b) :: ord.map fun m => some [I m]) [ord.length + 2]) (I v) (σ.ext (some [ints ord] :: some (sdCells a) :: some (sdCells b) :: ord.map fun m => some [I m]) [ord.length + 2]) := by
  have ga : (σ.ext (some [ints ord] :: some (sdCells a) :: some (sdCells b) :: ord.map fun m => some [I m]) [ord.length + 2]).store[σ.store.length + 1]? = some (some (sdCells a)) := by rw [Sg.get_ext]; rfl
  have gb : (σ.ext (some [ints ord] :: some (sdCells a) :: some (sdCells b) :: ord.map fun m => some [I m]) [ord.length + 2]).store[σ.store.length + 2]? = some (some (sdCells b)) := by rw [Sg.get_ext]; rfl
  unfold rulesL at hp
  cases i with
  | zero =>
    simp only [List.getElem?_cons_zero, Option.some.injEq] at hp
    exact ⟨_, _, _, hp.symm, rfl, cmp1_pc Y _ _ _ a b ga gb h.ta h.tb⟩
  | succ i =>
    simp only [List.getElem?_cons_succ] at hp
    by_cases hi : i < ord.length
    · rw [List.getElem?_append_left (by simpa using hi)] at hp
      simp only [List.getElem?_map, List.getElem?_range hi, Option.map_some, Option.some.injEq] at hp
      obtain ⟨m, pa, pb, e, e1, e2, e3, e4⟩ := h.pt ord[i] (List.getElem_mem hi)
      have gm : (σ.ext (some [ints ord] :: some (sdCells a) :: some (sdCells b) :: ord.map fun m => some [I m]) [ord.length + 2]).store[σ.store.length + (i + 1 + 1 + 1)]? = some (some [I (m : Int)]) := by
        rw [Sg.get_ext]; simp [hi, e]
      refine ⟨_, _, pb - pa, hp.symm, ?_, cmp2_pc Y _ _ _ a b ga gb _ m gm pa pb e1 e2 e3 e4⟩
      have : (ord.map (fun m => ptAt b m - ptAt a m) ++ [a.school - b.school])[i]? = some (pb - pa) := by
        rw [List.getElem?_append_left (by simpa using hi)]
        simp [hi, e, ptAt, e1, e2]
      simp only [cmpRules, List.getElem?_cons_succ]
      exact this
    · have hlen := (List.getElem?_eq_some_iff.1 hp).1
      simp at hlen
      have hie : i = ord.length := by omega
      subst hie
      rw [List.getElem?_append_right (by simp)] at hp
      simp at hp
      refine ⟨_, _, a.school - b.school, hp.symm, ?_, cmp3_pc Y _ _ _ a b ga gb h.sa h.sb⟩
      simp only [cmpRules, List.getElem?_cons_succ]
      rw [List.getElem?_append_right (by simp)]
      simp
set_option maxHeartbeats 4000000 in
theorem compare_pc (Y : YEnv) (σ : Sg) (ord : List Int) (a b : Stand) (h : CmpOk ord a b) (hl : ord.length < 2 ^ 40) :
    PC Tryz.prog Y 59 [.agg [ints ord], sdPV a, sdPV b] σ (I (cmpSt ord a b)) (σ) := by
  refine PC_of_W Tryz.func59 rfl (by kernel_rfl) Tryz.ntmps59 (by simp) fun hcl hca => ?_
  have hrp := rulesL_pc Y σ ord a b h
  refine W_seq fun kz1 kq1 => ?_
  refine W_region [3, 4, 5] fun R hR => ?_   -- r0
  simp only [go_sem, List.length_range]
  refine hR _ _ (kq1 _ _ ?_); clear hR R; try clear kq1 kz1
  try simp only [go_sem, List.length_range]
  refine W_seq fun kz2 kq2 => ?_
  refine W_region [3, 4, 5, 7] fun R hR => ?_   -- r1
  simp only [go_sem, List.length_range]
  refine hR _ _ (kq2 _ _ ?_); clear hR R; try clear kq2 kz2
  try simp only [go_sem, List.length_range]
  refine W_seq fun kz3 kq3 => ?_
  refine W_seq fun kz4 kq4 => ?_
  refine W_region [4, 5, 7, 16, 17, 18] fun R hR => ?_   -- r2
  simp only [go_sem, List.length_range]
  refine hR _ _ (kq4 _ _ ?_); clear hR R; try clear kq4 kz4
  try simp only [go_sem, List.length_range]
  refine W_block ?_
  refine W_weak (Weak.room (t := 7) (es := 1) rfl (by simp)) ?_
  refine W_weak (Weak.keep [4, 5, 7, 16, 17, 18]) ?_
  simp only [go_sem, List.length_range]
  refine W_loopT (α := Nat) (fun (i : Nat) => [(7, .isl (.func (.func 83) [] [.ptr (σ.store.length + 2) 0, .ptr (σ.store.length + 1) 0] :: (List.range i).map (fun j => PV.func (.func 84) [] [.ptr (σ.store.length + 2) 0, .ptr (σ.store.length + (j + 1 + 1 + 1)) 0, .ptr (σ.store.length + 1) 0])) (.tok σ.rooms.length (i + 1) 1)), (18, I i)]) (fun (i : Nat) => σ.ext (some [ints ord] :: some (sdCells a) :: some (sdCells b) :: (ord.take i).map fun m => some [I m]) [i + 1]) (fun (i : Nat) => i ≤ ord.length) (fun (i : Nat) => ord.length - i) (0) rfl (by first | rfl | (simp only [go_sem]; done) | (simp only [go_sem]; rfl)) (Nat.zero_le _) ?_
  rintro i hi
  have htl : (ord.take i).length = i := by simp; omega
  have hsub0 : i - ((ord.take i).map (fun m => some [I m])).length = 0 := by simp; omega
  have hget : ∀ x : Option (List PV), ((ord.take i).map (fun m => some [I m]) ++ [x])[i]? = some x := fun x => by rw [List.getElem?_append_right (by simp; omega), hsub0]; rfl
  have hset2 : ∀ x y : Option (List PV), ((ord.take i).map (fun m => some [I m]) ++ [x]).set i y = (ord.take i).map (fun m => some [I m]) ++ [y] := fun x y => by rw [List.set_append_right _ _ (by simp; omega), hsub0]; rfl
  refine W_seq fun kz5 kq5 => ?_
  refine W_region [4, 5, 7, 16, 17, 18, 19] fun R hR => ?_   -- r3
  simp only [go_sem, List.length_range]
  refine hR _ _ (kq5 _ _ ?_); clear hR R; try clear kq5 kz5
  try simp only [go_sem, List.length_range]
  refine W_seq fun kz6 kq6 => ?_
  refine W_cond rfl (fun c1 => ?_) (fun c1 => ?_)
  · -- c1 true
    try simp only [nrm] at c1
    have hi' : i < ord.length := by first | assumption | omega
    obtain ⟨m, hx⟩ : ∃ m, ord[i]? = some m := ⟨ord[i], by simp [hi']⟩
    have hdrop : ord.drop i = m :: ord.drop (i + 1) := by
      rw [List.drop_eq_getElem_cons hi']; congr 1; exact (List.getElem?_eq_some_iff.1 hx).2
    have hsn := take_snoc hx
    have hrs : (List.range (i + 1)) = List.range i ++ [i] := List.range_succ
    refine W_skip (kq6 _ _ ?_)
    refine W_seq fun kz7 kq7 => ?_
    refine W_block ?_
    refine W_seq fun kz8 kq8 => ?_
    refine W_region [4, 5, 7, 9, 16, 17, 18] fun R hR => ?_   -- r4
    simp only [go_sem, List.length_range, hx, htl, hget, hset2]
    refine hR _ _ (kq8 _ _ ?_); clear hR R; try clear kq8 kz8
    try simp only [go_sem, List.length_range, hx, htl]
    refine W_region [4, 5, 7, 16, 17, 18] fun R hR => ?_   -- r5
    simp only [go_sem, List.length_range, hx, htl]
    try simp (disch := first | omega | (simp only [go_sem] <;> omega)) only [wrapI, wrapU, appX_exact, appX_tok]
    try simp only [go_sem, List.length_range, hx, htl]
    refine hR _ _ (kq7 _ _ ?_); clear hR R; try clear kq7 kz7
    try simp only [go_sem, List.length_range, hx, htl]
    refine W_region [4, 5, 7, 16, 17, 18] fun R hR => ?_   -- r6
    simp only [go_sem, List.length_range, hx, htl]
    try simp (disch := omega) only [wrapI, wrapU]
    refine hR _ _ ?_; clear hR R
    try simp only [go_sem, List.length_range, hx, htl]
    refine ⟨i + 1, ?_, by (try simp only []); omega, ?_⟩
    · refine Weak.eq ?_ ?_
      · simp [go_sem, hrs]
      · simp [go_sem, ← hsn]
    · try dsimp only
      exact hi'
  · -- c1 false
    try simp only [nrm] at c1
    have hie : ord.length = i := by first | omega | (simp at c1; omega)
    subst hie
    rw [List.take_length]
    refine W_exit ?_
    simp only [go_sem, List.length_range]
    refine kq3 _ _ ?_
    refine W_seq fun kz9 kq9 => ?_
    refine W_region [7] fun R hR => ?_   -- r7
    simp only [go_sem, List.length_range]
    try simp (disch := first | omega | (simp only [go_sem] <;> omega)) only [wrapI, wrapU, appX_exact, appX_tok]
    try simp only [go_sem, List.length_range]
    refine hR _ _ (kq9 _ _ ?_); clear hR R; try clear kq9 kz9
    try simp only [go_sem, List.length_range]
    refine W_seq fun kz10 kq10 => ?_
    refine W_seq fun kz11 kq11 => ?_
    refine W_region [31, 32, 33] fun R hR => ?_   -- r8
    simp only [go_sem, List.length_range]
    refine hR _ _ (kq11 _ _ ?_); clear hR R; try clear kq11 kz11
    try simp only [go_sem, List.length_range]
    refine W_block ?_
    obtain ⟨rl, hrl⟩ : ∃ z, rulesL 83 84 85 σ.store.length ord.length = z := ⟨_, rfl⟩
    have hrl0 := hrl
    unfold rulesL at hrl0
    have hrll : rl.length = ord.length + 2 := by rw [← hrl]; simp [rulesL]
    simp only [hrl0]
    rw [hrl] at hrp
    refine W_loopS (α := Nat) (fun (q : Nat) => [(33, I q)]) (fun (q : Nat) => q ≤ rl.length ∧ cmpSt ord a b = firstNZ ((cmpRules ord a b).drop q)) (fun (q : Nat) => rl.length - q) (0) rfl (⟨Nat.zero_le _, rfl⟩) ?_
    rintro q ⟨hq, hinv⟩
    refine W_seq fun kz12 kq12 => ?_
    refine W_region [31, 32, 33, 34] fun R hR => ?_   -- r9
    simp only [go_sem, List.length_range]
    refine hR _ _ (kq12 _ _ ?_); clear hR R; try clear kq12 kz12
    try simp only [go_sem, List.length_range]
    refine W_seq fun kz13 kq13 => ?_
    refine W_cond rfl (fun c2 => ?_) (fun c2 => ?_)
    · -- c2 true
      try simp only [nrm] at c2
      have hq' : q < rl.length := by first | omega | (simp at c2; omega)
      obtain ⟨p, hp⟩ : ∃ z, rl[q]? = some z := ⟨rl[q], by simp⟩
      obtain ⟨f, cs, v, rfl, hv, hpc⟩ := hrp q p hp
      rw [firstNZ_drop hv] at hinv
      have hia : iaX 1 rl (q : Int) = some (.eptr 1 rl q 0) := by
        have := iaX_map (f := id) (xs := rl) (c := 1) hp rfl
        simpa using this
      have hel : elS rl q 0 = some (.func (.func f) [] cs) := by simp [elS, hp]
      refine W_skip (kq13 _ _ ?_)
      refine W_seq fun kz14 kq14 => ?_
      refine W_block ?_
      refine W_seq fun kz15 kq15 => ?_
      refine W_region [11, 31, 32, 33] fun R hR => ?_   -- r10
      simp only [go_sem, List.length_range, hp, hia, hel]
      refine hR _ _ (kq15 _ _ ?_); clear hR R; try clear kq15 kz15
      try simp only [go_sem, List.length_range, hp, hia, hel]
      refine W_seq fun kz16 kq16 => ?_
      refine W_region [12, 31, 32, 33] fun R hR => ?_   -- r11
      simp only [go_sem, List.length_range, hp, hia, hel]
      refine GCall_of (hpc) ?_   -- t38
      simp only [go_sem, List.length_range, hp, hia, hel]
      refine hR _ _ (kq16 _ _ ?_); clear hR R; try clear kq16 kz16
      try simp only [go_sem, List.length_range, hp, hia, hel]
      refine W_seq fun kz17 kq17 => ?_
      refine W_region [12, 31, 32, 33, 40] fun R hR => ?_   -- r12
      simp only [go_sem, List.length_range, hp, hia, hel]
      refine hR _ _ (kq17 _ _ ?_); clear hR R; try clear kq17 kz17
      try simp only [go_sem, List.length_range, hp, hia, hel]
      refine W_cond rfl (fun c3 => ?_) (fun c3 => ?_)
      · -- c3 true
        try simp only [nrm] at c3
        refine W_seq fun kz18 kq18 => ?_
        refine W_region [6] fun R hR => ?_   -- r13
        simp only [go_sem, List.length_range, hp, hia, hel]
        refine hR _ _ (kq18 _ _ ?_); clear hR R; try clear kq18 kz18
        try simp only [go_sem, List.length_range, hp, hia, hel]
        refine W_ret ?_
        simp only [go_sem, List.length_range, hp, hia, hel]
        refine ⟨.inr (by trivial), ?_⟩
        first | refine Fin_same hcl rfl (Wk_eq ?_ (by simp only [go_sem])) | refine Fin_self hcl rfl (Wk_eq ?_ (by simp only [go_sem]))
        try simp only [go_sem]
        all_goals
          rw [hinv, if_pos c3]
      · -- c3 false
        try simp only [nrm] at c3
        refine W_skip (kq14 _ _ ?_)
        refine W_region [31, 32, 33] fun R hR => ?_   -- r14
        simp only [go_sem, List.length_range, hp, hia, hel]
        try simp (disch := omega) only [wrapI, wrapU]
        refine hR _ _ ?_; clear hR R
        try simp only [go_sem, List.length_range, hp, hia, hel]
        refine ⟨q + 1, ?_, by (try simp only []); omega, ?_⟩
        · first | exact Weak.refl | exact Weak.eq (by first | rfl | (simp only [go_sem]; done) | (simp only [go_sem]; rfl) | (simp [go_sem]; done) | (simp [go_sem]; omega)) (by first | rfl | (simp only [go_sem]; done) | (simp [go_sem]; done))
        · try dsimp only
          rw [if_neg (by simpa using c3)] at hinv
          exact ⟨hq', hinv⟩
    · -- c2 false
      try simp only [nrm] at c2
      have hcrl : (cmpRules ord a b).length = ord.length + 2 := by simp [cmpRules]
      rw [List.drop_eq_nil_of_le (by omega)] at hinv
      refine W_exit ?_
      simp only [go_sem, List.length_range]
      refine kq10 _ _ ?_
      refine W_seq fun kz19 kq19 => ?_
      refine W_region [6] fun R hR => ?_   -- r15
      simp only [go_sem, List.length_range]
      refine hR _ _ (kq19 _ _ ?_); clear hR R; try clear kq19 kz19
      try simp only [go_sem, List.length_range]
      refine W_ret ?_
      simp only [go_sem, List.length_range]
      refine ⟨.inr (by trivial), ?_⟩
      first | refine Fin_same hcl rfl (Wk_eq ?_ (by simp only [go_sem])) | refine Fin_self hcl rfl (Wk_eq ?_ (by simp only [go_sem]))
      try simp only [go_sem]
      all_goals
        rw [hinv]; rfl
end Go.Proofs.YtgelnjmddabgpaaGreat
namespace Go.Proofs.YtgelnjmddabgpaaGreat
open Go Go.RowKit
set_option maxRecDepth 100000
theorem filt_step {α : Type} (p : α → Bool) {l : List α} {t : Nat} {x : α} (h : l[t]? = some x) :
    (p x = true → (l.filter p)[((l.take t).filter p).length]? = some x ∧ ((l.take (t + 1)).filter p).length = ((l.take t).filter p).length + 1) ∧ (p x = false → ((l.take (t + 1)).filter p).length = ((l.take t).filter p).length) := by
  have e : l.take (t + 1) = l.take t ++ [x] := by rw [List.take_add_one, h]; rfl
  have hi := (List.getElem?_eq_some_iff.1 h).1
  have hx := (List.getElem?_eq_some_iff.1 h).2
  refine ⟨fun hp => ⟨?_, by rw [e, List.filter_append]; simp [hp]⟩, fun hp => by rw [e, List.filter_append]; simp [hp]⟩
  have e2 : l = l.take t ++ x :: l.drop (t + 1) := by
    conv => lhs; rw [← List.take_append_drop t l]
    rw [List.drop_eq_getElem_cons hi, hx]
  conv => lhs; arg 1; rw [e2]
  rw [List.filter_append, List.getElem?_append_right (Nat.le_refl _), Nat.sub_self]
  simp [hp]
theorem flat_get {β : Type} {J : Nat} {f : Nat → Nat → β} : ∀ (M m n : Nat), m < M → n < J → ((List.range M).flatMap fun m => (List.range J).map (f m))[m * J + n]? = some (f m n) := by
  intro M
  induction M with
  | zero => intro m n h; omega
  | succ M ih =>
    intro m n hm hn
    rw [List.range_succ, List.flatMap_append]
    have hlen : ((List.range M).flatMap fun m => (List.range J).map (f m)).length = M * J := by simp [List.length_flatMap, List.map_const']
    by_cases h : m < M
    · have : m * J + J ≤ M * J := by rw [← Nat.succ_mul]; exact Nat.mul_le_mul_right _ h
      rw [List.getElem?_append_left (by rw [hlen]; omega)]
      exact ih m n h hn
    · have e : m = M := by omega
      subst e
      rw [List.getElem?_append_right (by rw [hlen]; omega), hlen, Nat.add_sub_cancel_left]
      simp [hn]
theorem allJ_eq {s : Scale} {M J : Nat} (hM : s.matters = M) (hJ : s.judges = J) : allJ s = (List.range M).flatMap fun (m : Nat) => (List.range J).map fun (n : Nat) => ((m : Int), (n : Int)) := by
  simp only [allJ, toI, hM, hJ, Int.toNat_natCast, List.flatMap_map, List.map_map]
  rfl
theorem allJ_get {s : Scale} {M J m n : Nat} (hM : s.matters = M) (hJ : s.judges = J) (hm : m < M) (hn : n < J) : (allJ s)[m * J + n]? = some ((m : Int), (n : Int)) := by
  rw [allJ_eq hM hJ]; exact flat_get (f := fun m n => ((m : Int), (n : Int))) M m n hm hn
theorem allJ_len {s : Scale} {M J : Nat} (hM : s.matters = M) (hJ : s.judges = J) : (allJ s).length = M * J := by
  rw [allJ_eq hM hJ]; simp [List.length_flatMap, List.map_const']
theorem ysget_of {ρ : Sg} {l : List (Option (List PV))} {rm : List Nat} {s : LState} {q : Nat} (h : ρ.ys.length = q) : (ρ.ext l rm [s]).ys[q]? = some s := by subst h; exact Sg.ysget_ext0 ..
theorem setY_of {ρ : Sg} {l : List (Option (List PV))} {rm : List Nat} {s s' : LState} {q : Nat} (h : ρ.ys.length = q) : (ρ.ext l rm [s]).setY q s' = ρ.ext l rm [s'] := by subst h; simp only [go_sem]
theorem popY_of {ρ : Sg} {l : List (Option (List PV))} {rm : List Nat} {s : LState} {q : Nat} (h : ρ.ys.length = q) : (ρ.ext l rm [s]).popY q = ρ.ext l rm := by subst h; simp only [go_sem]
theorem Fin_len {P : Program} {fn : Func} {σ ρ σ' σ'' : Sg} {E : Env} {v : PV} (h1 : ρ.store.length = σ.store.length) (h2 : ρ.rooms.length = σ.rooms.length) (h3 : ρ.ys.length = σ.ys.length) (h : Fin P fn ρ v σ'' E σ') : Fin P fn σ v σ'' E σ' := by
  unfold Fin at h ⊢
  rw [← h1, ← h2, ← h3]
  exact h
/-- How many of the first judges are sealed. -/
def cntS (s : Scale) (k : Kn) (t : Nat) : Nat := (((allJ s).take t).filter fun j => (aget j k).isNone).length
theorem cntS_all {s : Scale} {M J : Nat} (hM : s.matters = M) (hJ : s.judges = J) (k : Kn) : cntS s k (M * J) = (sealedK s k).length := by
  rw [cntS, ← allJ_len hM hJ, List.take_length]; rfl
theorem cntS_le (s : Scale) (k : Kn) (t : Nat) : cntS s k t ≤ (sealedK s k).length := by
  unfold cntS sealedK
  exact (List.Sublist.filter _ (List.take_sublist t _)).length_le
theorem cntS_step {s : Scale} {M J m n : Nat} (hM : s.matters = M) (hJ : s.judges = J) (hm : m < M) (hn : n < J) (k : Kn) :
    ((aget ((m : Int), (n : Int)) k).isNone = true → (sealedK s k)[cntS s k (m * J + n)]? = some ((m : Int), (n : Int)) ∧ cntS s k (m * J + n + 1) = cntS s k (m * J + n) + 1) ∧ ((aget ((m : Int), (n : Int)) k).isNone = false → cntS s k (m * J + n + 1) = cntS s k (m * J + n)) :=
  filt_step (fun j => (aget j k).isNone) (allJ_get hM hJ hm hn)
set_option maxHeartbeats 2000000 in
theorem sealedA_pc (Y : YEnv) (σ : Sg) (y ids idk id : Nat) (s : Scale) (hv : s.V) (k : Kn) (τ : Nat → Sg)
    (h1 : ∀ c, c ≤ (sealedK s k).length → (τ c).store[ids]? = some (some (scCells s))) (h2 : ∀ c, c ≤ (sealedK s k).length → (τ c).store[idk]? = some (some [.map id])) (h3 : ∀ c, c ≤ (sealedK s k).length → (τ c).store[id]? = some (some (.mark :: knE k)))
    (hL : ∀ c, c ≤ (sealedK s k).length → (τ c).store.length = (τ 0).store.length ∧ (τ c).rooms.length = (τ 0).rooms.length ∧ (τ c).ys.length = (τ 0).ys.length)
    (hcl' : CleanSg (τ 0) → ∀ c, c ≤ (sealedK s k).length → CleanSg (τ c))
    (hY : ∀ c (m n : Nat), (sealedK s k)[c]? = some ((m : Int), (n : Int)) → Y y [.agg [I m, I n]] ((τ c).ext [some [.yield y], some (scCells s), some [I m, I n]] [] [.busy]) true ((τ (c + 1)).ext [some [.yield y], some (scCells s), some [I m, I n]] [] [.busy])) :
    PC Tryz.prog Y 81 [.yield y, .ptr ids 0, .ptr idk 0] (τ 0) (.tuple []) (τ (sealedK s k).length) := by
  refine PC_of_W Tryz.func81 rfl (by kernel_rfl) Tryz.ntmps81 (by simp) fun hcl hca => ?_
  have q1 := hv.mt
  have q2 := hv.jd
  obtain ⟨M, hM⟩ : ∃ z : Nat, s.matters = z := ⟨s.matters.toNat, by omega⟩
  obtain ⟨J, hJ⟩ : ∃ z : Nat, s.judges = z := ⟨s.judges.toNat, by omega⟩
  have hMb : M < 2 ^ 40 := by omega
  have hJb : J < 2 ^ 40 := by omega
  have h10 := h1 0 (Nat.zero_le _)
  refine W_seq fun kz1 kq1 => ?_
  refine W_region [1, 2, 3] fun R hR => ?_   -- r0
  simp only [go_sem, ldA_at (get_extx h10)]
  refine hR _ _ (kq1 _ _ ?_); clear hR R; try clear kq1 kz1
  try simp only [go_sem, ldA_at (get_extx h10)]
  refine W_seq fun kz2 kq2 => ?_
  refine W_region [2, 3, 8] fun R hR => ?_   -- r1
  simp only [go_sem, ldA_at (get_extx h10)]
  refine GCall_of (judges_pc Y _ s) ?_   -- t8
  simp only [go_sem, ldA_at (get_extx h10)]
  refine hR _ _ (kq2 _ _ ?_); clear hR R; try clear kq2 kz2
  try simp only [go_sem, ldA_at (get_extx h10)]
  refine W_block ?_
  let so : Nat → Sg := fun t => (τ (cntS s k t)).ext [some [.yield y], some (scCells s)] [] [.ready]
  have hcle : ∀ t, cntS s k t ≤ (sealedK s k).length := cntS_le s k
  have hyl : y < (τ 0).ys.length := by
    have := hca (.yield y) (by simp)
    cases this; assumption
  have hLc : ∀ (n r yy : Nat), y < yy → CleanLs n r yy [some [.yield y], some (scCells s)] := fun n r yy h => by
    have c2 := cleans_sc (a := n) (b := r) (c := yy) s
    refine CleanL_cons ?_ (CleanL_cons c2 CleanL_nil)
    exact Clean.all_cons (.yield _ h) Clean.all_nil
  refine W_rangeFunc (gf := 98) (v := .tuple []) (s := .ready) (σ5 := so (M * J)) rfl (by simp) (fun args ρ b' ρ' => ∃ m n : Nat, m < M ∧ n < J ∧ args = [.agg [I m, I n]] ∧ b' = true ∧ ρ = so (m * J + n) ∧ ρ' = so (m * J + n + 1)) ?_ ?_ ?_ ?_ ?_
  · rintro args τ b τ' ⟨m, n, hm, hn, rfl, rfl, rfl, rfl⟩
    refine ⟨rfl, ?_, ?_⟩
    · (simp only [so, go_sem]; exact ysget_of (hL _ (hcle _)).2.2)
    · simp only [so, go_sem]
      refine W_region [2, 3, 4] fun R hR => ?_   -- r2
      simp only [go_sem, ldA_at (get_extx h10), putAll]
      refine hR _ _ ?_; clear hR R
      try simp only [go_sem, ldA_at (get_extx h10), putAll]
      obtain ⟨st1, st2⟩ := cntS_step hM hJ hm hn k
      obtain ⟨c, hc⟩ : ∃ z, cntS s k (m * J + n) = z := ⟨_, rfl⟩
      have hcl1 := hcle (m * J + n)
      rw [hc] at st1 st2 hcl1
      simp only [hc]
      obtain ⟨b1, b2, b3⟩ := hL c hcl1
      have k2 := h2 c hcl1
      have k3 := h3 c hcl1
      rw [← b1, ← b3]
      obtain ⟨is, his⟩ : ∃ z, (aget ((m : Int), (n : Int)) k).isSome = z := ⟨_, rfl⟩
      simp only [go_sem]
      refine W_post_weak ?_
      refine W_block ?_
      refine W_seq fun kz3 kq3 => ?_
      refine W_region [3, 4, 6] fun R hR => ?_   -- r3
      simp only [go_sem, ldA_at (get_extx h10), putAll, ldS_at (get_extx k2), lkX_at (get_extx k3), his]
      refine hR _ _ (kq3 _ _ ?_); clear hR R; try clear kq3 kz3
      try simp only [go_sem, ldA_at (get_extx h10), putAll]
      refine W_seq fun kz4 kq4 => ?_
      refine W_region [23] fun R hR => ?_   -- r4
      simp only [go_sem, ldA_at (get_extx h10), putAll, ldS_at (get_extx k2)]
      refine GWant_split (fun g1 => ?_) (fun g1 => ?_)
      · try simp only [Bool.not_eq_true', Bool.not_eq_false'] at g1
        have n1 := g1; try simp only [nrm] at n1
        simp only [go_sem, ldA_at (get_extx h10), putAll, ldS_at (get_extx k2), g1]
        refine GYield_of (hY c m n (st1 (by rw [← Option.not_isSome, his, g1]; rfl)).1) ?_
        simp only [go_sem, ldA_at (get_extx h10), putAll, ldS_at (get_extx k2), g1]
        refine hR _ _ (kq4 _ _ ?_); clear hR R; try clear kq4 kz4
        try simp only [go_sem, ldA_at (get_extx h10), putAll]
        refine W_cond_false rfl ?_
        refine W_skip ?_
        simp only [go_sem, ldA_at (get_extx h10), putAll]
        obtain ⟨e1, e2⟩ := st1 (by rw [← Option.not_isSome, his, g1]; rfl)
        have hcl2 : c + 1 ≤ (sealedK s k).length := (List.getElem?_eq_some_iff.1 e1).1
        obtain ⟨d1, d2, d3⟩ := hL (c + 1) hcl2
        refine ⟨[], _, Weak.cutExt 2 0 (by rw [d1, ← b1]; simp only [go_sem] <;> omega) (by rw [d2, ← b2]; simp only [go_sem] <;> omega) (hcl' hcl _ hcl2) ?_ Wk.nil_get, ?_⟩
        · exact hLc _ _ _ (by rw [d3]; simp only [go_sem] <;> omega)
        · simp only [e2]
          exact ⟨ysget_of (d3.trans b3.symm), rfl, (setY_of (d3.trans b3.symm)).symm⟩
      · try simp only [Bool.not_eq_true', Bool.not_eq_false'] at g1
        have n1 := g1; try simp only [nrm] at n1
        simp only [go_sem, ldA_at (get_extx h10), putAll, ldS_at (get_extx k2), g1]
        refine hR _ _ (kq4 _ _ ?_); clear hR R; try clear kq4 kz4
        try simp only [go_sem, ldA_at (get_extx h10), putAll]
        refine W_cond_false rfl ?_
        refine W_skip ?_
        simp only [go_sem, ldA_at (get_extx h10), putAll]
        refine ⟨[], _, Weak.cutExt 2 0 (Nat.le_refl _) (Nat.le_refl _) (hcl' hcl _ hcl1) ?_ Wk.nil_get, ?_⟩
        · exact hLc _ _ _ (by rw [b3]; simp only [go_sem] <;> omega)
        · have e := st2 (by rw [← Option.not_isSome, his, g1]; rfl)
          simp only [e, RoundEnd, go_sem]
  · have hst := judges1_pc (Y.at (τ 0).ys.length (fun args ρ b' ρ' => ∃ m n : Nat, m < M ∧ n < J ∧ args = [.agg [I m, I n]] ∧ b' = true ∧ ρ = so (m * J + n) ∧ ρ' = so (m * J + n + 1))) (τ 0) (τ 0).ys.length ((τ 0).store.length + 1) s so M J (M * J) false hM hJ hMb hJb
      (fun t _ => by simp only [so]; rw [← (hL _ (hcle t)).1]; exact Sg.get_ext ..) (Nat.le_refl _) (fun _ => rfl) (fun h => by cases h)
      (fun m n h1 h2 _ => by rw [YEnv.at_self]; exact ⟨m, n, h1, h2, rfl, rfl, rfl, rfl⟩) (by simp only [so, go_sem, (hL _ (hcle (M * J))).1, (hL _ (hcle 0)).1]) (by simp only [so, go_sem, (hL _ (hcle (M * J))).2.1, (hL _ (hcle 0)).2.1]) (by simp only [so, go_sem, (hL _ (hcle (M * J))).2.2, (hL _ (hcle 0)).2.2])
      (fun _ => CleanSg_ext (hcl' hcl _ (hcle _)) (hLc _ _ _ (by rw [(hL _ (hcle (M * J))).2.2]; simp only [go_sem] <;> omega)))
    have e0 : so 0 = (τ 0).ext [some [.yield y], some (scCells s)] [] [.ready] := rfl
    rw [e0] at hst
    simp only [go_sem] at hst ⊢
    exact hst
  · (simp only [so, go_sem]; exact ysget_of (hL _ (hcle _)).2.2)
  · simp only [go_sem]
    have hb := hL _ (hcle (M * J))
    rw [← hb.2.2]
    exact CleanCut_ext (hcl' hcl _ (hcle _)) (by simp only [so, go_sem] <;> omega) (by simp only [so, go_sem] <;> omega) (by omega) (hLc _ _ _ (by rw [hb.2.2]; exact hyl))
  · simp only [go_sem]
    rw [popY_of (hL _ (hcle (M * J))).2.2]
    simp only [AfterLoop, go_sem]
    have hca2 := cntS_all hM hJ k
    simp only [hca2]
    obtain ⟨d1, d2, d3⟩ := hL _ (Nat.le_refl (sealedK s k).length)
    try simp only [go_sem, ldA_at (get_extx h10)]
    refine ⟨.inl (by trivial), ?_⟩
    exact Fin_len d1 d2 d3 (Fin_same (rs := []) (hcl' hcl _ (Nat.le_refl _)) rfl (Wk.of_clean (.tuple _ Clean.all_nil)))
    try simp only [go_sem]
    all_goals
      skip
/-- The first judge of whom nothing is known. -/
theorem cntS_first {s : Scale} {M J : Nat} (hM : s.matters = M) (hJ : s.judges = J) {k : Kn} (h : sealedK s k ≠ []) : ∃ e, 0 < e ∧ e ≤ M * J ∧ (∀ t, t < e → cntS s k t = 0) ∧ cntS s k e ≠ 0 := by
  have hex : ∃ t, cntS s k t ≠ 0 := ⟨M * J, by rw [cntS_all hM hJ]; intro e; exact h (List.eq_nil_of_length_eq_zero e)⟩
  obtain ⟨e, he, hmin⟩ := least (fun t => cntS s k t ≠ 0) hex
  have h0 : e ≠ 0 := by rintro rfl; exact he rfl
  refine ⟨e, by omega, ?_, fun t ht => ?_, he⟩
  · exact hmin (M * J) (by rw [cntS_all hM hJ]; intro e; exact h (List.eq_nil_of_length_eq_zero e))
  · by_cases q : cntS s k t = 0
    · exact q
    · have := hmin t q; omega
set_option maxHeartbeats 2000000 in
theorem sealedB_pc (Y : YEnv) (σ : Sg) (y ids idk id : Nat) (s : Scale) (hv : s.V) (k : Kn) (τ τ1 : Sg) (h10 : τ.store[ids]? = some (some (scCells s))) (k2 : τ.store[idk]? = some (some [.map id])) (k3 : τ.store[id]? = some (some (.mark :: knE k)))
    (b1 : τ1.store.length = τ.store.length) (b2 : τ1.rooms.length = τ.rooms.length) (b3 : τ1.ys.length = τ.ys.length) (hcl' : CleanSg τ → CleanSg τ1) (hne : sealedK s k ≠ [])
    (hY : ∀ (m n : Nat), (sealedK s k)[0]? = some ((m : Int), (n : Int)) → Y y [.agg [I m, I n]] (τ.ext [some [.yield y], some (scCells s), some [I m, I n]] [] [.busy]) false (τ1.ext [some [.yield y], some (scCells s), some [I m, I n]] [] [.busy])) :
    PC Tryz.prog Y 81 [.yield y, .ptr ids 0, .ptr idk 0] τ (.tuple []) (τ1) := by
  refine PC_of_W Tryz.func81 rfl (by kernel_rfl) Tryz.ntmps81 (by simp) fun hcl hca => ?_
  have q1 := hv.mt
  have q2 := hv.jd
  obtain ⟨M, hM⟩ : ∃ z : Nat, s.matters = z := ⟨s.matters.toNat, by omega⟩
  obtain ⟨J, hJ⟩ : ∃ z : Nat, s.judges = z := ⟨s.judges.toNat, by omega⟩
  have hMb : M < 2 ^ 40 := by omega
  have hJb : J < 2 ^ 40 := by omega
  refine W_seq fun kz1 kq1 => ?_
  refine W_region [1, 2, 3] fun R hR => ?_   -- r0
  simp only [go_sem, ldA_at (get_extx h10)]
  refine hR _ _ (kq1 _ _ ?_); clear hR R; try clear kq1 kz1
  try simp only [go_sem, ldA_at (get_extx h10)]
  refine W_seq fun kz2 kq2 => ?_
  refine W_region [2, 3, 8] fun R hR => ?_   -- r1
  simp only [go_sem, ldA_at (get_extx h10)]
  refine GCall_of (judges_pc Y _ s) ?_   -- t8
  simp only [go_sem, ldA_at (get_extx h10)]
  refine hR _ _ (kq2 _ _ ?_); clear hR R; try clear kq2 kz2
  try simp only [go_sem, ldA_at (get_extx h10)]
  refine W_block ?_
  obtain ⟨e, he0, he1, he2, he3⟩ := cntS_first hM hJ hne
  let so : Nat → Sg := fun t => if t < e then τ.ext [some [.yield y], some (scCells s)] [] [.ready] else τ1.ext [some [.yield y], some (scCells s)] [] [.done .ret]
  have so1 : ∀ t, t < e → so t = τ.ext [some [.yield y], some (scCells s)] [] [.ready] := fun t h => if_pos h
  have so2 : so e = τ1.ext [some [.yield y], some (scCells s)] [] [.done .ret] := if_neg (Nat.lt_irrefl _)
  have hyl : y < τ.ys.length := by
    have := hca (.yield y) (by simp)
    cases this; assumption
  have hLc : ∀ (n r yy : Nat), y < yy → CleanLs n r yy [some [.yield y], some (scCells s)] := fun n r yy h => by
    have c2 := cleans_sc (a := n) (b := r) (c := yy) s
    refine CleanL_cons ?_ (CleanL_cons c2 CleanL_nil)
    exact Clean.all_cons (.yield _ h) Clean.all_nil
  refine W_rangeFunc (gf := 98) (v := .tuple []) (s := .done .ret) (σ5 := so e) rfl (by simp) (fun args ρ b' ρ' => ∃ m n : Nat, m < M ∧ n < J ∧ m * J + n < e ∧ args = [.agg [I m, I n]] ∧ b' = (!(true && decide (m * J + n + 1 = e))) ∧ ρ = so (m * J + n) ∧ ρ' = so (m * J + n + 1)) ?_ ?_ ?_ ?_ ?_
  · rintro args τ b τ' ⟨m, n, hm, hn, hpe, rfl, rfl, rfl, rfl⟩
    refine ⟨rfl, ?_, ?_⟩
    · (rw [so1 _ hpe]; simp only [go_sem])
    · (rw [so1 _ hpe]; simp only [go_sem])
      refine W_region [2, 3, 4] fun R hR => ?_   -- r2
      simp only [go_sem, ldA_at (get_extx h10), putAll]
      refine hR _ _ ?_; clear hR R
      try simp only [go_sem, ldA_at (get_extx h10), putAll]
      obtain ⟨st1, st2⟩ := cntS_step hM hJ hm hn k
      rw [he2 _ hpe] at st1 st2
      obtain ⟨is, his⟩ : ∃ z, (aget ((m : Int), (n : Int)) k).isSome = z := ⟨_, rfl⟩
      refine W_post_weak ?_
      refine W_block ?_
      refine W_seq fun kz3 kq3 => ?_
      refine W_region [3, 4, 6] fun R hR => ?_   -- r3
      simp only [go_sem, ldA_at (get_extx h10), putAll, ldS_at (get_extx k2), lkX_at (get_extx k3), his]
      refine hR _ _ (kq3 _ _ ?_); clear hR R; try clear kq3 kz3
      try simp only [go_sem, ldA_at (get_extx h10), putAll]
      refine W_seq fun kz4 kq4 => ?_
      refine W_region [23] fun R hR => ?_   -- r4
      simp only [go_sem, ldA_at (get_extx h10), putAll, ldS_at (get_extx k2)]
      refine GWant_split (fun g1 => ?_) (fun g1 => ?_)
      · try simp only [Bool.not_eq_true', Bool.not_eq_false'] at g1
        have n1 := g1; try simp only [nrm] at n1
        simp only [go_sem, ldA_at (get_extx h10), putAll, ldS_at (get_extx k2), g1]
        refine GYield_of (hY m n (st1 (by rw [← Option.not_isSome, his, g1]; rfl)).1) ?_
        simp only [go_sem, ldA_at (get_extx h10), putAll, ldS_at (get_extx k2), g1]
        refine hR _ _ (kq4 _ _ ?_); clear hR R; try clear kq4 kz4
        try simp only [go_sem, ldA_at (get_extx h10), putAll]
        refine W_cond_true rfl ?_
        refine W_ret ?_
        simp only [go_sem, ldA_at (get_extx h10), putAll]
        obtain ⟨e1, e2⟩ := st1 (by rw [← Option.not_isSome, his, g1]; rfl)
        have hpe2 : m * J + n + 1 = e := by
          by_cases q : m * J + n + 1 < e
          · have := he2 _ q; omega
          · omega
        refine ⟨[], _, Weak.cutExt 2 0 (by rw [b1]; exact Nat.le_refl _) (by rw [b2]; exact Nat.le_refl _) (hcl' hcl) ?_ Wk.nil_get, ?_⟩
        · exact hLc _ _ _ (by rw [b3]; simp only [go_sem] <;> omega)
        · rw [hpe2, so2]
          exact ⟨ysget_of b3, by simp, (setY_of b3).symm⟩
      · try simp only [Bool.not_eq_true', Bool.not_eq_false'] at g1
        have n1 := g1; try simp only [nrm] at n1
        simp only [go_sem, ldA_at (get_extx h10), putAll, ldS_at (get_extx k2), g1]
        refine hR _ _ (kq4 _ _ ?_); clear hR R; try clear kq4 kz4
        try simp only [go_sem, ldA_at (get_extx h10), putAll]
        refine W_cond_false rfl ?_
        refine W_skip ?_
        simp only [go_sem, ldA_at (get_extx h10), putAll]
        have e1 := st2 (by rw [← Option.not_isSome, his, g1]; rfl)
        have hne2 : ¬ (m * J + n + 1 = e) := fun h => he3 (by rw [← h]; exact e1)
        refine ⟨[], _, Weak.cutExt 2 0 (Nat.le_refl _) (Nat.le_refl _) hcl ?_ Wk.nil_get, ?_⟩
        · exact hLc _ _ _ (by simp only [go_sem] <;> omega)
        · rw [so1 _ (by omega)]
          simp only [RoundEnd, go_sem]
          simp [hne2]
  · have hst := judges1_pc (Y.at τ.ys.length (fun args ρ b' ρ' => ∃ m n : Nat, m < M ∧ n < J ∧ m * J + n < e ∧ args = [.agg [I m, I n]] ∧ b' = (!(true && decide (m * J + n + 1 = e))) ∧ ρ = so (m * J + n) ∧ ρ' = so (m * J + n + 1))) τ τ.ys.length (τ.store.length + 1) s so M J e true hM hJ hMb hJb
      (fun t ht => by
        by_cases q : t < e
        · rw [so1 t q]; exact Sg.get_ext ..
        · have : t = e := by omega
          subst this
          rw [so2, ← b1]; exact Sg.get_ext ..) he1 (fun h => by cases h) (fun _ => he0)
      (fun m n h1 h2 h3 => by rw [YEnv.at_self]; exact ⟨m, n, h1, h2, h3, rfl, rfl, rfl, rfl⟩) (by rw [so2, so1 0 he0]; simp only [go_sem, b1]) (by rw [so2, so1 0 he0]; simp only [go_sem, b2]) (by rw [so2, so1 0 he0]; simp only [go_sem, b3])
      (fun _ => by rw [so2]; exact CleanSg_ext (hcl' hcl) (hLc _ _ _ (by rw [b3]; simp only [go_sem] <;> omega)))
    rw [so1 0 he0] at hst
    simp only [go_sem] at hst ⊢
    exact hst
  · (rw [so2]; simp only [go_sem]; exact ysget_of b3)
  · simp only [go_sem]
    rw [so2, ← b3]
    exact CleanCut_ext (hcl' hcl) (by simp only [go_sem] <;> omega) (by simp only [go_sem] <;> omega) (Nat.le_refl _) (hLc _ _ _ (by rw [b3]; exact hyl))
  · simp only [go_sem]
    rw [so2, popY_of b3]
    simp only [AfterLoop]
    refine W_ret ?_
    simp only [go_sem]
    refine ⟨.inr (by trivial), ?_⟩
    exact Fin_len b1 b2 b3 (Fin_same (rs := []) (hcl' hcl) rfl (Wk.of_clean (.tuple _ Clean.all_nil)))
end Go.Proofs.YtgelnjmddabgpaaGreat
namespace Go.Proofs.YtgelnjmddabgpaaGreat
open Go Go.RowKit
set_option maxRecDepth 100000
theorem aput_ok {s : Scale} {k : Kn} (hk : KnOk s k) {j : Int × Int} {l : List Int} (hl : l = [] ∨ ((l.length : Int) = s.schools ∧ ∀ x, x ∈ l → s.low ≤ x ∧ x ≤ s.high)) : KnOk s (aput j l k) := fun e he => by
  rcases aput_mem he with rfl | he
  · exact hl
  · exact hk e he
theorem openK_ok {s : Scale} : ∀ {l : List Envl} {k : Kn}, KnOk s k → KnOk s (openK s l k).2 := by
  intro l
  induction l with
  | nil => intro k h; exact h
  | cons x l ih =>
    intro k h
    simp only [openK]
    split
    · exact h
    · rename_i h1
      split
      · exact h
      · obtain ⟨_, q2, q3⟩ := marked_ok (s := s) (j := (x.matter, x.judge)) (l := x.marks) (by omega)
        have hn := ih (aput_ok (j := (x.matter, x.judge)) h (.inr ⟨q2, q3⟩))
        repeat' split
        all_goals first | exact h | exact hn
theorem missK_ok {s : Scale} : ∀ {l : List (Int × Int)} {k : Kn}, KnOk s k → KnOk s (missK s l k).2 := by
  intro l
  induction l with
  | nil => intro k h; exact h
  | cons x l ih =>
    intro k h
    simp only [missK]
    split
    · exact h
    · split
      · exact h
      · exact ih (aput_ok h (.inl rfl))
theorem finesR_ok {s : Scale} : ∀ {l : List (Int × Int)}, finesR s l = 0 → ∀ f, f ∈ l → (0 ≤ f.1 ∧ f.1 ≤ s.schools - 1) ∧ 0 ≤ f.2 ∧ f.2 ≤ 1000 := by
  intro l
  induction l with
  | nil => intro _ f hf; cases hf
  | cons x l ih =>
    intro h f hf
    simp only [finesR] at h
    split at h
    · cases h
    · rename_i h1
      split at h
      · cases h
      · rename_i h2
        rcases List.mem_cons.1 hf with rfl | hf
        · simp only [Bool.not_eq_true, Bool.not_eq_false', inR_true] at h1 h2
          exact ⟨h1, h2⟩
        · exact ih h f hf
theorem known_V {s : Scale} {g : Night} (h : knownE s g = 0) : KnV s (knownK s g) g := by
  obtain ⟨hv, h1, h2, h3, h4, h5, h6⟩ := known_ok h
  unfold finesE at h6
  split at h6
  · cases h6
  · rename_i hf
    exact ⟨hv, missK_ok (openK_ok fun e he => by cases he), h5, by omega, finesR_ok h6⟩
theorem chkOrd_ok {m : Int} : ∀ {l p : List Int}, chkOrd m p l = 0 → (∀ x, x ∈ l → 0 ≤ x ∧ x ≤ m - 1) ∧ l.Nodup ∧ ∀ x, x ∈ l → x ∉ p := by
  intro l
  induction l with
  | nil => intro p _; exact ⟨fun x hx => (by cases hx), List.nodup_nil, fun x hx => (by cases hx)⟩
  | cons n l ih =>
    intro p h
    simp only [chkOrd] at h
    split at h
    · cases h
    · rename_i h1
      split at h
      · cases h
      · rename_i h2
        obtain ⟨a1, a2, a3⟩ := ih h
        simp only [Bool.not_eq_true, Bool.not_eq_false', inR_true] at h1
        refine ⟨fun x hx => ?_, List.nodup_cons.2 ⟨fun hm => a3 n hm (by simp), a2⟩, fun x hx hp => ?_⟩
        · rcases List.mem_cons.1 hx with rfl | hx
          · exact h1
          · exact a1 x hx
        · rcases List.mem_cons.1 hx with rfl | hx
          · exact h2 (has_iff.2 hp)
          · exact a3 x hx (List.mem_append.2 (.inl hp))
theorem ptsL_get {s : Scale} {M i : Nat} (hM : s.matters = M) (hi : i < M) (k : Kn) (sc u : Int) : (pointsL s k sc u)[i]? = some (pointsK s k sc i u) := by
  simp [pointsL, toI, hM, hi]
theorem fines_bd {s : Scale} {k : Kn} {g : Night} (hV : KnV s k g) (sc : Int) : 0 ≤ finesOf g.fines sc ∧ finesOf g.fines sc ≤ 10000 := by
  have := sumI_bd (b := 1000) (l := g.fines.map fun f => if f.1 = sc then f.2 else 0) fun x hx => by
    obtain ⟨f, hf, rfl⟩ := List.mem_map.1 hx
    have := hV.fi f hf
    split <;> omega
  have hl := hV.fl
  unfold finesOf
  simp only [List.length_map] at this
  omega
theorem stand_bd {s : Scale} {k : Kn} {g : Night} (hV : KnV s k g) {u : Int} (hu : 0 ≤ u ∧ u ≤ 100) (sc : Int) : -10000 ≤ (standK s k g sc u).total ∧ (standK s k g sc u).total ≤ 3000 := by
  have h1 := sumI_bd (b := 500) (l := pointsL s k sc u) fun x hx => by
    obtain ⟨m, _, rfl⟩ := List.mem_map.1 hx
    exact points_bd hV.v hV.ok hu sc m
  have h2 := fines_bd hV sc
  have q := hV.v.mt
  have hl : (pointsL s k sc u).length = s.matters.toNat := by simp [pointsL, toI]
  simp only [standK]
  rw [hl] at h1
  omega
theorem cmp_ok {s : Scale} {k : Kn} {g : Night} (hV : KnV s k g) {u v : Int} (hu : 0 ≤ u ∧ u ≤ 100) (hv : 0 ≤ v ∧ v ≤ 100) {a b : Int} (ha : 0 ≤ a ∧ a < s.schools) (hb : 0 ≤ b ∧ b < s.schools) : CmpOk s.order (standK s k g a u) (standK s k g b v) := by
  have q1 := hV.v.mt
  have q3 := hV.v.sc
  have h1 := stand_bd hV hu a
  have h2 := stand_bd hV hv b
  obtain ⟨M, hM⟩ : ∃ z : Nat, s.matters = z := ⟨s.matters.toNat, by omega⟩
  refine ⟨by omega, by omega, by simp only [standK]; omega, by simp only [standK]; omega, fun m hm => ?_⟩
  have := (chkOrd_ok hV.v.od).1 m hm
  obtain ⟨i, rfl⟩ : ∃ i : Nat, m = i := ⟨m.toNat, by omega⟩
  have p1 := points_bd hV.v hV.ok hu a i
  have p2 := points_bd hV.v hV.ok hv b i
  exact ⟨i, _, _, rfl, ptsL_get hM (by omega) k a u, ptsL_get hM (by omega) k b v, by omega, by omega⟩
def spUp (s : Scale) (k : Kn) (g : Night) (i : Nat) : List (Int × Int) := (List.range i).map fun (j : Nat) => ((standK s k g j s.low).total, (standK s k g j s.high).total)
theorem spUp_succ (s : Scale) (k : Kn) (g : Night) (i : Nat) : spUp s k g (i + 1) = spUp s k g i ++ [((standK s k g i s.low).total, (standK s k g i s.high).total)] := by simp [spUp, List.range_succ]
def plUp (s : Scale) (k : Kn) (g : Night) (sc own oth : Int) (i : Nat) : Nat := (((List.range i).map fun (j : Nat) => (j : Int)).filter fun j => decide (j ≠ sc) && decide (cmpSt s.order (standK s k g j oth) (standK s k g sc own) < 0)).length
theorem plUp_succ (s : Scale) (k : Kn) (g : Night) (sc own oth : Int) (i : Nat) : plUp s k g sc own oth (i + 1) = plUp s k g sc own oth i + (if (decide ((i : Int) ≠ sc) && decide (cmpSt s.order (standK s k g i oth) (standK s k g sc own) < 0)) = true then 1 else 0) := by
  unfold plUp
  rw [List.range_succ, List.map_append, List.filter_append, List.length_append]
  congr 1
  simp only [List.map_cons, List.map_nil, List.filter_cons, List.filter_nil]
  split <;> rfl
theorem plUp_le (s : Scale) (k : Kn) (g : Night) (sc own oth : Int) (i : Nat) : plUp s k g sc own oth i ≤ i := by
  unfold plUp
  refine Nat.le_trans (List.length_filter_le _ _) (by simp)
theorem plUp_all {s : Scale} {N : Nat} (hN : s.schools = N) (k : Kn) (g : Night) (sc own oth : Int) : placeK s k g sc own oth = 1 + (plUp s k g sc own oth N : Int) := by
  simp only [placeK, plUp, toI, hN, Int.toNat_natCast]
set_option maxHeartbeats 2000000 in
theorem totE_pc (Y : YEnv) (σ : Sg) (s : Scale) (g : Night) (hs : s.Ok) (hg : g.Ok) (hE : knownE s g ≠ 0) :
    PC Tryz.prog Y 26 [scPV s, ngPV g] σ (.tuple [sts [], I (knownE s g)]) (σ) := by
  refine PC_of_W Tryz.func26 rfl (by kernel_rfl) Tryz.ntmps26 (by simp) fun hcl hca => ?_
  refine W_seq fun kz1 kq1 => ?_
  refine W_region [2, 3] fun R hR => ?_   -- r0
  simp only [go_sem]
  refine hR _ _ (kq1 _ _ ?_); clear hR R; try clear kq1 kz1
  try simp only [go_sem]
  refine W_seq fun kz2 kq2 => ?_
  refine W_region [2, 3, 6, 7] fun R hR => ?_   -- r1
  simp only [go_sem]
  refine GCall_of (knownOf_err Y _ s g hs hg hE) ?_   -- t13
  simp only [go_sem]
  refine hR _ _ (kq2 _ _ ?_); clear hR R; try clear kq2 kz2
  try simp only [go_sem]
  refine W_seq fun kz3 kq3 => ?_
  refine W_seq fun kz4 kq4 => ?_
  refine W_region [2, 3, 6, 7, 17] fun R hR => ?_   -- r2
  simp only [go_sem]
  refine hR _ _ (kq4 _ _ ?_); clear hR R; try clear kq4 kz4
  try simp only [go_sem]
  refine W_cond rfl (fun c1 => ?_) (fun c1 => ?_)
  · -- c1 true
    try simp only [nrm] at c1
    refine W_seq fun kz5 kq5 => ?_
    refine W_region [4, 5] fun R hR => ?_   -- r3
    simp only [go_sem]
    refine hR _ _ (kq5 _ _ ?_); clear hR R; try clear kq5 kz5
    try simp only [go_sem]
    refine W_ret ?_
    simp only [go_sem]
    refine ⟨.inr (by trivial), ?_⟩
    refine Fin_same hcl rfl (Wk.ro (by simp only [go_sem]) ?_)
    try simp only [go_sem]
    all_goals
      first | rfl | (simp [PV.ro, PV.roL]; done)
  · -- c1 false
    try simp only [nrm] at c1
    exfalso
    first | exact hE (by omega) | (simp at c1; exact hE (by omega))
set_option maxHeartbeats 2000000 in
theorem totO_pc (Y : YEnv) (σ : Sg) (s : Scale) (g : Night) (hs : s.Ok) (hg : g.Ok) (hE : knownE s g = 0) :
    PC Tryz.prog Y 26 [scPV s, ngPV g] σ (.tuple [sts ((toI s.schools).map fun i => ((standK s (knownK s g) g i s.low).total, (standK s (knownK s g) g i s.high).total)), I 0]) (σ) := by
  refine PC_of_W Tryz.func26 rfl (by kernel_rfl) Tryz.ntmps26 (by simp) fun hcl hca => ?_
  have hV := known_V hE
  obtain ⟨K, hK⟩ : ∃ z, knownK s g = z := ⟨_, rfl⟩
  rw [hK] at hV
  have hv := hV.v
  have q3 := hv.sc
  have q4 := hv.lo
  have q5 := hv.hi
  obtain ⟨N, hN⟩ : ∃ z : Nat, s.schools = z := ⟨s.schools.toNat, by omega⟩
  have hNi : (s.schools : Int) = (N : Int) := hN
  have hkn := fun Y σ => knownOf_ok Y σ s g hs hg hE
  rw [hK] at hkn
  rw [hK]
  have hall : ((toI s.schools).map fun i => ((standK s K g i s.low).total, (standK s K g i s.high).total)) = spUp s K g N := by simp only [toI, hN, Int.toNat_natCast, spUp, List.map_map]; rfl
  rw [hall]
  refine W_seq fun kz1 kq1 => ?_
  refine W_region [2, 3] fun R hR => ?_   -- r0
  simp only [go_sem]
  refine hR _ _ (kq1 _ _ ?_); clear hR R; try clear kq1 kz1
  try simp only [go_sem]
  refine W_seq fun kz2 kq2 => ?_
  refine W_region [2, 3, 6, 7] fun R hR => ?_   -- r1
  simp only [go_sem]
  refine GCall_of (hkn Y _) ?_   -- t13
  simp only [go_sem]
  refine hR _ _ (kq2 _ _ ?_); clear hR R; try clear kq2 kz2
  try simp only [go_sem]
  refine W_seq fun kz3 kq3 => ?_
  refine W_seq fun kz4 kq4 => ?_
  refine W_region [2, 3, 6, 7, 17] fun R hR => ?_   -- r2
  simp only [go_sem]
  refine hR _ _ (kq4 _ _ ?_); clear hR R; try clear kq4 kz4
  try simp only [go_sem]
  refine W_cond_false rfl ?_
  refine W_skip (kq3 _ _ ?_)
  refine W_seq fun kz5 kq5 => ?_
  refine W_region [2, 3, 6, 8] fun R hR => ?_   -- r4
  simp only [go_sem]
  refine hR _ _ (kq5 _ _ ?_); clear hR R; try clear kq5 kz5
  try simp only [go_sem]
  refine W_seq fun kz6 kq6 => ?_
  refine W_seq fun kz7 kq7 => ?_
  refine W_region [2, 3, 6, 8, 20, 21] fun R hR => ?_   -- r5
  simp only [go_sem]
  refine hR _ _ (kq7 _ _ ?_); clear hR R; try clear kq7 kz7
  try simp only [go_sem]
  refine W_block ?_
  refine W_weak (Weak.room (t := 8) (es := 2) rfl (by simp)) ?_
  refine W_weak (Weak.keep [2, 3, 6, 8, 20, 21]) ?_
  simp only [go_sem]
  refine W_loopT (α := Nat) (fun (i : Nat) => [(8, .isl ((spUp s K g i).map stPV) (.tok σ.rooms.length i 2)), (21, I i)]) (fun (i : Nat) => σ.ext [some (scCells s), some (ngCells g), some (scCells s), some (ngCells g), some (.mark :: knE K)] [i]) (fun (i : Nat) => i ≤ N) (fun (i : Nat) => N - i) (0) rfl (by first | rfl | (simp only [go_sem]; done) | (simp only [go_sem]; rfl)) (Nat.zero_le _) ?_
  rintro i hi
  have hsl : (spUp s K g i).length = i := by simp [spUp]
  refine W_seq fun kz8 kq8 => ?_
  refine W_region [2, 3, 6, 8, 20, 21, 22] fun R hR => ?_   -- r6
  simp only [go_sem]
  refine hR _ _ (kq8 _ _ ?_); clear hR R; try clear kq8 kz8
  try simp only [go_sem]
  refine W_seq fun kz9 kq9 => ?_
  refine W_cond rfl (fun c1 => ?_) (fun c1 => ?_)
  · -- c1 true
    try simp only [nrm] at c1
    have hiN : i < N := by first | omega | (simp at c1; omega)
    have hsu := spUp_succ s K g i
    refine W_skip (kq9 _ _ ?_)
    refine W_seq fun kz10 kq10 => ?_
    refine W_block ?_
    refine W_seq fun kz11 kq11 => ?_
    refine W_region [2, 3, 6, 8, 9, 20, 21] fun R hR => ?_   -- r7
    simp only [go_sem]
    refine hR _ _ (kq11 _ _ ?_); clear hR R; try clear kq11 kz11
    try simp only [go_sem]
    refine W_draw [2, 3, 6, 8, 20, 21] [0, 1, 2, 3, 4, 5, 6, 7, 8, 9, 10, 11, 12, 13, 14, 15, 16, 17, 18, 19, 20] [(0, 15), (0, 19), (8, 19), (9, 7), (10, 7), (11, 7), (12, 7), (13, 7), (14, 7)] [[], [], [], [], [], [], [5], [1, 2, 3, 4, 5, 6], [1, 2, 3, 4, 5, 6, 7], [], [], [], [], [], [13], [1, 2, 3, 4, 5, 6, 7, 9, 10, 11, 12, 13, 14], [1, 2, 3, 4, 5, 6, 7, 9, 10, 11, 12, 13, 14, 15], [1, 2, 3, 4, 5, 6, 7, 8, 9, 10, 11, 12, 13, 14, 15, 16], [1, 2, 3, 4, 5, 6, 7, 8, 9, 10, 11, 12, 13, 14, 15, 16, 17], [0, 1, 2, 3, 4, 5, 6, 7, 8, 9, 10, 11, 12, 13, 14, 15, 16, 17, 18], [0, 1, 2, 3, 4, 5, 6, 7, 8, 9, 10, 11, 12, 13, 14, 15, 16, 17, 18, 19]] mixed (by kernel_rfl) fun R hR => ?_   -- r8
    simp only [go_sem]
    refine GCall_of (standing_pc Y _ (σ.store.length + 4) K (Sg.get_ext ..) s g hV i (by omega) s.low (by omega)) ?_   -- t31
    simp only [go_sem]
    refine GCall_of (standing_pc Y _ (σ.store.length + 4) K (Sg.get_ext ..) s g hV i (by omega) s.high (by omega)) ?_   -- t39
    simp only [go_sem]
    try simp (disch := first | omega | (simp only [go_sem] <;> omega)) only [wrapI, wrapU, appX_exact, appX_tok]
    try simp only [go_sem]
    try refine And.intro (by repeat' (first | refine And.intro ?_ ?_ | exact GOr_right (fun _ => by simp only [go_sem]))) ?_
    refine hR _ _ (kq10 _ _ ?_); clear hR R; try clear kq10 kz10
    try simp only [go_sem]
    refine W_region [2, 3, 6, 8, 20, 21] fun R hR => ?_   -- r9
    simp only [go_sem]
    try simp (disch := omega) only [wrapI, wrapU]
    refine hR _ _ ?_; clear hR R
    try simp only [go_sem]
    refine ⟨i + 1, ?_, by (try simp only []); omega, ?_⟩
    · refine Weak.eq ?_ (by simp only [go_sem])
      simp only [go_sem, hsu, List.map_append]
      rfl
    · try dsimp only
      omega
  · -- c1 false
    try simp only [nrm] at c1
    have hie : N = i := by first | omega | (simp at c1; omega)
    subst hie
    refine W_exit ?_
    simp only [go_sem]
    refine kq6 _ _ ?_
    refine W_seq fun kz12 kq12 => ?_
    refine W_region [4, 5] fun R hR => ?_   -- r10
    simp only [go_sem]
    refine hR _ _ (kq12 _ _ ?_); clear hR R; try clear kq12 kz12
    try simp only [go_sem]
    refine W_ret ?_
    simp only [go_sem]
    refine ⟨.inr (by trivial), ?_⟩
    refine Fin_same hcl rfl (Wk.ro (by simp only [go_sem]) ?_)
    try simp only [go_sem]
    all_goals
      simp only [go_sem]
theorem Totals_pc (Y : YEnv) (σ : Sg) (s : Scale) (g : Night) (hs : s.Ok) (hg : g.Ok) : PC Tryz.prog Y 26 [scPV s, ngPV g] σ (.tuple [sts (totalsA s g).1, I (totalsA s g).2]) σ := by
  unfold totalsA
  by_cases h : knownE s g = 0
  · rw [if_neg (by simpa using h)]; exact totO_pc Y σ s g hs hg h
  · rw [if_pos h]; exact totE_pc Y σ s g hs hg h
set_option maxHeartbeats 4000000 in
theorem place1_pc (Y : YEnv) (σ : Sg) (ik id ib ic ie : Nat) (s : Scale) (k : Kn) (g : Night) (hV : KnV s k g) (sc : Nat) (hsc : (sc : Int) < s.schools) (own oth : Int) (ho : 0 ≤ own ∧ own ≤ 100) (ht : 0 ≤ oth ∧ oth ≤ 100) (h0 : σ.store[ik]? = some (some [.map id])) (hd : σ.store[id]? = some (some (.mark :: knE k))) (hb : σ.store[ib]? = some (some (scCells s))) (hc : σ.store[ic]? = some (some (ngCells g))) (he : σ.store[ie]? = some (some [I sc])) :
    PC Tryz.prog Y 65 [I own, I oth, .ptr ik 0, .ptr ib 0, .ptr ic 0, .ptr ie 0] σ (I (placeK s k g sc own oth)) (σ) := by
  refine PC_of_W Tryz.func65 rfl (by kernel_rfl) Tryz.ntmps65 (by simp) fun hcl hca => ?_
  have q3 := hV.v.sc
  have hol := hV.v.ol
  have q1 := hV.v.mt
  obtain ⟨N, hN⟩ : ∃ z : Nat, s.schools = z := ⟨s.schools.toNat, by omega⟩
  have hNi : (s.schools : Int) = (N : Int) := hN
  have hpl := plUp_all hN k g sc own oth
  refine W_seq fun kz1 kq1 => ?_
  refine W_region [0, 1, 2, 3, 4, 5] fun R hR => ?_   -- r0
  simp only [go_sem, ldS_at h0, ldA_at hb, ldA_at hc, ldS_at he, ldS_at hb, ldS_at (get_extx h0), ldA_at (get_extx hb), ldA_at (get_extx hc), ldS_at (get_extx he), ldS_at (get_extx hb)]
  refine hR _ _ (kq1 _ _ ?_); clear hR R; try clear kq1 kz1
  try simp only [go_sem, ldS_at h0, ldA_at hb, ldA_at hc, ldS_at he, ldS_at hb, ldS_at (get_extx h0), ldA_at (get_extx hb), ldA_at (get_extx hc), ldS_at (get_extx he), ldS_at (get_extx hb)]
  refine W_seq fun kz2 kq2 => ?_
  refine W_region [1, 2, 3, 4, 5, 9, 10] fun R hR => ?_   -- r1
  simp only [go_sem, ldS_at h0, ldA_at hb, ldA_at hc, ldS_at he, ldS_at hb, ldS_at (get_extx h0), ldA_at (get_extx hb), ldA_at (get_extx hc), ldS_at (get_extx he), ldS_at (get_extx hb)]
  refine GCall_of (standing_pc Y _ id k hd s g hV sc hsc own ho) ?_   -- t17
  simp only [go_sem, ldS_at h0, ldA_at hb, ldA_at hc, ldS_at he, ldS_at hb, ldS_at (get_extx h0), ldA_at (get_extx hb), ldA_at (get_extx hc), ldS_at (get_extx he), ldS_at (get_extx hb)]
  refine hR _ _ (kq2 _ _ ?_); clear hR R; try clear kq2 kz2
  try simp only [go_sem, ldS_at h0, ldA_at hb, ldA_at hc, ldS_at he, ldS_at hb, ldS_at (get_extx h0), ldA_at (get_extx hb), ldA_at (get_extx hc), ldS_at (get_extx he), ldS_at (get_extx hb)]
  refine W_seq fun kz3 kq3 => ?_
  refine W_seq fun kz4 kq4 => ?_
  refine W_region [1, 2, 3, 4, 5, 9, 10, 19, 20] fun R hR => ?_   -- r2
  simp only [go_sem, ldS_at h0, ldA_at hb, ldA_at hc, ldS_at he, ldS_at hb, ldS_at (get_extx h0), ldA_at (get_extx hb), ldA_at (get_extx hc), ldS_at (get_extx he), ldS_at (get_extx hb)]
  refine hR _ _ (kq4 _ _ ?_); clear hR R; try clear kq4 kz4
  try simp only [go_sem, ldS_at h0, ldA_at hb, ldA_at hc, ldS_at he, ldS_at hb, ldS_at (get_extx h0), ldA_at (get_extx hb), ldA_at (get_extx hc), ldS_at (get_extx he), ldS_at (get_extx hb)]
  refine W_block ?_
  refine W_loopS (α := Nat) (fun (i : Nat) => [(10, I (1 + (plUp s k g sc own oth i : Int))), (20, I i)]) (fun (i : Nat) => i ≤ N) (fun (i : Nat) => N - i) (0) rfl (Nat.zero_le _) ?_
  rintro i hi
  have hple := plUp_le s k g sc own oth i
  refine W_seq fun kz5 kq5 => ?_
  refine W_region [1, 2, 3, 4, 5, 9, 10, 19, 20, 21] fun R hR => ?_   -- r3
  simp only [go_sem, ldS_at h0, ldA_at hb, ldA_at hc, ldS_at he, ldS_at hb, ldS_at (get_extx h0), ldA_at (get_extx hb), ldA_at (get_extx hc), ldS_at (get_extx he), ldS_at (get_extx hb)]
  refine hR _ _ (kq5 _ _ ?_); clear hR R; try clear kq5 kz5
  try simp only [go_sem, ldS_at h0, ldA_at hb, ldA_at hc, ldS_at he, ldS_at hb, ldS_at (get_extx h0), ldA_at (get_extx hb), ldA_at (get_extx hc), ldS_at (get_extx he), ldS_at (get_extx hb)]
  refine W_seq fun kz6 kq6 => ?_
  refine W_cond rfl (fun c1 => ?_) (fun c1 => ?_)
  · -- c1 true
    try simp only [nrm] at c1
    have hiN : i < N := by first | omega | (simp at c1; omega)
    have hsu := plUp_succ s k g sc own oth i
    refine W_skip (kq6 _ _ ?_)
    refine W_seq fun kz7 kq7 => ?_
    refine W_block ?_
    refine W_seq fun kz8 kq8 => ?_
    refine W_region [1, 2, 3, 4, 5, 9, 10, 11, 19, 20] fun R hR => ?_   -- r4
    simp only [go_sem, ldS_at h0, ldA_at hb, ldA_at hc, ldS_at he, ldS_at hb, ldS_at (get_extx h0), ldA_at (get_extx hb), ldA_at (get_extx hc), ldS_at (get_extx he), ldS_at (get_extx hb)]
    refine hR _ _ (kq8 _ _ ?_); clear hR R; try clear kq8 kz8
    try simp only [go_sem, ldS_at h0, ldA_at hb, ldA_at hc, ldS_at he, ldS_at hb, ldS_at (get_extx h0), ldA_at (get_extx hb), ldA_at (get_extx hc), ldS_at (get_extx he), ldS_at (get_extx hb)]
    refine W_seq fun kz9 kq9 => ?_
    refine W_draw [1, 2, 3, 4, 5, 9, 10, 19, 20, 39] [0, 1, 2, 3, 4, 5, 6, 7, 8, 9, 10, 11, 12, 13, 14, 15, 16] [(4, 14), (5, 14), (6, 14), (13, 12)] [[], [], [0, 1], [0, 1, 2], [0, 1, 2, 3], [0, 1, 2, 3, 4], [0, 1, 2, 3, 4, 5], [0, 1, 2, 3], [0, 1, 2, 3], [0, 1, 2, 3], [0, 1, 2, 3], [0, 1, 2, 3], [0, 1, 2, 3, 7, 8, 9, 10, 11], [0, 1, 2, 3], [0, 1, 2, 3, 4, 5, 6, 7, 8, 9, 10, 11, 12, 13], [0, 1, 2, 3, 4, 5, 6, 7, 8, 9, 10, 11, 12, 13, 14], [0, 1, 2, 3, 4, 5, 6, 7, 8, 9, 10, 11, 12, 13, 14, 15]] mixed (by kernel_rfl) fun R hR => ?_   -- r5
    simp only [go_sem, ldS_at h0, ldA_at hb, ldA_at hc, ldS_at he, ldS_at hb, ldS_at (get_extx h0), ldA_at (get_extx hb), ldA_at (get_extx hc), ldS_at (get_extx he), ldS_at (get_extx hb)]
    refine GWant_split (fun g1 => ?_) (fun g1 => ?_)
    · try simp only [Bool.not_eq_true', Bool.not_eq_false'] at g1
      have n1 := g1; try simp only [nrm] at n1
      have hci : (i : Int) ≠ (sc : Int) := by intro e; rw [e] at g1; simp at g1
      simp only [go_sem, ldS_at h0, ldA_at hb, ldA_at hc, ldS_at he, ldS_at hb, ldS_at (get_extx h0), ldA_at (get_extx hb), ldA_at (get_extx hc), ldS_at (get_extx he), ldS_at (get_extx hb), g1]
      refine GCall_of (standing_pc Y _ id k (get_extx hd) s g hV i (by omega) oth ht) ?_   -- t35
      simp only [go_sem, ldS_at h0, ldA_at hb, ldA_at hc, ldS_at he, ldS_at hb, ldS_at (get_extx h0), ldA_at (get_extx hb), ldA_at (get_extx hc), ldS_at (get_extx he), ldS_at (get_extx hb), g1]
      refine GCall_of (compare_pc Y _ s.order (standK s k g i oth) (standK s k g sc own) (cmp_ok hV ht ho (by omega) (by omega)) (by omega)) ?_   -- t37
      simp only [go_sem, ldS_at h0, ldA_at hb, ldA_at hc, ldS_at he, ldS_at hb, ldS_at (get_extx h0), ldA_at (get_extx hb), ldA_at (get_extx hc), ldS_at (get_extx he), ldS_at (get_extx hb), g1]
      try refine And.intro (by repeat' (first | refine And.intro ?_ ?_ | exact GOr_right (fun _ => by simp only [go_sem, ldS_at h0, ldA_at hb, ldA_at hc, ldS_at he, ldS_at hb, ldS_at (get_extx h0), ldA_at (get_extx hb), ldA_at (get_extx hc), ldS_at (get_extx he), ldS_at (get_extx hb)]))) ?_
      refine hR _ _ (kq9 _ _ ?_); clear hR R; try clear kq9 kz9
      try simp only [go_sem, ldS_at h0, ldA_at hb, ldA_at hc, ldS_at he, ldS_at hb, ldS_at (get_extx h0), ldA_at (get_extx hb), ldA_at (get_extx hc), ldS_at (get_extx he), ldS_at (get_extx hb)]
      refine W_cond rfl (fun c2 => ?_) (fun c2 => ?_)
      · -- c2 true
        try simp only [nrm] at c2
        rw [if_pos (by rw [decide_eq_true hci, decide_eq_true (show cmpSt s.order (standK s k g i oth) (standK s k g sc own) < 0 by omega)]; rfl)] at hsu
        refine W_region [1, 2, 3, 4, 5, 9, 10, 19, 20] fun R hR => ?_   -- r6
        simp only [go_sem, ldS_at h0, ldA_at hb, ldA_at hc, ldS_at he, ldS_at hb, ldS_at (get_extx h0), ldA_at (get_extx hb), ldA_at (get_extx hc), ldS_at (get_extx he), ldS_at (get_extx hb)]
        try simp (disch := omega) only [wrapI, wrapU]
        refine hR _ _ (kq7 _ _ ?_); clear hR R; try clear kq7 kz7
        try simp only [go_sem, ldS_at h0, ldA_at hb, ldA_at hc, ldS_at he, ldS_at hb, ldS_at (get_extx h0), ldA_at (get_extx hb), ldA_at (get_extx hc), ldS_at (get_extx he), ldS_at (get_extx hb)]
        refine W_region [1, 2, 3, 4, 5, 9, 10, 19, 20] fun R hR => ?_   -- r7
        simp only [go_sem, ldS_at h0, ldA_at hb, ldA_at hc, ldS_at he, ldS_at hb, ldS_at (get_extx h0), ldA_at (get_extx hb), ldA_at (get_extx hc), ldS_at (get_extx he), ldS_at (get_extx hb)]
        try simp (disch := omega) only [wrapI, wrapU]
        refine hR _ _ ?_; clear hR R
        try simp only [go_sem, ldS_at h0, ldA_at hb, ldA_at hc, ldS_at he, ldS_at hb, ldS_at (get_extx h0), ldA_at (get_extx hb), ldA_at (get_extx hc), ldS_at (get_extx he), ldS_at (get_extx hb)]
        refine ⟨i + 1, ?_, by (try simp only []); omega, ?_⟩
        · refine Weak.eq ?_ rfl
          rw [hsu]
          try simp only [go_sem]
          first | done | rfl | (simp; done) | (simp; omega)
        · try dsimp only
          omega
      · -- c2 false
        try simp only [nrm] at c2
        rw [if_neg (by rw [decide_eq_false (show ¬ (cmpSt s.order (standK s k g i oth) (standK s k g sc own) < 0) by omega)]; simp)] at hsu
        refine W_skip (kq7 _ _ ?_)
        refine W_region [1, 2, 3, 4, 5, 9, 10, 19, 20] fun R hR => ?_   -- r7
        simp only [go_sem, ldS_at h0, ldA_at hb, ldA_at hc, ldS_at he, ldS_at hb, ldS_at (get_extx h0), ldA_at (get_extx hb), ldA_at (get_extx hc), ldS_at (get_extx he), ldS_at (get_extx hb)]
        try simp (disch := omega) only [wrapI, wrapU]
        refine hR _ _ ?_; clear hR R
        try simp only [go_sem, ldS_at h0, ldA_at hb, ldA_at hc, ldS_at he, ldS_at hb, ldS_at (get_extx h0), ldA_at (get_extx hb), ldA_at (get_extx hc), ldS_at (get_extx he), ldS_at (get_extx hb)]
        refine ⟨i + 1, ?_, by (try simp only []); omega, ?_⟩
        · refine Weak.eq ?_ rfl
          rw [hsu]
          try simp only [go_sem]
          first | done | rfl | (simp; done) | (simp; omega)
        · try dsimp only
          omega
    · try simp only [Bool.not_eq_true', Bool.not_eq_false'] at g1
      have n1 := g1; try simp only [nrm] at n1
      have hci : ¬ ((i : Int) ≠ (sc : Int)) := by intro e; apply e; simpa using g1
      rw [if_neg (by rw [decide_eq_false hci]; simp)] at hsu
      simp only [go_sem, ldS_at h0, ldA_at hb, ldA_at hc, ldS_at he, ldS_at hb, ldS_at (get_extx h0), ldA_at (get_extx hb), ldA_at (get_extx hc), ldS_at (get_extx he), ldS_at (get_extx hb), g1]
      try refine And.intro (by repeat' (first | refine And.intro ?_ ?_ | exact GOr_right (fun _ => by simp only [go_sem, ldS_at h0, ldA_at hb, ldA_at hc, ldS_at he, ldS_at hb, ldS_at (get_extx h0), ldA_at (get_extx hb), ldA_at (get_extx hc), ldS_at (get_extx he), ldS_at (get_extx hb)]))) ?_
      refine hR _ _ (kq9 _ _ ?_); clear hR R; try clear kq9 kz9
      try simp only [go_sem, ldS_at h0, ldA_at hb, ldA_at hc, ldS_at he, ldS_at hb, ldS_at (get_extx h0), ldA_at (get_extx hb), ldA_at (get_extx hc), ldS_at (get_extx he), ldS_at (get_extx hb)]
      refine W_cond_false rfl ?_
      refine W_skip (kq7 _ _ ?_)
      refine W_region [1, 2, 3, 4, 5, 9, 10, 19, 20] fun R hR => ?_   -- r7
      simp only [go_sem, ldS_at h0, ldA_at hb, ldA_at hc, ldS_at he, ldS_at hb, ldS_at (get_extx h0), ldA_at (get_extx hb), ldA_at (get_extx hc), ldS_at (get_extx he), ldS_at (get_extx hb)]
      try simp (disch := omega) only [wrapI, wrapU]
      refine hR _ _ ?_; clear hR R
      try simp only [go_sem, ldS_at h0, ldA_at hb, ldA_at hc, ldS_at he, ldS_at hb, ldS_at (get_extx h0), ldA_at (get_extx hb), ldA_at (get_extx hc), ldS_at (get_extx he), ldS_at (get_extx hb)]
      refine ⟨i + 1, ?_, by (try simp only []); omega, ?_⟩
      · refine Weak.eq ?_ rfl
        rw [hsu]
        try simp only [go_sem]
        first | done | rfl | (simp; done) | (simp; omega)
      · try dsimp only
        omega
  · -- c1 false
    try simp only [nrm] at c1
    have hie : N = i := by first | omega | (simp at c1; omega)
    subst hie
    refine W_exit ?_
    simp only [go_sem, ldS_at h0, ldA_at hb, ldA_at hc, ldS_at he, ldS_at hb, ldS_at (get_extx h0), ldA_at (get_extx hb), ldA_at (get_extx hc), ldS_at (get_extx he), ldS_at (get_extx hb)]
    refine kq3 _ _ ?_
    refine W_seq fun kz10 kq10 => ?_
    refine W_region [8] fun R hR => ?_   -- r8
    simp only [go_sem, ldS_at h0, ldA_at hb, ldA_at hc, ldS_at he, ldS_at hb, ldS_at (get_extx h0), ldA_at (get_extx hb), ldA_at (get_extx hc), ldS_at (get_extx he), ldS_at (get_extx hb)]
    refine hR _ _ (kq10 _ _ ?_); clear hR R; try clear kq10 kz10
    try simp only [go_sem, ldS_at h0, ldA_at hb, ldA_at hc, ldS_at he, ldS_at hb, ldS_at (get_extx h0), ldA_at (get_extx hb), ldA_at (get_extx hc), ldS_at (get_extx he), ldS_at (get_extx hb)]
    refine W_ret ?_
    simp only [go_sem, ldS_at h0, ldA_at hb, ldA_at hc, ldS_at he, ldS_at hb, ldS_at (get_extx h0), ldA_at (get_extx hb), ldA_at (get_extx hc), ldS_at (get_extx he), ldS_at (get_extx hb)]
    refine ⟨.inr (by trivial), ?_⟩
    first | refine Fin_same hcl rfl (Wk_eq ?_ (by simp only [go_sem])) | refine Fin_self hcl rfl (Wk_eq ?_ (by simp only [go_sem]))
    try simp only [go_sem]
    all_goals
      rw [hpl]
end Go.Proofs.YtgelnjmddabgpaaGreat
namespace Go.Proofs.YtgelnjmddabgpaaGreat
open Go Go.RowKit
set_option maxRecDepth 100000
/-- Where the least of the first numbers stands. -/
def am (l : List Int) : Nat → Nat
  | 0 => 0
  | i + 1 => if (l[i]?).getD 0 < (l[am l i]?).getD 0 then i else am l i
def leastL (l : List Int) : List Int := l.take (am l l.length) ++ l.drop (am l l.length + 1)
theorem am_one (l : List Int) : am l 1 = 0 := by simp [am]
theorem am_lt (l : List Int) : ∀ i, 1 ≤ i → am l i < i := by
  intro i
  induction i with
  | zero => intro h; omega
  | succ i ih =>
    intro _
    simp only [am]
    split
    · omega
    · by_cases h : i = 0
      · subst h; simp [am]
      · have := ih (by omega); omega
theorem am_min (l : List Int) : ∀ i q, q < i → (l[am l i]?).getD 0 ≤ (l[q]?).getD 0 := by
  intro i
  induction i with
  | zero => intro q h; omega
  | succ i ih =>
    intro q hq
    simp only [am]
    split
    · by_cases e : q = i
      · subst e; exact Int.le_refl _
      · have := ih q (by omega); omega
    · by_cases e : q = i
      · subst e; omega
      · exact ih q (by omega)
theorem least_perm {l : List Int} (h : l ≠ []) : ∃ x, (x :: leastL l).Perm l ∧ ∀ y, y ∈ l → x ≤ y := by
  have hl : 0 < l.length := List.length_pos_iff.2 h
  have ha := am_lt l l.length hl
  refine ⟨l[am l l.length], ?_, fun y hy => ?_⟩
  · have e : l = l.take (am l l.length) ++ l[am l l.length] :: l.drop (am l l.length + 1) := by
      conv => lhs; rw [← List.take_append_drop (am l l.length) l]
      rw [List.drop_eq_getElem_cons ha]
    conv => rhs; rw [e]
    exact List.perm_middle.symm
  · obtain ⟨q, hq⟩ := List.mem_iff_getElem?.1 hy
    have hql := (List.getElem?_eq_some_iff.1 hq).1
    have := am_min l l.length q hql
    rw [hq, List.getElem?_eq_getElem ha] at this
    exact this
theorem least_len {l : List Int} (h : l ≠ []) : (leastL l).length + 1 = l.length := by
  obtain ⟨x, hp, _⟩ := least_perm h
  have := hp.length_eq
  simpa using this
theorem sortI_least {l : List Int} (h : l ≠ []) : sortI (leastL l) = (sortI l).drop 1 := by
  obtain ⟨x, hp, hx⟩ := least_perm h
  have e : sortI l = x :: sortI (leastL l) := by
    refine asc_perm ?_ ?_ ?_
    · exact (List.mergeSort_perm l _).trans (hp.symm.trans (List.Perm.cons x (List.mergeSort_perm (leastL l) _).symm))
    · rw [sortI_isort]; exact isortZ_asc l
    · refine List.pairwise_cons.2 ⟨fun y hy => hx y (hp.mem_iff.1 (List.mem_cons_of_mem _ (mem_sortI.1 hy))), ?_⟩
      rw [sortI_isort]; exact isortZ_asc _
  rw [e]; rfl
theorem sortI_of_perm {a b : List Int} (h : a.Perm b) : sortI a = sortI b := by
  refine asc_perm ((List.mergeSort_perm a _).trans (h.trans (List.mergeSort_perm b _).symm)) ?_ ?_
  · rw [sortI_isort]; exact isortZ_asc a
  · rw [sortI_isort]; exact isortZ_asc b
theorem sumI_permR {a b : List Int} (h : a.Perm b) : sumI a = sumI b := by
  induction h with
  | nil => rfl
  | cons x _ ih => simp only [sumI]; omega
  | swap x y l => simp only [sumI]; omega
  | trans _ _ ih1 ih2 => exact ih1.trans ih2
theorem sumI_sort (l : List Int) : sumI (sortI l) = sumI l := sumI_permR (List.mergeSort_perm l _)
theorem map_split {α : Type} (p : α → Bool) (c : Int) (g : α → Int) : ∀ l : List α, (l.map fun q => if p q = true then c else g q).Perm ((l.filter fun q => !(p q)).map g ++ List.replicate (l.filter p).length c) := by
  intro l
  induction l with
  | nil => exact .refl _
  | cons x l ih =>
    rw [List.map_cons]
    by_cases h : p x = true
    · rw [if_pos h, List.filter_cons_of_neg (by simp [h]), List.filter_cons_of_pos h, List.length_cons, List.replicate_succ]
      exact (List.Perm.cons c ih).trans List.perm_middle.symm
    · have h' : p x = false := by simpa using h
      rw [if_neg h, List.filter_cons_of_pos (by simp [h']), List.filter_cons_of_neg (by simp [h']), List.map_cons, List.cons_append]
      exact List.Perm.cons _ ih
theorem filter_sum {α : Type} (p : α → Bool) : ∀ l : List α, (l.filter fun q => !(p q)).length + (l.filter p).length = l.length := by
  intro l
  induction l with
  | nil => rfl
  | cons x l ih =>
    cases h : p x <;> simp [h] <;> omega
/-- The marks with the mean of those who are there in place of those who are not. -/
def fullM (s : Scale) (k : Kn) (sc m u : Int) (J : Nat) : List Int := (presL k m J).map (mkAt k sc m u) ++ List.replicate (J - (presL k m J).length) (meanM s k sc m u)
theorem full_perm {s : Scale} {k : Kn} {sc m u : Int} {J : Nat} (hJ : s.judges = J) : (fullM s k sc m u J).Perm (panelM s k sc m u) := by
  unfold fullM panelM
  have h := map_split (fun q : Int => absentK k (m, q)) (meanM s k sc m u) (mkAt k sc m u) (toI s.judges)
  have hl := filter_sum (fun q : Int => absentK k (m, q)) (toI s.judges)
  have e : (toI s.judges).filter (fun q => !(absentK k (m, q))) = presL k m J := presL_J hJ k m
  have hlen : (toI s.judges).length = J := by simp [toI, hJ]
  rw [e, hlen] at hl
  rw [e, show ((toI s.judges).filter fun q => absentK k (m, q)).length = J - (presL k m J).length by omega] at h
  exact h.symm
theorem points_full {s : Scale} {k : Kn} {sc m u : Int} {J : Nat} (hJ : s.judges = J) : pointsK s k sc m u = sumI ((sortI (fullM s k sc m u J)).drop s.drop.toNat) := by
  unfold pointsK
  rw [sortI_of_perm (full_perm hJ)]
/-- What a night tells, as the document asks for it. -/
theorem night_abs {s : Scale} {n : Night} (h : NightV s n) (m q : Int) : n.absent.any (isA m q) = absentK (knownK s n) (m, q) := by
  rw [Bool.eq_iff_iff, any_isA, absentK_iff, h.get]
  exact (kOf_nil (Scale.v h.c) h.op (fun j hj => (h.ab j hj).2) (m, q)).symm
theorem night_find {s : Scale} {n : Night} (h : NightV s n) (m q : Int) (sc : Nat) (hsc : (sc : Int) < s.schools) (u : Int) :
    (fIdx (isJ m q) 0 n.opened = -1 ∧ mkAt (knownK s n) sc m u q = u) ∨ ∃ (i : Nat) (x : Envl) (v : Int), fIdx (isJ m q) 0 n.opened = (i : Int) ∧ n.opened[i]? = some x ∧ x.marks[sc]? = some v ∧ mkAt (knownK s n) sc m u q = v := by
  have hg := h.get (m, q)
  unfold kOf at hg
  rcases fIdx_find (a := m) (b := q) (l := n.opened) (p := 0) with ⟨h1, h2⟩ | ⟨i, x, h1, h2, h3, h4⟩
  · left
    refine ⟨h1, mkAt_none ?_⟩
    rw [hg, h2]
    simp only
    split <;> rfl
  · right
    have hx := h.op x (List.mem_of_getElem? h2)
    have hl := (marked_ok hx.m).2.1
    obtain ⟨v, hv⟩ : ∃ v, x.marks[sc]? = some v := ⟨x.marks[sc]'(by omega), by simp⟩
    refine ⟨i, x, v, by rw [h1, Nat.zero_add], h2, hv, mkAt_some (l := x.marks) ?_ (hx.ne (Scale.v h.c)) hv⟩
    rw [hg, h4]; rfl
set_option maxHeartbeats 2000000 in
theorem least_pc (Y : YEnv) (σ : Sg) (l : List Int) (hne : l ≠ []) (hl : l.length < 2 ^ 40) :
    PC Tryz.prog Y 112 [ints l] σ (ints (leastL l)) (σ) := by
  refine PC_of_W Tryz.func112 rfl (by kernel_rfl) Tryz.ntmps112 (by simp) fun hcl hca => ?_
  have hpos : 0 < l.length := List.length_pos_iff.2 hne
  refine W_seq fun kz1 kq1 => ?_
  refine W_region [0] fun R hR => ?_   -- r0
  simp only [go_sem]
  refine hR _ _ (kq1 _ _ ?_); clear hR R; try clear kq1 kz1
  try simp only [go_sem]
  refine W_seq fun kz2 kq2 => ?_
  refine W_region [0, 3] fun R hR => ?_   -- r1
  simp only [go_sem]
  refine hR _ _ (kq2 _ _ ?_); clear hR R; try clear kq2 kz2
  try simp only [go_sem]
  refine W_seq fun kz3 kq3 => ?_
  refine W_seq fun kz4 kq4 => ?_
  refine W_region [0, 3, 4] fun R hR => ?_   -- r2
  simp only [go_sem]
  refine hR _ _ (kq4 _ _ ?_); clear hR R; try clear kq4 kz4
  try simp only [go_sem]
  refine W_block ?_
  refine W_loopS (α := Nat) (fun (i : Nat) => [(3, I (am l i)), (4, I i)]) (fun (i : Nat) => 1 ≤ i ∧ i ≤ l.length) (fun (i : Nat) => l.length - i) (1) (by rw [am_one]; rfl) (⟨Nat.le_refl _, hpos⟩) ?_
  rintro i ⟨h1, hi⟩
  refine W_seq fun kz5 kq5 => ?_
  refine W_seq fun kz6 kq6 => ?_
  refine W_region [0, 3, 4, 8] fun R hR => ?_   -- r3
  simp only [go_sem]
  refine hR _ _ (kq6 _ _ ?_); clear hR R; try clear kq6 kz6
  try simp only [go_sem]
  refine W_cond rfl (fun c1 => ?_) (fun c1 => ?_)
  · -- c1 true
    try simp only [nrm] at c1
    have hi' : i < l.length := by first | omega | (simp at c1; omega)
    have ha := am_lt l i h1
    obtain ⟨x, hx⟩ : ∃ z, l[i]? = some z := ⟨l[i], by simp⟩
    obtain ⟨y, hy⟩ : ∃ z, l[am l i]? = some z := ⟨l[am l i]'(by omega), by simp⟩
    have has : am l (i + 1) = if x < y then i else am l i := by simp only [am, hx, hy, Option.getD_some]
    refine W_skip (kq5 _ _ ?_)
    refine W_seq fun kz7 kq7 => ?_
    refine W_block ?_
    refine W_seq fun kz8 kq8 => ?_
    refine W_draw [0, 3, 4, 19] [0, 1, 2, 3, 4, 5, 6, 7, 8] [] [[], [], [0, 1], [0, 1, 2], [], [], [4, 5], [4, 5, 6], [0, 1, 2, 3, 4, 5, 6, 7]] mixed (by kernel_rfl) fun R hR => ?_   -- r5
    simp only [go_sem, hx, hy]
    try refine And.intro (by repeat' (first | refine And.intro ?_ ?_ | exact GOr_right (fun _ => by simp only [go_sem, hx, hy]))) ?_
    refine hR _ _ (kq8 _ _ ?_); clear hR R; try clear kq8 kz8
    try simp only [go_sem, hx, hy]
    refine W_cond rfl (fun c2 => ?_) (fun c2 => ?_)
    · -- c2 true
      try simp only [nrm] at c2
      refine W_region [0, 3, 4] fun R hR => ?_   -- r6
      simp only [go_sem, hx, hy]
      refine hR _ _ (kq7 _ _ ?_); clear hR R; try clear kq7 kz7
      try simp only [go_sem, hx, hy]
      refine W_region [0, 3, 4] fun R hR => ?_   -- r4
      simp only [go_sem, hx, hy]
      try simp (disch := omega) only [wrapI, wrapU]
      refine hR _ _ ?_; clear hR R
      try simp only [go_sem, hx, hy]
      refine ⟨i + 1, ?_, by (try simp only []); omega, ?_⟩
      · refine Weak.eq ?_ rfl
        rw [has]
        first | (rw [if_pos c2]; done) | (rw [if_pos c2]; rfl) | (rw [if_neg c2]; rfl) | (simp [c2, go_sem]; done)
      · try dsimp only
        omega
    · -- c2 false
      try simp only [nrm] at c2
      refine W_skip (kq7 _ _ ?_)
      refine W_region [0, 3, 4] fun R hR => ?_   -- r4
      simp only [go_sem, hx, hy]
      try simp (disch := omega) only [wrapI, wrapU]
      refine hR _ _ ?_; clear hR R
      try simp only [go_sem, hx, hy]
      refine ⟨i + 1, ?_, by (try simp only []); omega, ?_⟩
      · refine Weak.eq ?_ rfl
        rw [has]
        first | (rw [if_pos c2]; done) | (rw [if_pos c2]; rfl) | (rw [if_neg c2]; rfl) | (simp [c2, go_sem]; done)
      · try dsimp only
        omega
  · -- c1 false
    try simp only [nrm] at c1
    have hie : i = l.length := by first | omega | (simp at c1; omega)
    subst hie
    have ha := am_lt l l.length h1
    obtain ⟨p, hp⟩ : ∃ z, am l l.length = z := ⟨_, rfl⟩
    have hlst : leastL l = l.take p ++ l.drop (p + 1) := by unfold leastL; rw [hp]
    rw [hp] at ha
    rw [hlst]
    have hw : IntKind.i64.wrap ((p : Int) + 1) = ((p + 1 : Nat) : Int) := by rw [wrapI (by omega) (by omega)]; omega
    have hz : ∀ k : Nat, ((0 : Int) ≤ (k : Int)) = True := fun k => by simp
    have hp1 : p ≤ l.length := by omega
    have hp2 : p + 1 ≤ l.length := by omega
    have hl1 : (l.take p).length < 2 ^ 40 := by rw [List.length_take]; omega
    have hl2 : (l.drop (p + 1)).length < 2 ^ 40 := by rw [List.length_drop]; omega
    refine W_exit ?_
    simp only [go_sem, hp, hw, hz, Int.toNat_natCast, hp1, hp2, ← List.map_take]
    refine kq3 _ _ ?_
    refine W_seq fun kz9 kq9 => ?_
    refine W_draw [2] [0, 1, 2, 3, 4, 5, 6, 7, 8, 9, 10] [(5, 4), (6, 4), (7, 4), (8, 4)] [[], [], [], [1, 2], [0, 1, 2, 3], [], [], [6], [5, 6, 7], [0, 1, 2, 3, 4, 5, 6, 7, 8], [0, 1, 2, 3, 4, 5, 6, 7, 8, 9]] mixed (by kernel_rfl) fun R hR => ?_   -- r7
    simp only [go_sem, hp, hw, hz, Int.toNat_natCast, hp1, hp2, ← List.map_take]
    try simp (disch := first | omega | (simp only [go_sem] <;> omega)) only [wrapI, wrapU, appX_exact, appX_tok]
    try simp only [go_sem, hp, hw, hz, Int.toNat_natCast, hp1, hp2, ← List.map_take]
    try simp (disch := first | omega | (simp only [go_sem] <;> omega)) only [wrapI, wrapU, appX_exact, appX_tok]
    try simp only [go_sem, hp, hw, hz, Int.toNat_natCast, hp1, hp2, ← List.map_take]
    try refine And.intro (by repeat' (first | refine And.intro ?_ ?_ | exact GOr_right (fun _ => by simp only [go_sem, hp, hw, hz, Int.toNat_natCast, hp1, hp2, ← List.map_take]))) ?_
    refine hR _ _ (kq9 _ _ ?_); clear hR R; try clear kq9 kz9
    try simp only [go_sem, hp, hw, hz, Int.toNat_natCast, hp1, hp2, ← List.map_take]
    refine W_ret ?_
    simp only [go_sem, hp, hw, hz, Int.toNat_natCast, hp1, hp2, ← List.map_take]
    refine ⟨.inr (by trivial), ?_⟩
    refine Fin_same hcl rfl (Wk.ro (by simp only [go_sem]) ?_)
    try simp only [go_sem]
    all_goals
      first | rfl | (simp only [go_sem, List.map_append]; done) | (simp [ints, hlst]; done) | (simp [ints, hlst, List.map_take, List.map_drop]; done)
end Go.Proofs.YtgelnjmddabgpaaGreat
