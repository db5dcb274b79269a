/-
  Walks: standings sorted, as the library does it with few of them (marks).
  Walks: places, who wins, the table (marks).
  Walks: the table of a night that is decided (marks).
  Walks: lists compared; the chapter's examples.
  Walks: copies and comparisons of scales and nights (bateriakit); what is too wide.
  Walks: a night copied, to be lengthened (bateriakit).
  A variable to which a pointer points, and that is never written again.
  A variable that nobody asks for any more.
  Walks: a night copied, one envelope's marks to be written again; a night in which a school has another mark.
  Who stands ahead: an order in which no two schools are equal. The plain law.
  Points grow with marks; who may win. The plain law.
  What is known of a night: by its envelopes and its absences. The plain law.
  A night of which more is known: totals, places, who wins. The plain law.
  A night with more envelopes.
  Who surely wins, or never, stays so with more envelopes.
  Standings sorted: each school once, nobody behind one that it is ahead of. The plain law.
  A decided night: places are places in the table.
  Nights made of numbers are nights that may be. The plain law.
  A night in which a school has another mark: the plain law.
  Walks: a night in which a school has another mark; a school's standing in a table.
  Marks that are dropped: the plain law.
  Walks: the chapter's examples checked.
  The law MarksDropped, walked: greater marks, and marks that are dropped.
-/
import Derived.Test.YtgelnjmddabgpaaGreatPe
import Derived.CallsIn
import Derived.RangeFuncLeaves
import Derived.RangeFuncRecord
import Derived.OrdersIn
import Derived.Below
import Derived.Laws.World
import Derived.Laws.StructEq
import Derived.Laws.Append
import Derived.MapKept
import Derived.ProofKit
import Derived.Carry
import Derived.Handed
import Derived.ChangeCalls
import Derived.RangeFuncIn
import Derived.RangeFuncNested
import Derived.Test.YtgelnjmddabgpaaGreatProg
import Derived.KernelRfl
import Derived.IntWalk
import Derived.Test.YtgelnjmddabgpaaGreatRows
import Derived.Sort.OwnSortedInts
import Derived.Lib.SlicesCompact
import Derived.Shelf.Sort.Plain
import Derived.Shelf.Slices.In.SortNone
import Derived.Shelf.Small.Bits
import Derived.JoinedOf
set_option linter.unusedSimpArgs false
set_option linter.unusedVariables false
namespace Go.Proofs.YtgelnjmddabgpaaGreat
open Go Go.RowKit
set_option maxRecDepth 100000
theorem row3_cons (x : Stand) (l : List Stand) : rowC ((x :: l).map sdPV) = I x.school :: I x.total :: ints x.points :: rowC (l.map sdPV) := by simp [rowC, sdPV, sdCells]
theorem row3_len : ∀ l : List Stand, (rowC (l.map sdPV)).length = l.length * 3 := by
  intro l
  induction l with
  | nil => rfl
  | cons x l ih => rw [row3_cons]; simp only [List.length_cons, ih]; omega
theorem row3_ld : ∀ {l : List Stand} {j : Nat} {x : Stand}, l[j]? = some x → ((rowC (l.map sdPV)).drop (j * 3)).take 3 = [I x.school, I x.total, ints x.points] := by
  intro l
  induction l with
  | nil => intro j x h; simp at h
  | cons y l ih =>
    intro j x h
    rw [row3_cons]
    cases j with
    | zero =>
      simp only [List.getElem?_cons_zero, Option.some.injEq] at h
      subst h
      simp
    | succ j =>
      simp only [List.getElem?_cons_succ] at h
      rw [show (j + 1) * 3 = j * 3 + 1 + 1 + 1 by omega]
      simp only [List.drop_succ_cons]
      exact ih h
theorem row3_put (x : Stand) : ∀ {l : List Stand} {j : Nat}, j < l.length → (((rowC (l.map sdPV)).set (j * 3) (I x.school)).set (j * 3 + 1) (I x.total)).set (j * 3 + 1 + 1) (ints x.points) = rowC ((l.set j x).map sdPV) := by
  intro l
  induction l with
  | nil => intro j h; simp at h
  | cons y l ih =>
    intro j h
    rw [row3_cons]
    cases j with
    | zero =>
      have e : (y :: l).set 0 x = x :: l := rfl
      rw [e, row3_cons]; simp
    | succ j =>
      rw [List.set_cons_succ, row3_cons, show (j + 1) * 3 = j * 3 + 1 + 1 + 1 by omega]
      simp only [List.set_cons_succ]
      rw [ih (by simpa using h)]
theorem cA_row3 {a b c : Nat} {l : List Stand} : CleanAll a b c (rowC (l.map sdPV)) = True := eq_true fun p hp => by
  simp only [rowC, List.mem_flatMap, List.mem_map] at hp
  obtain ⟨q, ⟨x, _, rfl⟩, hp⟩ := hp
  exact cleans_sd x p hp
attribute [go_sem] cA_row3
theorem ld3 {σ : Sg} {id : Nat} (hlt : id < σ.store.length) {l : List Stand} {j : Nat} {x : Stand} (h : l[j]? = some x) : ldA 3 (σ.setVar id (rowC (l.map sdPV))) id (j * 3) = some (.agg [I x.school, I x.total, ints x.points]) := by
  have hj := (List.getElem?_eq_some_iff.1 h).1
  rw [ldA_at (sv_get hlt), if_pos (by rw [row3_len]; omega), row3_ld h]
/-- One standing sinks to its place. -/
def sink (ord : List Int) : Nat → List Stand → List Stand
  | 0, l => l
  | j + 1, l => match l[j + 1]?, l[j]? with
    | some x, some y => if cmpSt ord x y < 0 then sink ord j ((l.set (j + 1) y).set j x) else l
    | _, _ => l
def sinkAll (ord : List Int) : Nat → Nat → List Stand → List Stand
  | 0, _, l => l
  | k + 1, i, l => sinkAll ord k (i + 1) (sink ord i l)
def sortSd (ord : List Int) (l : List Stand) : List Stand := sinkAll ord (l.length - 1) 1 l
theorem mem_set2 {α : Type} {l : List α} {i j : Nat} {x y z : α} (hx : l[i]? = some x) (hy : l[j]? = some y) (h : z ∈ (l.set i y).set j x) : z ∈ l := by
  rcases List.mem_or_eq_of_mem_set h with h | h
  · rcases List.mem_or_eq_of_mem_set h with h | h
    · exact h
    · exact h ▸ List.mem_of_getElem? hy
  · exact h ▸ List.mem_of_getElem? hx
set_option maxHeartbeats 4000000 in
theorem insSort_pc (Y : YEnv) (σ : Sg) (id : Nat) (ord : List Int) (l : List Stand) (hd : σ.store[id]? = some (some (rowC (l.map sdPV)))) (hC : ∀ a b, a ∈ l → b ∈ l → CmpOk ord a b) (hol : ord.length < 2 ^ 40) (hl : 0 < l.length ∧ l.length ≤ 12) :
    PC Tryz.prog Y 102 [.gsl id l.length 3, I 0, I l.length, .func (.func 59) [.agg [ints ord]] []] σ (.tuple []) (σ.setVar id (rowC ((sortSd ord l).map sdPV))) := by
  refine PC_of_W Tryz.func102 rfl (by kernel_rfl) Tryz.ntmps102 (by simp) fun hcl hca => ?_
  have hlt := lt_of_get hd
  obtain ⟨res, hres⟩ : ∃ r, sortSd ord l = r := ⟨_, rfl⟩
  rw [hres]
  obtain ⟨n, hn⟩ : ∃ z, l.length = z := ⟨_, rfl⟩
  rw [hn] at hl ⊢
  refine W_seq fun kz1 kq1 => ?_
  refine W_region [0, 1, 2, 3, 8] fun R hR => ?_   -- r0
  simp only [go_sem, ldS_at hd, stX_at hd, ldS_sv hlt, stX_sv hlt, sv_ext hlt, sv_ext_sv hlt]
  try simp (disch := omega) only [wrapI, wrapU]
  refine hR _ _ (kq1 _ _ ?_); clear hR R; try clear kq1 kz1
  try simp only [go_sem, ldS_at hd, stX_at hd, ldS_sv hlt, stX_sv hlt, sv_ext hlt, sv_ext_sv hlt]
  refine W_block ?_
  refine W_loopT (α := Nat × (List Stand)) (fun ⟨i, m⟩ => [(8, I i)]) (fun ⟨i, m⟩ => σ.setVar id (rowC (m.map sdPV))) (fun ⟨i, m⟩ => 1 ≤ i ∧ i ≤ n ∧ m.length = n ∧ (∀ x, x ∈ m → x ∈ l) ∧ res = sinkAll ord (n - i) i m) (fun ⟨i, m⟩ => n - i) ((1, l)) rfl (by show σ.setVar id _ = σ; exact sv_self hd) (⟨Nat.le_refl _, by omega, hn, fun x hx => hx, by rw [← hres, sortSd, hn]⟩) ?_
  rintro ⟨i, m⟩ ⟨hi1, hi, hml, hmm, hinv⟩
  refine W_seq fun kz2 kq2 => ?_
  refine W_seq fun kz3 kq3 => ?_
  refine W_region [0, 1, 2, 3, 8, 14] fun R hR => ?_   -- r1
  simp only [go_sem, ldS_at hd, stX_at hd, ldS_sv hlt, stX_sv hlt, sv_ext hlt, sv_ext_sv hlt]
  refine hR _ _ (kq3 _ _ ?_); clear hR R; try clear kq3 kz3
  try simp only [go_sem, ldS_at hd, stX_at hd, ldS_sv hlt, stX_sv hlt, sv_ext hlt, sv_ext_sv hlt]
  refine W_cond rfl (fun c1 => ?_) (fun c1 => ?_)
  · -- c1 true
    try simp only [nrm] at c1
    have hin : i < n := by first | omega | (simp at c1; omega)
    rw [show n - i = (n - (i + 1)) + 1 by omega] at hinv
    simp only [sinkAll] at hinv
    refine W_skip (kq2 _ _ ?_)
    refine W_seq fun kz4 kq4 => ?_
    refine W_block ?_
    refine W_seq fun kz5 kq5 => ?_
    refine W_region [0, 1, 2, 3, 8, 9] fun R hR => ?_   -- r3
    simp only [go_sem, ldS_at hd, stX_at hd, ldS_sv hlt, stX_sv hlt, sv_ext hlt, sv_ext_sv hlt]
    refine hR _ _ (kq5 _ _ ?_); clear hR R; try clear kq5 kz5
    try simp only [go_sem, ldS_at hd, stX_at hd, ldS_sv hlt, stX_sv hlt, sv_ext hlt, sv_ext_sv hlt]
    refine W_block ?_
    refine W_loopT (α := Nat × (List Stand)) (fun ⟨j, m2⟩ => [(9, I j)]) (fun ⟨j, m2⟩ => σ.setVar id (rowC (m2.map sdPV))) (fun ⟨j, m2⟩ => j ≤ i ∧ m2.length = n ∧ (∀ x, x ∈ m2 → x ∈ l) ∧ sink ord i m = sink ord j m2) (fun ⟨j, m2⟩ => j) ((i, m)) rfl (by first | rfl | (simp only [go_sem]; done) | (simp only [go_sem]; rfl)) (⟨Nat.le_refl _, hml, hmm, rfl⟩) ?_
    rintro ⟨j, m2⟩ ⟨hj, hm2l, hm2, hsk⟩
    refine W_seq fun kz6 kq6 => ?_
    refine W_seq fun kz7 kq7 => ?_
    refine W_draw [0, 1, 2, 3, 8, 9, 34] [0, 1, 2, 3, 4, 5, 6, 7, 8, 9, 10, 11, 12, 13, 14, 15, 16] [] [[], [], [0, 1], [0, 1, 2], [0, 1, 2, 3], [0, 1, 2, 3], [0, 1, 2, 3], [0, 1, 2, 3, 5, 6], [0, 1, 2, 3, 5, 6, 7], [0, 1, 2, 3], [0, 1, 2, 3], [0, 1, 2, 3, 10], [0, 1, 2, 3, 9, 10, 11], [0, 1, 2, 3, 9, 10, 11, 12], [0, 1, 2, 3, 4, 5, 6, 7, 8, 9, 10, 11, 12, 13], [0, 1, 2, 3, 4, 5, 6, 7, 8, 9, 10, 11, 12, 13, 14], [0, 1, 2, 3, 4, 5, 6, 7, 8, 9, 10, 11, 12, 13, 14, 15]] mixed (by kernel_rfl) fun R hR => ?_   -- r4
    simp only [go_sem, ldS_at hd, stX_at hd, ldS_sv hlt, stX_sv hlt, sv_ext hlt, sv_ext_sv hlt]
    refine GWant_split (fun g1 => ?_) (fun g1 => ?_)
    · try simp only [Bool.not_eq_true', Bool.not_eq_false'] at g1
      have n1 := g1; try simp only [nrm] at n1
      obtain ⟨q, rfl⟩ : ∃ q, j = q + 1 := ⟨j - 1, by first | omega | (simp at g1; omega)⟩
      obtain ⟨x, hx⟩ : ∃ z, m2[q + 1]? = some z := ⟨m2[q + 1]'(by omega), by simp⟩
      obtain ⟨y, hy⟩ : ∃ z, m2[q]? = some z := ⟨m2[q]'(by omega), by simp⟩
      have hsk2 : sink ord (q + 1) m2 = if cmpSt ord x y < 0 then sink ord q ((m2.set (q + 1) y).set q x) else m2 := by simp only [sink, hx, hy]
      have hq1 : ((q + 1 : Nat) : Int) < (n : Int) := by omega
      have hq0 : ((q : Nat) : Int) < (n : Int) := by omega
      have hz1 : (0 : Int) ≤ ((q + 1 : Nat) : Int) := by omega
      have hqw : IntKind.i64.wrap (((q + 1 : Nat) : Int) - 1) = (q : Int) := by rw [wrapI (by omega) (by omega)]; omega
      have l1 := ld3 hlt hx
      have l2 := ld3 hlt hy
      have s1 : decide ((q + 1) * 3 + 3 ≤ (rowC (List.map sdPV m2)).length) = true := by rw [row3_len]; simp; omega
      have s2 : decide (q * 3 + 3 ≤ (rowC (List.map sdPV (m2.set (q + 1) y))).length) = true := by rw [row3_len]; simp; omega
      have s3 := row3_put y (l := m2) (j := q + 1) (by omega)
      have s4 := row3_put x (l := m2.set (q + 1) y) (j := q) (by simp; omega)
      simp only [go_sem, ldS_at hd, stX_at hd, ldS_sv hlt, stX_sv hlt, sv_ext hlt, sv_ext_sv hlt, hqw, hq1, hq0, iaM_nat (Int.ofNat_lt.1 hq1), iaM_nat (Int.ofNat_lt.1 hq0), Nat.zero_add, l1, l2, s1, s2, s3, s4, g1]
      try simp (disch := omega) only [wrapI, wrapU]
      refine GCall_of (compare_pc Y _ ord x y (hC x y (hm2 x (List.mem_of_getElem? hx)) (hm2 y (List.mem_of_getElem? hy))) hol) ?_   -- t32
      simp only [go_sem, ldS_at hd, stX_at hd, ldS_sv hlt, stX_sv hlt, sv_ext hlt, sv_ext_sv hlt, hqw, hq1, hq0, iaM_nat (Int.ofNat_lt.1 hq1), iaM_nat (Int.ofNat_lt.1 hq0), Nat.zero_add, l1, l2, s1, s2, s3, s4, g1]
      try simp (disch := omega) only [wrapI, wrapU]
      try refine And.intro (by repeat' (first | refine And.intro ?_ ?_ | exact GOr_right (fun _ => by simp only [go_sem, ldS_at hd, stX_at hd, ldS_sv hlt, stX_sv hlt, sv_ext hlt, sv_ext_sv hlt, hqw, hq1, hq0, iaM_nat (Int.ofNat_lt.1 hq1), iaM_nat (Int.ofNat_lt.1 hq0), Nat.zero_add, l1, l2, s1, s2, s3, s4]))) ?_
      refine hR _ _ (kq7 _ _ ?_); clear hR R; try clear kq7 kz7
      try simp only [go_sem, ldS_at hd, stX_at hd, ldS_sv hlt, stX_sv hlt, sv_ext hlt, sv_ext_sv hlt, hqw, hq1, hq0, iaM_nat (Int.ofNat_lt.1 hq1), iaM_nat (Int.ofNat_lt.1 hq0), Nat.zero_add, l1, l2, s1, s2, s3, s4]
      refine W_cond rfl (fun c2 => ?_) (fun c2 => ?_)
      · -- c2 true
        try simp only [nrm] at c2
        skip
        refine W_skip (kq6 _ _ ?_)
        refine W_seq fun kz8 kq8 => ?_
        refine W_block ?_
        refine W_draw [0, 1, 2, 3, 8, 9] [0, 1, 2, 3, 4, 5, 6, 7, 8, 9, 10, 11, 12, 13, 14, 15, 16, 17] [(2, 17), (3, 17), (4, 17)] [[], [], [], [], [3], [], [], [6], [5, 6, 7], [5, 6, 7, 8], [], [], [10, 11], [10, 11, 12], [0, 1, 5, 6, 7, 8, 9, 10, 11, 12, 13], [0, 1, 5, 6, 7, 8, 9, 10, 11, 12, 13, 14], [0, 1, 2, 3, 4, 5, 6, 7, 8, 9, 10, 11, 12, 13, 14, 15], [0, 1, 2, 3, 4, 5, 6, 7, 8, 9, 10, 11, 12, 13, 14, 15, 16]] mixed (by kernel_rfl) fun R hR => ?_   -- r6
        simp only [go_sem, ldS_at hd, stX_at hd, ldS_sv hlt, stX_sv hlt, sv_ext hlt, sv_ext_sv hlt, hqw, hq1, hq0, iaM_nat (Int.ofNat_lt.1 hq1), iaM_nat (Int.ofNat_lt.1 hq0), Nat.zero_add, l1, l2, s1, s2, s3, s4]
        try simp (disch := omega) only [wrapI, wrapU]
        try refine And.intro (by repeat' (first | refine And.intro ?_ ?_ | exact GOr_right (fun _ => by simp only [go_sem, ldS_at hd, stX_at hd, ldS_sv hlt, stX_sv hlt, sv_ext hlt, sv_ext_sv hlt, hqw, hq1, hq0, iaM_nat (Int.ofNat_lt.1 hq1), iaM_nat (Int.ofNat_lt.1 hq0), Nat.zero_add, l1, l2, s1, s2, s3, s4]))) ?_
        refine hR _ _ (kq8 _ _ ?_); clear hR R; try clear kq8 kz8
        try simp only [go_sem, ldS_at hd, stX_at hd, ldS_sv hlt, stX_sv hlt, sv_ext hlt, sv_ext_sv hlt, hqw, hq1, hq0, iaM_nat (Int.ofNat_lt.1 hq1), iaM_nat (Int.ofNat_lt.1 hq0), Nat.zero_add, l1, l2, s1, s2, s3, s4]
        refine W_region [0, 1, 2, 3, 8, 9] fun R hR => ?_   -- r5
        simp only [go_sem, ldS_at hd, stX_at hd, ldS_sv hlt, stX_sv hlt, sv_ext hlt, sv_ext_sv hlt, hqw, hq1, hq0, iaM_nat (Int.ofNat_lt.1 hq1), iaM_nat (Int.ofNat_lt.1 hq0), Nat.zero_add, l1, l2, s1, s2, s3, s4]
        try simp (disch := omega) only [wrapI, wrapU]
        refine hR _ _ ?_; clear hR R
        try simp only [go_sem, ldS_at hd, stX_at hd, ldS_sv hlt, stX_sv hlt, sv_ext hlt, sv_ext_sv hlt, hqw, hq1, hq0, iaM_nat (Int.ofNat_lt.1 hq1), iaM_nat (Int.ofNat_lt.1 hq0), Nat.zero_add, l1, l2, s1, s2, s3, s4]
        refine ⟨(q, (m2.set (q + 1) y).set q x), ?_, by (try simp only []); omega, ?_⟩
        · first | exact Weak.refl | exact Weak.eq (by first | rfl | (simp only [go_sem]; done) | (simp only [go_sem]; rfl) | (simp [go_sem]; done) | (simp [go_sem]; omega)) (by first | rfl | (simp only [go_sem]; done) | (simp [go_sem]; done))
        · try dsimp only
          refine ⟨by omega, by simp [hm2l], fun z hz => hm2 z (mem_set2 hx hy hz), ?_⟩
          rw [hsk, hsk2, if_pos (by simpa using c2)]
      · -- c2 false
        try simp only [nrm] at c2
        skip
        refine W_exit ?_
        simp only [go_sem, ldS_at hd, stX_at hd, ldS_sv hlt, stX_sv hlt, sv_ext hlt, sv_ext_sv hlt, hqw, hq1, hq0, iaM_nat (Int.ofNat_lt.1 hq1), iaM_nat (Int.ofNat_lt.1 hq0), Nat.zero_add, l1, l2, s1, s2, s3, s4]
        refine kq4 _ _ ?_
        refine W_region [0, 1, 2, 3, 8] fun R hR => ?_   -- r2
        simp only [go_sem, ldS_at hd, stX_at hd, ldS_sv hlt, stX_sv hlt, sv_ext hlt, sv_ext_sv hlt, hqw, hq1, hq0, iaM_nat (Int.ofNat_lt.1 hq1), iaM_nat (Int.ofNat_lt.1 hq0), Nat.zero_add, l1, l2, s1, s2, s3, s4]
        try simp (disch := omega) only [wrapI, wrapU]
        refine hR _ _ ?_; clear hR R
        try simp only [go_sem, ldS_at hd, stX_at hd, ldS_sv hlt, stX_sv hlt, sv_ext hlt, sv_ext_sv hlt, hqw, hq1, hq0, iaM_nat (Int.ofNat_lt.1 hq1), iaM_nat (Int.ofNat_lt.1 hq0), Nat.zero_add, l1, l2, s1, s2, s3, s4]
        refine ⟨(i + 1, m2), ?_, by (try simp only []); omega, ?_⟩
        · first | exact Weak.refl | exact Weak.eq (by first | rfl | (simp only [go_sem]; done) | (simp only [go_sem]; rfl) | (simp [go_sem]; done) | (simp [go_sem]; omega)) (by first | rfl | (simp only [go_sem]; done) | (simp [go_sem]; done))
        · try dsimp only
          refine ⟨by omega, by omega, hm2l, hm2, ?_⟩
          rw [hinv, hsk]
          first
          | rw [hsk2, if_neg (by simpa using c2)]
          | (have hj0 : j = 0 := by first | omega | (simp at g1; omega)
             subst hj0; rfl)
    · try simp only [Bool.not_eq_true', Bool.not_eq_false'] at g1
      have n1 := g1; try simp only [nrm] at n1
      simp only [go_sem, ldS_at hd, stX_at hd, ldS_sv hlt, stX_sv hlt, sv_ext hlt, sv_ext_sv hlt, g1]
      try simp (disch := omega) only [wrapI, wrapU]
      try refine And.intro (by repeat' (first | refine And.intro ?_ ?_ | exact GOr_right (fun _ => by simp only [go_sem, ldS_at hd, stX_at hd, ldS_sv hlt, stX_sv hlt, sv_ext hlt, sv_ext_sv hlt]))) ?_
      refine hR _ _ (kq7 _ _ ?_); clear hR R; try clear kq7 kz7
      try simp only [go_sem, ldS_at hd, stX_at hd, ldS_sv hlt, stX_sv hlt, sv_ext hlt, sv_ext_sv hlt]
      refine W_cond_false rfl ?_
      refine W_exit ?_
      simp only [go_sem, ldS_at hd, stX_at hd, ldS_sv hlt, stX_sv hlt, sv_ext hlt, sv_ext_sv hlt]
      refine kq4 _ _ ?_
      refine W_region [0, 1, 2, 3, 8] fun R hR => ?_   -- r2
      simp only [go_sem, ldS_at hd, stX_at hd, ldS_sv hlt, stX_sv hlt, sv_ext hlt, sv_ext_sv hlt]
      try simp (disch := omega) only [wrapI, wrapU]
      refine hR _ _ ?_; clear hR R
      try simp only [go_sem, ldS_at hd, stX_at hd, ldS_sv hlt, stX_sv hlt, sv_ext hlt, sv_ext_sv hlt]
      refine ⟨(i + 1, m2), ?_, by (try simp only []); omega, ?_⟩
      · first | exact Weak.refl | exact Weak.eq (by first | rfl | (simp only [go_sem]; done) | (simp only [go_sem]; rfl) | (simp [go_sem]; done) | (simp [go_sem]; omega)) (by first | rfl | (simp only [go_sem]; done) | (simp [go_sem]; done))
      · try dsimp only
        refine ⟨by omega, by omega, hm2l, hm2, ?_⟩
        rw [hinv, hsk]
        first
        | rw [hsk2, if_neg (by simpa using c2)]
        | (have hj0 : j = 0 := by first | omega | (simp at g1; omega)
           subst hj0; rfl)
  · -- c1 false
    try simp only [nrm] at c1
    have hie : n = i := by first | omega | (simp at c1; omega)
    subst hie
    rw [Nat.sub_self] at hinv
    simp only [sinkAll] at hinv
    subst hinv
    refine W_exit ?_
    simp only [go_sem, ldS_at hd, stX_at hd, ldS_sv hlt, stX_sv hlt, sv_ext hlt, sv_ext_sv hlt]
    try simp only [go_sem, ldS_at hd, stX_at hd, ldS_sv hlt, stX_sv hlt, sv_ext hlt, sv_ext_sv hlt]
    refine ⟨.inl (by trivial), ?_⟩
    first | refine Fin_set hcl (by simp only [go_sem]) rfl (Wk_eq ?_ (by simp only [go_sem])) | refine Fin_set0 hcl (by simp only [go_sem]) rfl (Wk_eq ?_ (by simp only [go_sem]))
    try simp only [go_sem]
    all_goals
      skip
set_option maxHeartbeats 2000000 in
theorem pdqSort_pc (Y : YEnv) (σ : Sg) (id : Nat) (ord : List Int) (l : List Stand) (hd : σ.store[id]? = some (some (rowC (l.map sdPV)))) (hC : ∀ a b, a ∈ l → b ∈ l → CmpOk ord a b) (hol : ord.length < 2 ^ 40) (hl : 0 < l.length ∧ l.length ≤ 12) (lim : Int) :
    PC Tryz.prog Y 86 [.gsl id l.length 3, I 0, I l.length, I lim, .func (.func 59) [.agg [ints ord]] []] σ (.tuple []) (σ.setVar id (rowC ((sortSd ord l).map sdPV))) := by
  refine PC_of_W Tryz.func86 rfl (by kernel_rfl) Tryz.ntmps86 (by simp) fun hcl hca => ?_
  have hlt := lt_of_get hd
  have hl2 : (l.length : Int) ≤ 12 := by omega
  refine W_seq fun kz1 kq1 => ?_
  refine W_region [0, 1, 2, 3, 4, 10] fun R hR => ?_   -- r0
  simp only [go_sem, ldS_at hd, stX_at hd, ldS_sv hlt, stX_sv hlt, sv_ext hlt, sv_ext_sv hlt]
  refine hR _ _ (kq1 _ _ ?_); clear hR R; try clear kq1 kz1
  try simp only [go_sem, ldS_at hd, stX_at hd, ldS_sv hlt, stX_sv hlt, sv_ext hlt, sv_ext_sv hlt]
  refine W_seq fun kz2 kq2 => ?_
  refine W_region [0, 1, 2, 3, 4, 10, 11] fun R hR => ?_   -- r1
  simp only [go_sem, ldS_at hd, stX_at hd, ldS_sv hlt, stX_sv hlt, sv_ext hlt, sv_ext_sv hlt]
  refine hR _ _ (kq2 _ _ ?_); clear hR R; try clear kq2 kz2
  try simp only [go_sem, ldS_at hd, stX_at hd, ldS_sv hlt, stX_sv hlt, sv_ext hlt, sv_ext_sv hlt]
  refine W_block ?_
  refine W_loopS (α := Nat) (fun (z : Nat) => []) (fun (z : Nat) => True) (fun (z : Nat) => 0) (0) rfl (trivial) ?_
  rintro z _
  refine W_block ?_
  refine W_seq fun kz3 kq3 => ?_
  refine W_region [0, 1, 2, 3, 4, 10, 11, 12] fun R hR => ?_   -- r2
  simp only [go_sem, ldS_at hd, stX_at hd, ldS_sv hlt, stX_sv hlt, sv_ext hlt, sv_ext_sv hlt]
  try simp (disch := omega) only [wrapI, wrapU]
  refine hR _ _ (kq3 _ _ ?_); clear hR R; try clear kq3 kz3
  try simp only [go_sem, ldS_at hd, stX_at hd, ldS_sv hlt, stX_sv hlt, sv_ext hlt, sv_ext_sv hlt]
  refine W_seq fun kz4 kq4 => ?_
  refine W_seq fun kz5 kq5 => ?_
  refine W_region [0, 1, 2, 3, 4, 10, 11, 12, 25] fun R hR => ?_   -- r3
  simp only [go_sem, ldS_at hd, stX_at hd, ldS_sv hlt, stX_sv hlt, sv_ext hlt, sv_ext_sv hlt]
  refine hR _ _ (kq5 _ _ ?_); clear hR R; try clear kq5 kz5
  try simp only [go_sem, ldS_at hd, stX_at hd, ldS_sv hlt, stX_sv hlt, sv_ext hlt, sv_ext_sv hlt]
  refine W_cond rfl (fun c1 => ?_) (fun c1 => ?_)
  · -- c1 true
    try simp only [nrm] at c1
    refine W_seq fun kz6 kq6 => ?_
    refine W_region [] fun R hR => ?_   -- r4
    simp only [go_sem, ldS_at hd, stX_at hd, ldS_sv hlt, stX_sv hlt, sv_ext hlt, sv_ext_sv hlt]
    refine GCall_of (insSort_pc Y _ id ord l hd hC hol hl) ?_   -- t30
    simp only [go_sem, ldS_at hd, stX_at hd, ldS_sv hlt, stX_sv hlt, sv_ext hlt, sv_ext_sv hlt]
    refine hR _ _ (kq6 _ _ ?_); clear hR R; try clear kq6 kz6
    try simp only [go_sem, ldS_at hd, stX_at hd, ldS_sv hlt, stX_sv hlt, sv_ext hlt, sv_ext_sv hlt]
    refine W_ret ?_
    simp only [go_sem, ldS_at hd, stX_at hd, ldS_sv hlt, stX_sv hlt, sv_ext hlt, sv_ext_sv hlt]
    refine ⟨.inr (by trivial), ?_⟩
    first | refine Fin_set hcl (by simp only [go_sem]) rfl (Wk_eq ?_ (by simp only [go_sem])) | refine Fin_set0 hcl (by simp only [go_sem]) rfl (Wk_eq ?_ (by simp only [go_sem]))
    try simp only [go_sem]
    all_goals
      skip
  · -- c1 false
    try simp only [nrm] at c1
    exfalso
    first | omega | (simp at c1; omega)
set_option maxHeartbeats 2000000 in
theorem sortFunc_pc (Y : YEnv) (σ : Sg) (id : Nat) (ord : List Int) (l : List Stand) (hd : σ.store[id]? = some (some (rowC (l.map sdPV)))) (hC : ∀ a b, a ∈ l → b ∈ l → CmpOk ord a b) (hol : ord.length < 2 ^ 40) (hl : 0 < l.length ∧ l.length ≤ 12) :
    PC Tryz.prog Y 60 [.gsl id l.length 3, .func (.func 59) [.agg [ints ord]] []] σ (.tuple []) (σ.setVar id (rowC ((sortSd ord l).map sdPV))) := by
  refine PC_of_W Tryz.func60 rfl (by kernel_rfl) Tryz.ntmps60 (by simp) fun hcl hca => ?_
  have hlt := lt_of_get hd
  refine W_seq fun kz1 kq1 => ?_
  refine W_region [0, 1, 4] fun R hR => ?_   -- r0
  simp only [go_sem, ldS_at hd, stX_at hd, ldS_sv hlt, stX_sv hlt, sv_ext hlt, sv_ext_sv hlt]
  refine hR _ _ (kq1 _ _ ?_); clear hR R; try clear kq1 kz1
  try simp only [go_sem, ldS_at hd, stX_at hd, ldS_sv hlt, stX_sv hlt, sv_ext hlt, sv_ext_sv hlt]
  refine W_region [] fun R hR => ?_   -- r1
  simp only [go_sem, ldS_at hd, stX_at hd, ldS_sv hlt, stX_sv hlt, sv_ext hlt, sv_ext_sv hlt]
  try simp (disch := omega) only [wrapI, wrapU]
  refine GCall_of (bitsLen_pc Y _ l.length (by omega) (by omega)) ?_   -- t11
  simp only [go_sem, ldS_at hd, stX_at hd, ldS_sv hlt, stX_sv hlt, sv_ext hlt, sv_ext_sv hlt]
  try simp (disch := omega) only [wrapI, wrapU]
  refine GCall_of (pdqSort_pc Y _ id ord l hd hC hol hl _) ?_   -- t13
  simp only [go_sem, ldS_at hd, stX_at hd, ldS_sv hlt, stX_sv hlt, sv_ext hlt, sv_ext_sv hlt]
  try simp (disch := omega) only [wrapI, wrapU]
  refine hR _ _ ?_; clear hR R
  try simp only [go_sem, ldS_at hd, stX_at hd, ldS_sv hlt, stX_sv hlt, sv_ext hlt, sv_ext_sv hlt]
  try simp only [go_sem, ldS_at hd, stX_at hd, ldS_sv hlt, stX_sv hlt, sv_ext hlt, sv_ext_sv hlt]
  refine ⟨.inl (by trivial), ?_⟩
  first | refine Fin_set hcl (by simp only [go_sem]) rfl (Wk_eq ?_ (by simp only [go_sem])) | refine Fin_set0 hcl (by simp only [go_sem]) rfl (Wk_eq ?_ (by simp only [go_sem]))
  try simp only [go_sem]
  all_goals
    skip
end Go.Proofs.YtgelnjmddabgpaaGreat
namespace Go.Proofs.YtgelnjmddabgpaaGreat
open Go Go.RowKit
set_option maxRecDepth 100000
/-- Standings that grow in place: nothing yet, or the last of a row of variables (those before it are gone). -/
def glS (n : Nat) (out : List Stand) : PV := match out with
  | [] => .gnil
  | _ :: t => .gsl (n + t.length) (t.length + 1) 3
def gsS (out : List Stand) : List (Option (List PV)) := match out with
  | [] => []
  | _ :: t => List.replicate t.length none ++ [some (rowC (out.map sdPV))]
theorem appendAny_gs {P : Program} {σ : Sg} {t t' : TypeId} {n : Nat} {out : List Stand} {m : List PV} {o : Own} : appendAny P σ t t' (glS n out) (.isl m o) = appendG P σ t t' (glS n out) (.isl m o) := by cases out <;> rfl
attribute [go_sem] appendAny_gs
section
variable {σ : Sg} {A : List (Option (List PV))} {rm : List Nat} {ys : List LState} {out : List Stand}
theorem gsS_get {x : Stand} : (A ++ gsS (x :: out))[A.length + out.length]? = some (some (rowC ((x :: out).map sdPV))) := by
  have : A.length + out.length = (A ++ List.replicate out.length (none : Option (List PV))).length := by simp
  rw [this, gsS, ← List.append_assoc]
  exact get_mid
theorem gsS_set {x : Stand} {y : Option (List PV)} : (A ++ gsS (x :: out)).set (A.length + out.length) y = A ++ (List.replicate out.length none ++ [y]) := by
  have : A.length + out.length = (A ++ List.replicate out.length (none : Option (List PV))).length := by simp
  rw [this, gsS, ← List.append_assoc, ← List.append_assoc]
  exact set_mid
theorem appG_gs (b : Nat) (x : Stand) (h : (out.length + 1) * b ≤ 2 ^ 47) : appG 3 b (σ.ext (A ++ gsS out) rm ys) (glS (σ.store.length + A.length) out) [.agg [I x.school, I x.total, ints x.points]] = some (glS (σ.store.length + A.length) (out ++ [x]), σ.ext (A ++ gsS (out ++ [x])) rm ys) := by
  cases out with
  | nil =>
    rw [glS, appG_nil (by rfl) (by simp) (by simpa using h)]
    simp [gsS, glS, rowC, Sg.push_ext, Sg.len_ext, sdPV, sdCells]
  | cons y out =>
    simp only [glS]
    rw [appG_more (cs := rowC ((y :: out).map sdPV)) (by rw [Nat.add_assoc, Sg.get_ext]; exact gsS_get) (by rw [row3_len]; simp) (by rfl) (by simp) (by simpa using h)]
    rw [Nat.add_assoc (Sg.store σ).length, Sg.drop_ext, gsS_set]
    simp only [Sg.push_ext, Sg.len_ext]
    have e : List.replicate (out ++ [x]).length (none : Option (List PV)) = List.replicate out.length none ++ [none] := by simp [List.replicate_succ']
    simp only [List.cons_append, gsS, e, glS]
    have e2 : rowC ((y :: (out ++ [x])).map sdPV) = rowC ((y :: out).map sdPV) ++ rowC [.agg [I x.school, I x.total, ints x.points]] := by
      simp [rowC, sdPV, sdCells]
    rw [e2]
    simp [Nat.add_assoc]
end
theorem sink_len (ord : List Int) : ∀ (j : Nat) (l : List Stand), (sink ord j l).length = l.length := by
  intro j
  induction j with
  | zero => intro l; rfl
  | succ j ih =>
    intro l
    simp only [sink]
    split
    · split
      · rw [ih]; simp
      · rfl
    · rfl
theorem sinkAll_len (ord : List Int) : ∀ (k i : Nat) (l : List Stand), (sinkAll ord k i l).length = l.length := by
  intro k
  induction k with
  | zero => intro i l; rfl
  | succ k ih => intro i l; simp only [sinkAll, ih, sink_len]
theorem sortSd_len (ord : List Int) (l : List Stand) : (sortSd ord l).length = l.length := sinkAll_len _ _ _ _
theorem sort_gs (Y : YEnv) (σ : Sg) (A : List (Option (List PV))) (rm : List Nat) (ord : List Int) (out : List Stand) (hC : ∀ a b, a ∈ out → b ∈ out → CmpOk ord a b) (hol : ord.length < 2 ^ 40) (hl : 0 < out.length ∧ out.length ≤ 12) :
    PC Tryz.prog Y 60 [glS (σ.store.length + A.length) out, .func (.func 59) [.agg [ints ord]] []] (σ.ext (A ++ gsS out) rm) (.tuple []) (σ.ext (A ++ gsS (sortSd ord out)) rm) := by
  cases out with
  | nil => simp at hl
  | cons x out =>
    have h1 := sortFunc_pc Y (σ.ext (A ++ gsS (x :: out)) rm) (σ.store.length + A.length + out.length) ord (x :: out) (by rw [Nat.add_assoc, Sg.get_ext]; exact gsS_get) hC hol hl
    rw [Nat.add_assoc, Sg.set_ext, gsS_set] at h1
    have e : A ++ (List.replicate out.length none ++ [some (rowC ((sortSd ord (x :: out)).map sdPV))]) = A ++ gsS (sortSd ord (x :: out)) := by
      have hs := sortSd_len ord (x :: out)
      cases hc : sortSd ord (x :: out) with
      | nil => rw [hc] at hs; simp at hs
      | cons y s =>
        rw [hc] at hs
        simp only [List.length_cons] at hs
        simp only [gsS]
        rw [show out.length = s.length by omega]
    rw [e] at h1
    simp only [glS]
    rw [Nat.add_assoc]
    exact h1
theorem glS_sort (n : Nat) (ord : List Int) (out : List Stand) : glS n (sortSd ord out) = glS n out := by
  have hl := sortSd_len ord out
  cases h : sortSd ord out with
  | nil =>
    rw [h] at hl
    cases out with
    | nil => rfl
    | cons x out => simp at hl
  | cons y s =>
    rw [h] at hl
    cases out with
    | nil => simp at hl
    | cons x out => simp only [List.length_cons] at hl; simp only [glS]; rw [show s.length = out.length by omega]
def sdUp (s : Scale) (k : Kn) (g : Night) (i : Nat) : List Stand := (List.range i).map fun (j : Nat) => standK s k g j 0
theorem sdUp_succ (s : Scale) (k : Kn) (g : Night) (i : Nat) : sdUp s k g (i + 1) = sdUp s k g i ++ [standK s k g i 0] := by simp [sdUp, List.range_succ]
/-- The table as the program makes it. -/
def tblP (s : Scale) (k : Kn) (g : Night) : List Stand := sortSd s.order (sdUp s k g s.schools.toNat)
def tableP (s : Scale) (g : Night) : List Stand × Int :=
  if knownE s g ≠ 0 then ([], knownE s g) else if sealedK s (knownK s g) ≠ [] then ([], 11) else (tblP s (knownK s g) g, 0)
set_option maxHeartbeats 2000000 in
theorem plcE_pc (Y : YEnv) (σ : Sg) (s : Scale) (g : Night) (hs : s.Ok) (hg : g.Ok) (sc : Int) (hE : knownE s g ≠ 0) :
    PC Tryz.prog Y 28 [scPV s, ngPV g, I sc] σ (.tuple [.agg [I 0, I 0], I (knownE s g)]) (σ) := by
  refine PC_of_W Tryz.func28 rfl (by kernel_rfl) Tryz.ntmps28 (by simp) fun hcl hca => ?_
  refine W_seq fun kz1 kq1 => ?_
  refine W_region [3, 4, 5, 6] fun R hR => ?_   -- r0
  simp only [go_sem]
  refine hR _ _ (kq1 _ _ ?_); clear hR R; try clear kq1 kz1
  try simp only [go_sem]
  refine W_seq fun kz2 kq2 => ?_
  refine W_region [3, 4, 5, 6, 8, 9] fun R hR => ?_   -- r1
  simp only [go_sem]
  refine GCall_of (knownOf_err Y _ s g hs hg hE) ?_   -- t14
  simp only [go_sem]
  refine hR _ _ (kq2 _ _ ?_); clear hR R; try clear kq2 kz2
  try simp only [go_sem]
  refine W_seq fun kz3 kq3 => ?_
  refine W_seq fun kz4 kq4 => ?_
  refine W_region [3, 4, 5, 6, 8, 9, 18] fun R hR => ?_   -- r2
  simp only [go_sem]
  refine hR _ _ (kq4 _ _ ?_); clear hR R; try clear kq4 kz4
  try simp only [go_sem]
  refine W_cond rfl (fun c1 => ?_) (fun c1 => ?_)
  · -- c1 true
    try simp only [nrm] at c1
    refine W_seq fun kz5 kq5 => ?_
    refine W_region [6, 7] fun R hR => ?_   -- r3
    simp only [go_sem]
    refine hR _ _ (kq5 _ _ ?_); clear hR R; try clear kq5 kz5
    try simp only [go_sem]
    refine W_ret ?_
    simp only [go_sem]
    refine ⟨.inr (by trivial), ?_⟩
    first | refine Fin_same hcl (by show resPV Tryz.prog _ _ [.cell 6 63, .tmp 7] = some _; simp only [resPV, go_sem]; rfl) (Wk_eq ?_ (by simp only [go_sem])) | refine Fin_same hcl rfl (Wk_eq ?_ (by simp only [go_sem]))
    try simp only [go_sem]
    all_goals
      first | rfl | (simp_all; done) | (simp_all; omega)
  · -- c1 false
    try simp only [nrm] at c1
    exfalso
    first | exact hE (by omega) | (simp at c1; exact hE (by omega))
set_option maxHeartbeats 2000000 in
theorem plcO_pc (Y : YEnv) (σ : Sg) (s : Scale) (g : Night) (hs : s.Ok) (hg : g.Ok) (sc : Int) (hE : knownE s g = 0) :
    PC Tryz.prog Y 28 [scPV s, ngPV g, I sc] σ (.tuple [.agg [I (placeA s g sc).1.1, I (placeA s g sc).1.2], I (placeA s g sc).2]) (σ) := by
  refine PC_of_W Tryz.func28 rfl (by kernel_rfl) Tryz.ntmps28 (by simp) fun hcl hca => ?_
  have hV := known_V hE
  obtain ⟨K, hK⟩ : ∃ z, knownK s g = z := ⟨_, rfl⟩
  rw [hK] at hV
  have hv := hV.v
  have q3 := hv.sc
  have q4 := hv.lo
  have q5 := hv.hi
  obtain ⟨N, hN⟩ : ∃ z : Nat, s.schools = z := ⟨s.schools.toNat, by omega⟩
  have hNi : (s.schools : Int) = (N : Int) := hN
  have hkn := fun Y σ => knownOf_ok Y σ s g hs hg hE
  rw [hK] at hkn
  refine W_seq fun kz1 kq1 => ?_
  refine W_region [3, 4, 5, 6] fun R hR => ?_   -- r0
  simp only [go_sem]
  refine hR _ _ (kq1 _ _ ?_); clear hR R; try clear kq1 kz1
  try simp only [go_sem]
  refine W_seq fun kz2 kq2 => ?_
  refine W_region [3, 4, 5, 6, 8, 9] fun R hR => ?_   -- r1
  simp only [go_sem]
  refine GCall_of (hkn Y _) ?_   -- t14
  simp only [go_sem]
  refine hR _ _ (kq2 _ _ ?_); clear hR R; try clear kq2 kz2
  try simp only [go_sem]
  refine W_seq fun kz3 kq3 => ?_
  refine W_seq fun kz4 kq4 => ?_
  refine W_region [3, 4, 5, 6, 8, 9, 18] fun R hR => ?_   -- r2
  simp only [go_sem]
  refine hR _ _ (kq4 _ _ ?_); clear hR R; try clear kq4 kz4
  try simp only [go_sem]
  refine W_cond_false rfl ?_
  refine W_skip (kq3 _ _ ?_)
  refine W_seq fun kz5 kq5 => ?_
  refine W_seq fun kz6 kq6 => ?_
  refine W_region [3, 4, 5, 6, 8, 26] fun R hR => ?_   -- r4
  simp only [go_sem]
  try simp (disch := omega) only [wrapI, wrapU]
  refine GCall_of (in_pc Y _ sc 0 _) ?_   -- t25
  simp only [go_sem]
  try simp (disch := omega) only [wrapI, wrapU]
  refine hR _ _ (kq6 _ _ ?_); clear hR R; try clear kq6 kz6
  try simp only [go_sem]
  refine W_cond rfl (fun c1 => ?_) (fun c1 => ?_)
  · -- c1 true
    try simp only [nrm] at c1
    refine W_seq fun kz7 kq7 => ?_
    refine W_region [6, 7] fun R hR => ?_   -- r5
    simp only [go_sem]
    refine hR _ _ (kq7 _ _ ?_); clear hR R; try clear kq7 kz7
    try simp only [go_sem]
    refine W_ret ?_
    simp only [go_sem]
    refine ⟨.inr (by trivial), ?_⟩
    first | refine Fin_same hcl (by show resPV Tryz.prog _ _ [.cell 6 63, .tmp 7] = some _; simp only [resPV, go_sem]; rfl) (Wk_eq ?_ (by simp only [go_sem])) | refine Fin_same hcl rfl (Wk_eq ?_ (by simp only [go_sem]))
    try simp only [go_sem]
    all_goals
      clear hNi hN; simp [placeA, hE, hK, *]
  · -- c1 false
    try simp only [nrm] at c1
    have hin : inR sc 0 (s.schools - 1) = true := c1
    have hin2 := hin
    simp only [inR_true] at hin2
    obtain ⟨n, rfl⟩ : ∃ n : Nat, sc = n := ⟨sc.toNat, by omega⟩
    refine W_skip (kq5 _ _ ?_)
    refine W_seq fun kz8 kq8 => ?_
    refine W_region [3, 6, 10] fun R hR => ?_   -- r6
    simp only [go_sem]
    refine hR _ _ (kq8 _ _ ?_); clear hR R; try clear kq8 kz8
    try simp only [go_sem]
    refine W_seq fun kz9 kq9 => ?_
    refine W_draw [6, 7] [0, 1, 2, 3, 4, 5, 6, 7, 8, 9, 10, 11, 12, 13, 14] [(6, 5), (7, 5), (8, 5), (9, 5), (10, 5)] [[], [], [1], [], [3], [0, 1, 2, 3, 4], [], [], [7], [], [9], [0, 1, 2, 3, 4, 5, 6, 7, 8, 9, 10], [0, 1, 2, 3, 4, 5, 6, 7, 8, 9, 10, 11], [0, 1, 2, 3, 4, 5, 6, 7, 8, 9, 10, 11, 12], [0, 1, 2, 3, 4, 5, 6, 7, 8, 9, 10, 11, 12, 13]] mixed (by kernel_rfl) fun R hR => ?_   -- r7
    simp only [go_sem]
    refine GCall_of (place1_pc Y _ (σ.store.length + 7) (σ.store.length + 6) (σ.store.length) (σ.store.length + 1) (σ.store.length + 2) s K g hV n (by omega) s.high s.low (by omega) (by omega) (Sg.get_ext ..) (Sg.get_ext ..) (Sg.get_ext0 ..) (Sg.get_ext ..) (Sg.get_ext ..)) ?_   -- t34
    simp only [go_sem]
    refine GCall_of (place1_pc Y _ (σ.store.length + 7) (σ.store.length + 6) (σ.store.length) (σ.store.length + 1) (σ.store.length + 2) s K g hV n (by omega) s.low s.high (by omega) (by omega) (Sg.get_ext ..) (Sg.get_ext ..) (Sg.get_ext0 ..) (Sg.get_ext ..) (Sg.get_ext ..)) ?_   -- t40
    simp only [go_sem]
    try refine And.intro (by repeat' (first | refine And.intro ?_ ?_ | exact GOr_right (fun _ => by simp only [go_sem]))) ?_
    refine hR _ _ (kq9 _ _ ?_); clear hR R; try clear kq9 kz9
    try simp only [go_sem]
    refine W_ret ?_
    simp only [go_sem]
    refine ⟨.inr (by trivial), ?_⟩
    first | refine Fin_same hcl (by show resPV Tryz.prog _ _ [.cell 6 63, .tmp 7] = some _; simp only [resPV, go_sem]; rfl) (Wk_eq ?_ (by simp only [go_sem])) | refine Fin_same hcl rfl (Wk_eq ?_ (by simp only [go_sem]))
    try simp only [go_sem]
    all_goals
      clear hNi hN; simp [placeA, hE, hK, *]
theorem Place_pc (Y : YEnv) (σ : Sg) (s : Scale) (g : Night) (hs : s.Ok) (hg : g.Ok) (sc : Int) : PC Tryz.prog Y 28 [scPV s, ngPV g, I sc] σ (.tuple [.agg [I (placeA s g sc).1.1, I (placeA s g sc).1.2], I (placeA s g sc).2]) σ := by
  by_cases h : knownE s g = 0
  · exact plcO_pc Y σ s g hs hg sc h
  · have e : placeA s g sc = ((0, 0), knownE s g) := by unfold placeA; rw [if_pos h]
    rw [e]; exact plcE_pc Y σ s g hs hg sc h
set_option maxHeartbeats 2000000 in
theorem tabE_pc (Y : YEnv) (σ : Sg) (s : Scale) (g : Night) (hs : s.Ok) (hg : g.Ok) (hE : knownE s g ≠ 0) :
    PC Tryz.prog Y 17 [scPV s, ngPV g] σ (.tuple [sds [], I (knownE s g)]) (σ) := by
  refine PC_of_W Tryz.func17 rfl (by kernel_rfl) Tryz.ntmps17 (by simp) fun hcl hca => ?_
  refine W_seq fun kz1 kq1 => ?_
  refine W_region [2, 3, 4, 5] fun R hR => ?_   -- r0
  simp only [go_sem]
  refine hR _ _ (kq1 _ _ ?_); clear hR R; try clear kq1 kz1
  try simp only [go_sem]
  refine W_seq fun kz2 kq2 => ?_
  refine W_region [2, 3, 4, 5, 6, 7] fun R hR => ?_   -- r1
  simp only [go_sem]
  refine GCall_of (knownOf_err Y _ s g hs hg hE) ?_   -- t14
  simp only [go_sem]
  refine hR _ _ (kq2 _ _ ?_); clear hR R; try clear kq2 kz2
  try simp only [go_sem]
  refine W_seq fun kz3 kq3 => ?_
  refine W_seq fun kz4 kq4 => ?_
  refine W_region [2, 3, 4, 5, 6, 7, 18] fun R hR => ?_   -- r2
  simp only [go_sem]
  refine hR _ _ (kq4 _ _ ?_); clear hR R; try clear kq4 kz4
  try simp only [go_sem]
  refine W_cond rfl (fun c1 => ?_) (fun c1 => ?_)
  · -- c1 true
    try simp only [nrm] at c1
    refine W_seq fun kz5 kq5 => ?_
    refine W_region [4, 5] fun R hR => ?_   -- r3
    simp only [go_sem]
    refine hR _ _ (kq5 _ _ ?_); clear hR R; try clear kq5 kz5
    try simp only [go_sem]
    refine W_ret ?_
    simp only [go_sem]
    refine ⟨.inr (by trivial), ?_⟩
    refine Fin_same hcl (by show resPV Tryz.prog _ _ [.cell 4 41, .cell 5 42] = some _; simp only [resPV, go_sem]; rfl) (Wk.ro (by simp only [go_sem]) ?_)
    try simp only [go_sem]
    all_goals
      first | rfl | (simp [PV.ro, PV.roL]; done)
  · -- c1 false
    try simp only [nrm] at c1
    exfalso
    first | exact hE (by omega) | (simp at c1; exact hE (by omega))
set_option maxHeartbeats 2000000 in
theorem tabS_pc (Y : YEnv) (σ : Sg) (s : Scale) (g : Night) (hs : s.Ok) (hg : g.Ok) (hE : knownE s g = 0) (hne0 : sealedK s (knownK s g) ≠ []) :
    PC Tryz.prog Y 17 [scPV s, ngPV g] σ (.tuple [sds [], I 11]) (σ) := by
  refine PC_of_W Tryz.func17 rfl (by kernel_rfl) Tryz.ntmps17 (by simp) fun hcl hca => ?_
  have hV := known_V hE
  obtain ⟨K, hK⟩ : ∃ z, knownK s g = z := ⟨_, rfl⟩
  rw [hK] at hV
  have hv := hV.v
  have q3 := hv.sc
  have q4 := hv.lo
  have q5 := hv.hi
  obtain ⟨N, hN⟩ : ∃ z : Nat, s.schools = z := ⟨s.schools.toNat, by omega⟩
  have hNi : (s.schools : Int) = (N : Int) := hN
  have hkn := fun Y σ => knownOf_ok Y σ s g hs hg hE
  rw [hK] at hkn
  have hne : sealedK s K ≠ [] := by rw [← hK]; exact hne0
  refine W_seq fun kz1 kq1 => ?_
  refine W_region [2, 3, 4, 5] fun R hR => ?_   -- r0
  simp only [go_sem]
  refine hR _ _ (kq1 _ _ ?_); clear hR R; try clear kq1 kz1
  try simp only [go_sem]
  refine W_seq fun kz2 kq2 => ?_
  refine W_region [2, 3, 4, 5, 6, 7] fun R hR => ?_   -- r1
  simp only [go_sem]
  refine GCall_of (hkn Y _) ?_   -- t14
  simp only [go_sem]
  refine hR _ _ (kq2 _ _ ?_); clear hR R; try clear kq2 kz2
  try simp only [go_sem]
  refine W_seq fun kz3 kq3 => ?_
  refine W_seq fun kz4 kq4 => ?_
  refine W_region [2, 3, 4, 5, 6, 7, 18] fun R hR => ?_   -- r2
  simp only [go_sem]
  refine hR _ _ (kq4 _ _ ?_); clear hR R; try clear kq4 kz4
  try simp only [go_sem]
  refine W_cond_false rfl ?_
  refine W_skip (kq3 _ _ ?_)
  refine W_seq fun kz5 kq5 => ?_
  refine W_seq fun kz6 kq6 => ?_
  refine W_region [2, 3, 4, 5, 6, 22] fun R hR => ?_   -- r4
  simp only [go_sem]
  refine GCall_of (sealed_pc Y _ (σ.store.length + 6) (by simp only [go_sem] <;> omega) s) ?_   -- t22
  simp only [go_sem]
  refine hR _ _ (kq6 _ _ ?_); clear hR R; try clear kq6 kz6
  try simp only [go_sem]
  refine W_block ?_
  have hLc : ∀ (z : Int) (n r yy : Nat), σ.store.length + 9 ≤ n → CleanLs n r yy [some (scCells s), some (ngCells g), some [.isl [] .exact], some [I z], some (scCells s), some (ngCells g), some (.mark :: knE K), some [.map (σ.store.length + 6)], some (scCells s)] := fun z n r yy h => by
    have c1 := cleans_ng (a := n) (b := r) (c := yy) g
    have c2 := cleans_sc (a := n) (b := r) (c := yy) s
    have c3 : CleanAll n r yy (knE K) := cA_kn.mpr trivial
    have c1' : CleanAll n r yy (ngCells g) := c1
    have c2' : CleanAll n r yy (scCells s) := c2
    simp only [CleanLs_cons, CleanLs_nil, CleanAll_cons, CleanAll_nil, Cl_map, Cl_mark, Cl_isl, OwnLt_exact, Cl_int, c1', c2', c3, true_and, and_true]
    omega
  refine W_rangeFunc (gf := 81) (v := .tuple []) (s := .done .ret) (σ5 := σ.ext [some (scCells s), some (ngCells g), some [.isl [] .exact], some [I 11], some (scCells s), some (ngCells g), some (.mark :: knE K), some [.map (σ.store.length + 6)], some (scCells s)] [] [.done .ret]) rfl (by simp) (fun args ρ b' ρ' => ∃ m n : Nat, args = [.agg [I m, I n]] ∧ b' = false ∧ ρ = (σ.ext [some (scCells s), some (ngCells g), some [.isl [] .exact], some [I 0], some (scCells s), some (ngCells g), some (.mark :: knE K), some [.map (σ.store.length + 6)], some (scCells s)] [] [.ready]).ext [some [.yield σ.ys.length], some (scCells s), some [I m, I n]] [] [.busy] ∧ ρ' = (σ.ext [some (scCells s), some (ngCells g), some [.isl [] .exact], some [I 11], some (scCells s), some (ngCells g), some (.mark :: knE K), some [.map (σ.store.length + 6)], some (scCells s)] [] [.done .ret]).ext [some [.yield σ.ys.length], some (scCells s), some [I m, I n]] [] [.busy]) ?_ ?_ ?_ ?_ ?_
  · rintro args τ b τ' ⟨m, n, rfl, rfl, rfl, rfl⟩
    refine ⟨rfl, ?_, ?_⟩
    · simp only [go_sem]
    · simp only [go_sem]
      refine W_skip ?_
      simp only [go_sem, putAll]
      skip
      refine W_post_weak ?_
      refine W_block ?_
      refine W_seq fun kz7 kq7 => ?_
      refine W_region [4, 5] fun R hR => ?_   -- r5
      simp only [go_sem, putAll]
      refine hR _ _ (kq7 _ _ ?_); clear hR R; try clear kq7 kz7
      try simp only [go_sem, putAll]
      refine W_ret ?_
      simp only [go_sem, putAll]
      refine ⟨[], _, Weak.keep [], ?_⟩
      simp only [RoundEnd, go_sem]
  · have hst := sealedB_pc (Y.at σ.ys.length (fun args ρ b' ρ' => ∃ m n : Nat, args = [.agg [I m, I n]] ∧ b' = false ∧ ρ = (σ.ext [some (scCells s), some (ngCells g), some [.isl [] .exact], some [I 0], some (scCells s), some (ngCells g), some (.mark :: knE K), some [.map (σ.store.length + 6)], some (scCells s)] [] [.ready]).ext [some [.yield σ.ys.length], some (scCells s), some [I m, I n]] [] [.busy] ∧ ρ' = (σ.ext [some (scCells s), some (ngCells g), some [.isl [] .exact], some [I 11], some (scCells s), some (ngCells g), some (.mark :: knE K), some [.map (σ.store.length + 6)], some (scCells s)] [] [.done .ret]).ext [some [.yield σ.ys.length], some (scCells s), some [I m, I n]] [] [.busy])) σ σ.ys.length (σ.store.length + 8) (σ.store.length + 7) (σ.store.length + 6) s hv K (σ.ext [some (scCells s), some (ngCells g), some [.isl [] .exact], some [I 0], some (scCells s), some (ngCells g), some (.mark :: knE K), some [.map (σ.store.length + 6)], some (scCells s)] [] [.ready]) (σ.ext [some (scCells s), some (ngCells g), some [.isl [] .exact], some [I 11], some (scCells s), some (ngCells g), some (.mark :: knE K), some [.map (σ.store.length + 6)], some (scCells s)] [] [.done .ret])
      (Sg.get_ext ..) (Sg.get_ext ..) (Sg.get_ext ..) (by simp only [go_sem]) (by simp only [go_sem]) (by simp only [go_sem]) (fun _ => CleanSg_ext hcl (hLc 11 _ _ _ (by simp only [go_sem] <;> omega))) hne
      (fun m n _ => by rw [YEnv.at_self]; exact ⟨m, n, rfl, rfl, rfl, rfl⟩)
    simp only [go_sem] at hst ⊢
    exact hst
  · simp only [go_sem]
  · simp only [go_sem]
    exact CleanCut_ext hcl (by first | omega | (simp only [go_sem] <;> omega)) (by first | omega | (simp only [go_sem] <;> omega)) (Nat.le_refl _) (hLc 11 _ _ _ (by first | omega | (simp only [go_sem] <;> omega)))
  · simp only [go_sem]
    simp only [AfterLoop]
    refine W_ret ?_
    simp only [go_sem]
    refine ⟨.inr (by trivial), ?_⟩
    refine Fin_same hcl (by show resPV Tryz.prog _ _ [.cell 4 41, .cell 5 42] = some _; simp only [resPV, go_sem]; rfl) (Wk.ro (by simp only [go_sem]) ?_)
    rfl
end Go.Proofs.YtgelnjmddabgpaaGreat
namespace Go.Proofs.YtgelnjmddabgpaaGreat
open Go Go.RowKit
set_option maxRecDepth 100000
theorem Weak.freezeS {N : Nat} {lo : Nat × Nat} {E : Env} {σ : Sg} {t : Nat} {A : List (Option (List PV))} {rm : List Nat} {ys : List LState} {out : List Stand} (ht : E.get t = glS (σ.store.length + A.length) out) (hne : out ≠ []) :
    Weak N lo E (σ.ext (A ++ gsS out) rm ys) (E.put (some t) (.isl (out.map sdPV) .ro)) (σ.ext (A ++ List.replicate out.length none) rm ys) := by
  cases out with
  | nil => exact absurd rfl hne
  | cons z zs =>
    have h := Weak.freeze (N := N) (lo := lo) (E := E) (σ := σ.ext (A ++ gsS (z :: zs)) rm ys) (t := t) (id := σ.store.length + (A.length + zs.length)) (len := zs.length + 1) (es := 3) (l := (z :: zs).map sdPV) (by rw [ht]; simp only [glS, Nat.add_assoc]) (by rw [Sg.get_ext]; exact gsS_get) (by simp) (fun q hq => by obtain ⟨x, _, rfl⟩ := List.mem_map.1 hq; rfl)
    rw [Sg.drop_ext, gsS_set] at h
    have e : List.replicate (z :: zs).length (none : Option (List PV)) = List.replicate zs.length none ++ [none] := by simp [List.replicate_succ']
    rw [e]
    exact h
set_option maxHeartbeats 4000000 in
theorem tabO_pc (Y : YEnv) (σ : Sg) (s : Scale) (g : Night) (hs : s.Ok) (hg : g.Ok) (hE : knownE s g = 0) (hne0 : sealedK s (knownK s g) = []) :
    PC Tryz.prog Y 17 [scPV s, ngPV g] σ (.tuple [sds (tblP s (knownK s g) g), I 0]) (σ) := by
  refine PC_of_W Tryz.func17 rfl (by kernel_rfl) Tryz.ntmps17 (by simp) fun hcl hca => ?_
  have hV := known_V hE
  obtain ⟨K, hK⟩ : ∃ z, knownK s g = z := ⟨_, rfl⟩
  rw [hK] at hV
  have hv := hV.v
  have q3 := hv.sc
  have q4 := hv.lo
  have q5 := hv.hi
  obtain ⟨N, hN⟩ : ∃ z : Nat, s.schools = z := ⟨s.schools.toNat, by omega⟩
  have hNi : (s.schools : Int) = (N : Int) := hN
  have hkn := fun Y σ => knownOf_ok Y σ s g hs hg hE
  rw [hK] at hkn
  have hne : sealedK s K = [] := by rw [← hK]; exact hne0
  have htb : tblP s (knownK s g) g = sortSd s.order (sdUp s K g N) := by rw [hK, tblP, hN, Int.toNat_natCast]
  rw [htb]
  have hol := hv.ol
  have q1 := hv.mt
  refine W_seq fun kz1 kq1 => ?_
  refine W_region [2, 3, 4, 5] fun R hR => ?_   -- r0
  simp only [go_sem]
  refine hR _ _ (kq1 _ _ ?_); clear hR R; try clear kq1 kz1
  try simp only [go_sem]
  refine W_seq fun kz2 kq2 => ?_
  refine W_region [2, 3, 4, 5, 6, 7] fun R hR => ?_   -- r1
  simp only [go_sem]
  refine GCall_of (hkn Y _) ?_   -- t14
  simp only [go_sem]
  refine hR _ _ (kq2 _ _ ?_); clear hR R; try clear kq2 kz2
  try simp only [go_sem]
  refine W_seq fun kz3 kq3 => ?_
  refine W_seq fun kz4 kq4 => ?_
  refine W_region [2, 3, 4, 5, 6, 7, 18] fun R hR => ?_   -- r2
  simp only [go_sem]
  refine hR _ _ (kq4 _ _ ?_); clear hR R; try clear kq4 kz4
  try simp only [go_sem]
  refine W_cond_false rfl ?_
  refine W_skip (kq3 _ _ ?_)
  refine W_seq fun kz5 kq5 => ?_
  refine W_seq fun kz6 kq6 => ?_
  refine W_region [2, 3, 4, 5, 6, 22] fun R hR => ?_   -- r4
  simp only [go_sem]
  refine GCall_of (sealed_pc Y _ (σ.store.length + 6) (by simp only [go_sem] <;> omega) s) ?_   -- t22
  simp only [go_sem]
  refine hR _ _ (kq6 _ _ ?_); clear hR R; try clear kq6 kz6
  try simp only [go_sem]
  refine W_block ?_
  have hLc : ∀ (z : Int) (n r yy : Nat), σ.store.length + 9 ≤ n → CleanLs n r yy [some (scCells s), some (ngCells g), some [.isl [] .exact], some [I z], some (scCells s), some (ngCells g), some (.mark :: knE K), some [.map (σ.store.length + 6)], some (scCells s)] := fun z n r yy h => by
    have c1 := cleans_ng (a := n) (b := r) (c := yy) g
    have c2 := cleans_sc (a := n) (b := r) (c := yy) s
    have c3 : CleanAll n r yy (knE K) := cA_kn.mpr trivial
    have c1' : CleanAll n r yy (ngCells g) := c1
    have c2' : CleanAll n r yy (scCells s) := c2
    simp only [CleanLs_cons, CleanLs_nil, CleanAll_cons, CleanAll_nil, Cl_map, Cl_mark, Cl_isl, OwnLt_exact, Cl_int, c1', c2', c3, true_and, and_true]
    omega
  refine W_rangeFunc (gf := 81) (v := .tuple []) (s := .ready) (σ5 := σ.ext [some (scCells s), some (ngCells g), some [.isl [] .exact], some [I 0], some (scCells s), some (ngCells g), some (.mark :: knE K), some [.map (σ.store.length + 6)], some (scCells s)] [] [.ready]) rfl (by simp) (fun _ _ _ _ => False) ?_ ?_ ?_ ?_ ?_
  · intro args τ b τ' h; exact h.elim
  · have hst := sealedA_pc (Y.at σ.ys.length (fun _ _ _ _ => False)) σ σ.ys.length (σ.store.length + 8) (σ.store.length + 7) (σ.store.length + 6) s hv K (fun _ => σ.ext [some (scCells s), some (ngCells g), some [.isl [] .exact], some [I 0], some (scCells s), some (ngCells g), some (.mark :: knE K), some [.map (σ.store.length + 6)], some (scCells s)] [] [.ready])
      (fun _ _ => Sg.get_ext ..) (fun _ _ => Sg.get_ext ..) (fun _ _ => Sg.get_ext ..) (fun _ _ => ⟨rfl, rfl, rfl⟩) (fun h _ _ => h)
      (fun c m n h => by rw [hne] at h; simp at h)
    simp only [go_sem] at hst ⊢
    exact hst
  · simp only [go_sem]
  · simp only [go_sem]
    exact CleanCut_ext hcl (by first | omega | (simp only [go_sem] <;> omega)) (by first | omega | (simp only [go_sem] <;> omega)) (Nat.le_refl _) (hLc 0 _ _ _ (by first | omega | (simp only [go_sem] <;> omega)))
  · simp only [AfterLoop, go_sem]
    refine kq5 _ _ ?_
    refine W_seq fun kz7 kq7 => ?_
    refine W_region [2, 3, 4, 5, 6, 8] fun R hR => ?_   -- r6
    simp only [go_sem]
    refine hR _ _ (kq7 _ _ ?_); clear hR R; try clear kq7 kz7
    try simp only [go_sem]
    refine W_seq fun kz8 kq8 => ?_
    refine W_seq fun kz9 kq9 => ?_
    refine W_region [2, 3, 4, 5, 6, 8, 25, 26] fun R hR => ?_   -- r7
    simp only [go_sem]
    refine hR _ _ (kq9 _ _ ?_); clear hR R; try clear kq9 kz9
    try simp only [go_sem]
    refine W_block ?_
    refine W_weak (Weak.gnil (t := 8) rfl) ?_
    refine W_weak (Weak.keep [2, 3, 4, 5, 6, 8, 25, 26]) ?_
    simp only [go_sem]
    refine W_loopT (α := Nat) (fun (i : Nat) => [(8, glS (σ.store.length + 9) (sdUp s K g i)), (26, I i)]) (fun (i : Nat) => σ.ext ([some (scCells s), some (ngCells g), some [.isl [] .exact], some [I 0], some (scCells s), some (ngCells g), some (.mark :: knE K), some [.map (σ.store.length + 6)], some (scCells s)] ++ gsS (sdUp s K g i)) []) (fun (i : Nat) => i ≤ N) (fun (i : Nat) => N - i) (0) rfl (by first | rfl | (simp only [go_sem]; done) | (simp only [go_sem]; rfl)) (Nat.zero_le _) ?_
    rintro i hi
    refine W_seq fun kz10 kq10 => ?_
    refine W_region [2, 3, 4, 5, 6, 8, 25, 26, 27] fun R hR => ?_   -- r8
    simp only [go_sem]
    refine hR _ _ (kq10 _ _ ?_); clear hR R; try clear kq10 kz10
    try simp only [go_sem]
    refine W_seq fun kz11 kq11 => ?_
    refine W_cond rfl (fun c1 => ?_) (fun c1 => ?_)
    · -- c1 true
      try simp only [nrm] at c1
      have hiN : i < N := by first | omega | (simp at c1; omega)
      have hsu := sdUp_succ s K g i
      have hsl : (sdUp s K g i).length = i := by simp [sdUp]
      have happ := appG_gs (σ := σ) (A := [some (scCells s), some (ngCells g), some [.isl [] .exact], some [I 0], some (scCells s), some (ngCells g), some (.mark :: knE K), some [.map (σ.store.length + 6)], some (scCells s)]) (rm := []) (ys := []) (out := sdUp s K g i) 40 (standK s K g i 0) (by omega)
      rw [← hsu] at happ
      simp only [go_sem, List.length_cons, List.length_nil] at happ
      refine W_skip (kq11 _ _ ?_)
      refine W_seq fun kz12 kq12 => ?_
      refine W_block ?_
      refine W_seq fun kz13 kq13 => ?_
      refine W_region [2, 3, 4, 5, 6, 8, 9, 25, 26] fun R hR => ?_   -- r9
      simp only [go_sem, happ]
      refine hR _ _ (kq13 _ _ ?_); clear hR R; try clear kq13 kz13
      try simp only [go_sem, happ]
      refine W_region [2, 3, 4, 5, 6, 8, 25, 26] fun R hR => ?_   -- r10
      simp only [go_sem, happ]
      refine GCall_of (standing_pc Y _ (σ.store.length + 6) K (Sg.get_ext ..) s g hV i (by omega) 0 (by omega)) ?_   -- t34
      simp only [go_sem, happ]
      try simp (disch := first | omega | (simp only [go_sem] <;> omega)) only [wrapI, wrapU, appX_exact, appX_tok]
      try simp only [go_sem, happ]
      refine hR _ _ (kq12 _ _ ?_); clear hR R; try clear kq12 kz12
      try simp only [go_sem, happ]
      refine W_region [2, 3, 4, 5, 6, 8, 25, 26] fun R hR => ?_   -- r11
      simp only [go_sem, happ]
      try simp (disch := omega) only [wrapI, wrapU]
      refine hR _ _ ?_; clear hR R
      try simp only [go_sem, happ]
      refine ⟨i + 1, ?_, by (try simp only []); omega, ?_⟩
      · exact Weak.refl
      · try dsimp only
        omega
    · -- c1 false
      try simp only [nrm] at c1
      have hie : N = i := by first | omega | (simp at c1; omega)
      subst hie
      have hsl : (sdUp s K g N).length = N := by simp [sdUp]
      have hCmp : ∀ a b, a ∈ sdUp s K g N → b ∈ sdUp s K g N → CmpOk s.order a b := fun a b ha hb => by
        obtain ⟨x, hx, rfl⟩ := List.mem_map.1 ha
        obtain ⟨y, hy, rfl⟩ := List.mem_map.1 hb
        have h1 := List.mem_range.1 hx
        have h2 := List.mem_range.1 hy
        exact cmp_ok hV (by omega) (by omega) (by omega) (by omega)
      refine W_exit ?_
      simp only [go_sem]
      refine kq8 _ _ ?_
      refine W_seq fun kz14 kq14 => ?_
      refine W_region [4, 5, 8, 10] fun R hR => ?_   -- r12
      simp only [go_sem]
      refine hR _ _ (kq14 _ _ ?_); clear hR R; try clear kq14 kz14
      try simp only [go_sem]
      refine W_seq fun kz15 kq15 => ?_
      refine W_region [4, 5, 8] fun R hR => ?_   -- r13
      simp only [go_sem]
      refine GCall_of (sort_gs Y σ [_, _, _, _, _, _, _, _, _] [] s.order (sdUp s K g N) hCmp (by omega) (by omega)) ?_   -- t44
      simp only [go_sem]
      refine hR _ _ (kq15 _ _ ?_); clear hR R; try clear kq15 kz15
      try simp only [go_sem]
      refine W_seq fun kz16 kq16 => ?_
      have hne3 : sortSd s.order (sdUp s K g N) ≠ [] := fun e => by
        have := sortSd_len s.order (sdUp s K g N)
        rw [e, hsl] at this
        simp at this; omega
      refine W_weak (Weak.freezeS (t := 8) (A := [_, _, _, _, _, _, _, _, _]) (out := sortSd s.order (sdUp s K g N)) (by rw [glS_sort]; rfl) hne3) ?_
      refine W_weak (Weak.keep [4, 5, 8]) ?_
      simp only [go_sem]
      refine W_region [4, 5] fun R hR => ?_   -- r14
      simp only [go_sem]
      refine hR _ _ (kq16 _ _ ?_); clear hR R; try clear kq16 kz16
      try simp only [go_sem]
      refine W_ret ?_
      simp only [go_sem]
      refine ⟨.inr (by trivial), ?_⟩
      refine Fin_same hcl (by show resPV Tryz.prog _ _ [.cell 4 41, .cell 5 42] = some _; simp only [resPV, go_sem]; rfl) (Wk.ro (by simp only [go_sem]) ?_)
      try simp only [go_sem]
      all_goals
        first | rfl | simp only [go_sem]
theorem Table_pc (Y : YEnv) (σ : Sg) (s : Scale) (g : Night) (hs : s.Ok) (hg : g.Ok) : PC Tryz.prog Y 17 [scPV s, ngPV g] σ (.tuple [sds (tableP s g).1, I (tableP s g).2]) σ := by
  unfold tableP
  by_cases h : knownE s g = 0
  · rw [if_neg (by simpa using h)]
    by_cases h2 : sealedK s (knownK s g) = []
    · rw [if_neg (by simpa using h2)]; exact tabO_pc Y σ s g hs hg h h2
    · rw [if_pos h2]; exact tabS_pc Y σ s g hs hg h h2
  · rw [if_pos h]; exact tabE_pc Y σ s g hs hg h
end Go.Proofs.YtgelnjmddabgpaaGreat
namespace Go.Proofs.YtgelnjmddabgpaaGreat
open Go Go.RowKit
set_option maxRecDepth 100000
def insI (x : Int) : List Int → List Int
  | [] => [x]
  | y :: l => if x ≤ y then x :: y :: l else y :: insI x l
def isortI : List Int → List Int
  | [] => []
  | x :: l => insI x (isortI l)
theorem sorted_sortI (l : List Int) : (sortI l).Pairwise (· ≤ ·) := by
  have h := List.pairwise_mergeSort (le := fun (a b : Int) => decide (a ≤ b)) (by intro a b c h1 h2; simp at *; omega) (by intro a b; simp; omega) l
  exact h.imp fun h => by simpa using h
theorem perm_sortI (l : List Int) : (sortI l).Perm l := List.mergeSort_perm l _
theorem insI_perm (x : Int) : ∀ l : List Int, (insI x l).Perm (x :: l) := by
  intro l
  induction l with
  | nil => exact .refl _
  | cons y l ih =>
    simp only [insI]
    split
    · exact .refl _
    · exact (ih.cons y).trans (.swap x y l)
theorem insI_sorted (x : Int) : ∀ {l : List Int}, l.Pairwise (· ≤ ·) → (insI x l).Pairwise (· ≤ ·) := by
  intro l
  induction l with
  | nil => intro _; simp [insI]
  | cons y l ih =>
    intro h
    obtain ⟨h1, h2⟩ := List.pairwise_cons.1 h
    simp only [insI]
    split
    · rename_i hxy
      exact List.pairwise_cons.2 ⟨fun z hz => by rcases List.mem_cons.1 hz with rfl | hz; exact hxy; exact Int.le_trans hxy (h1 z hz), h⟩
    · rename_i hxy
      refine List.pairwise_cons.2 ⟨fun z hz => ?_, ih h2⟩
      rcases List.mem_cons.1 ((insI_perm x l).mem_iff.1 hz) with rfl | hz
      · omega
      · exact h1 z hz
theorem isortI_perm : ∀ l : List Int, (isortI l).Perm l := by
  intro l
  induction l with
  | nil => exact .refl _
  | cons x l ih => exact (insI_perm x _).trans (ih.cons x)
theorem isortI_sorted : ∀ l : List Int, (isortI l).Pairwise (· ≤ ·) := by
  intro l
  induction l with
  | nil => exact .nil
  | cons x l ih => exact insI_sorted x ih
theorem sorted_unique : ∀ {l m : List Int}, l.Perm m → l.Pairwise (· ≤ ·) → m.Pairwise (· ≤ ·) → l = m := by
  intro l
  induction l with
  | nil => intro m h _ _; exact h.nil_eq
  | cons x l ih =>
    intro m h h1 h2
    obtain ⟨a1, a2⟩ := List.pairwise_cons.1 h1
    cases m with
    | nil => exact absurd h.length_eq (by simp)
    | cons y m =>
      obtain ⟨b1, b2⟩ := List.pairwise_cons.1 h2
      have e : x = y := by
        have hx : x ∈ y :: m := h.mem_iff.1 (by simp)
        have hy : y ∈ x :: l := h.mem_iff.2 (by simp)
        rcases List.mem_cons.1 hx with e | hx
        · exact e
        · rcases List.mem_cons.1 hy with e | hy
          · exact e.symm
          · have := b1 x hx; have := a1 y hy; omega
      subst e
      rw [ih ((List.perm_cons x).1 h) a2 b2]
theorem sortI_eq : sortI = isortI := by
  funext l
  exact sorted_unique ((perm_sortI l).trans (isortI_perm l).symm) (sorted_sortI l) (isortI_sorted l)
def exScale : Scale := ⟨3, 2, 3, 1, 50, 100, [1, 0]⟩
def exNight : Night := ⟨[⟨0, 0, [100, 90, 80], 633⟩, ⟨0, 1, [90, 100, 80], 655⟩, ⟨0, 2, [95, 95, 95], 707⟩, ⟨1, 0, [80, 90, 100], 774⟩, ⟨1, 1, [100, 70, 90], 736⟩], [(1, 2)], [(2, 5)]⟩
def exBefore : Night := ⟨[⟨0, 0, [100, 90, 80], 633⟩, ⟨0, 1, [90, 100, 80], 655⟩, ⟨0, 2, [95, 95, 95], 707⟩, ⟨1, 0, [80, 90, 100], 774⟩], [(1, 2)], [(2, 5)]⟩
theorem exTable : tableP exScale exNight = ([⟨0, 385, [195, 190]⟩, ⟨2, 365, [175, 195]⟩, ⟨1, 365, [195, 170]⟩], 0) := by
  simp only [tableP, tblP, sdUp, standK, pointsL, pointsK, sortI_eq]
  decide +kernel
theorem exTotals : totalsA exScale exBefore = ([(340, 385), (355, 390), (345, 370)], 0) := by
  simp only [totalsA, standK, pointsL, pointsK, sortI_eq]
  decide +kernel
theorem exPlace : placeA exScale exBefore 0 = ((1, 3), 0) := by
  simp only [placeA, placeK, standK, pointsL, pointsK, sortI_eq]
  decide +kernel
theorem exScale_ok : exScale.Ok := ⟨by decide⟩
theorem exNight_ok : exNight.Ok := ⟨by decide, by decide, by decide, by decide⟩
theorem exBefore_ok : exBefore.Ok := ⟨by decide, by decide, by decide, by decide⟩
set_option maxHeartbeats 2000000 in
theorem EqInts_pc (Y : YEnv) (σ : Sg) (xs ys : List Int) (o o2 : Own) (hx : xs.length < 2 ^ 50) :
    PC Tryz.prog Y 48 [.isl (xs.map I) o, .isl (ys.map I) o2] σ (.bool (decide (xs = ys))) (σ) := by
  refine PC_of_W Tryz.func48 rfl (by kernel_rfl) Tryz.ntmps48 (by simp) fun hcl hca => ?_
  refine W_seq fun kz1 kq1 => ?_
  refine W_region [0, 1] fun R hR => ?_   -- r0
  simp only [go_sem]
  refine hR _ _ (kq1 _ _ ?_); clear hR R; try clear kq1 kz1
  try simp only [go_sem]
  refine W_seq fun kz2 kq2 => ?_
  refine W_seq fun kz3 kq3 => ?_
  refine W_region [0, 1, 10] fun R hR => ?_   -- r1
  simp only [go_sem]
  refine hR _ _ (kq3 _ _ ?_); clear hR R; try clear kq3 kz3
  try simp only [go_sem]
  refine W_cond rfl (fun c1 => ?_) (fun c1 => ?_)
  · -- c1 true
    try simp only [nrm] at c1
    refine W_seq fun kz4 kq4 => ?_
    refine W_region [4] fun R hR => ?_   -- r2
    simp only [go_sem]
    refine hR _ _ (kq4 _ _ ?_); clear hR R; try clear kq4 kz4
    try simp only [go_sem]
    refine W_ret ?_
    simp only [go_sem]
    refine ⟨.inr (by trivial), ?_⟩
    first | refine Fin_same hcl rfl (Wk_eq ?_ (by simp only [go_sem])) | refine Fin_self hcl rfl (Wk_eq ?_ (by simp only [go_sem]))
    try simp only [go_sem]
    all_goals
      simp; intro h; subst h; exact c1 rfl
  · -- c1 false
    try simp only [nrm] at c1
    refine W_skip (kq2 _ _ ?_)
    refine W_seq fun kz5 kq5 => ?_
    refine W_seq fun kz6 kq6 => ?_
    refine W_region [0, 1, 5] fun R hR => ?_   -- r3
    simp only [go_sem]
    refine hR _ _ (kq6 _ _ ?_); clear hR R; try clear kq6 kz6
    try simp only [go_sem]
    refine W_block ?_
    refine W_loopS (α := Nat) (fun (i : Nat) => [(5, I i)]) (fun (i : Nat) => i ≤ xs.length ∧ xs.take i = ys.take i) (fun (i : Nat) => xs.length - i) (0) rfl (⟨Nat.zero_le _, rfl⟩) ?_
    rintro i ⟨hi, ht⟩
    refine W_seq fun kz7 kq7 => ?_
    refine W_seq fun kz8 kq8 => ?_
    refine W_region [0, 1, 5, 14] fun R hR => ?_   -- r4
    simp only [go_sem]
    refine hR _ _ (kq8 _ _ ?_); clear hR R; try clear kq8 kz8
    try simp only [go_sem]
    refine W_cond rfl (fun c2 => ?_) (fun c2 => ?_)
    · -- c2 true
      try simp only [nrm] at c2
      have hi' : i < xs.length := by first | assumption | omega
      obtain ⟨x, hxi⟩ : ∃ x, xs[i]? = some x := ⟨xs[i], by simp⟩
      obtain ⟨y, hyi⟩ : ∃ y, ys[i]? = some y := ⟨ys[i]'(by omega), by simp⟩
      refine W_skip (kq7 _ _ ?_)
      refine W_seq fun kz9 kq9 => ?_
      refine W_block ?_
      refine W_seq fun kz10 kq10 => ?_
      refine W_draw [0, 1, 5, 25] [0, 1, 2, 3, 4, 5, 6, 7, 8] [] [[], [], [0, 1], [0, 1, 2], [], [], [4, 5], [4, 5, 6], [0, 1, 2, 3, 4, 5, 6, 7]] mixed (by kernel_rfl) fun R hR => ?_   -- r6
      simp only [go_sem, hxi, hyi]
      try refine And.intro (by repeat' (first | refine And.intro ?_ ?_ | exact GOr_right (fun _ => by simp only [go_sem, hxi, hyi]))) ?_
      refine hR _ _ (kq10 _ _ ?_); clear hR R; try clear kq10 kz10
      try simp only [go_sem, hxi, hyi]
      refine W_cond rfl (fun c3 => ?_) (fun c3 => ?_)
      · -- c3 true
        try simp only [nrm] at c3
        refine W_seq fun kz11 kq11 => ?_
        refine W_region [4] fun R hR => ?_   -- r7
        simp only [go_sem, hxi, hyi]
        refine hR _ _ (kq11 _ _ ?_); clear hR R; try clear kq11 kz11
        try simp only [go_sem, hxi, hyi]
        refine W_ret ?_
        simp only [go_sem, hxi, hyi]
        refine ⟨.inr (by trivial), ?_⟩
        first | refine Fin_same hcl rfl (Wk_eq ?_ (by simp only [go_sem])) | refine Fin_self hcl rfl (Wk_eq ?_ (by simp only [go_sem]))
        try simp only [go_sem]
        all_goals
          simp; intro h; subst h; rw [hxi] at hyi; injection hyi with h; exact c3 h
      · -- c3 false
        try simp only [nrm] at c3
        refine W_skip (kq9 _ _ ?_)
        refine W_region [0, 1, 5] fun R hR => ?_   -- r5
        simp only [go_sem, hxi, hyi]
        try simp (disch := omega) only [wrapI, wrapU]
        refine hR _ _ ?_; clear hR R
        try simp only [go_sem, hxi, hyi]
        refine ⟨i + 1, ?_, by (try simp only []); omega, ?_⟩
        · first | exact Weak.refl | exact Weak.eq (by first | rfl | (simp only [go_sem]; done) | (simp only [go_sem]; rfl) | (simp [go_sem]; done) | (simp [go_sem]; omega)) (by first | rfl | (simp only [go_sem]; done) | (simp [go_sem]; done))
        · try dsimp only
          refine ⟨hi', ?_⟩
          rw [List.take_add_one, List.take_add_one, ht, hxi, hyi, c3]
    · -- c2 false
      try simp only [nrm] at c2
      have hie : i = xs.length := by omega
      subst hie
      have hxy : xs = ys := by rw [List.take_length] at ht; rw [c1, List.take_length] at ht; exact ht
      refine W_exit ?_
      simp only [go_sem]
      refine kq5 _ _ ?_
      refine W_seq fun kz12 kq12 => ?_
      refine W_region [4] fun R hR => ?_   -- r8
      simp only [go_sem]
      refine hR _ _ (kq12 _ _ ?_); clear hR R; try clear kq12 kz12
      try simp only [go_sem]
      refine W_ret ?_
      simp only [go_sem]
      refine ⟨.inr (by trivial), ?_⟩
      first | refine Fin_same hcl rfl (Wk_eq ?_ (by simp only [go_sem])) | refine Fin_self hcl rfl (Wk_eq ?_ (by simp only [go_sem]))
      try simp only [go_sem]
      all_goals
        simp [hxy]
theorem eqSp {a b c d : Int} : eqPV Tryz.prog 63 (.agg [.int .i64 a, .int .i64 b]) (.agg [.int .i64 c, .int .i64 d]) = some (decide ((a, b) = (c, d))) := by
  rw [eqs63]
  refine congrArg some ?_
  rw [Bool.eq_iff_iff]
  simp
attribute [go_sem high] eqSp
set_option maxHeartbeats 2000000 in
theorem EqSpans_pc (Y : YEnv) (σ : Sg) (xs ys : List (Int × Int)) (o o2 : Own) (hx : xs.length < 2 ^ 50) :
    PC Tryz.prog Y 32 [.isl (xs.map stPV) o, .isl (ys.map stPV) o2] σ (.bool (decide (xs = ys))) (σ) := by
  refine PC_of_W Tryz.func32 rfl (by kernel_rfl) Tryz.ntmps32 (by simp) fun hcl hca => ?_
  refine W_seq fun kz1 kq1 => ?_
  refine W_region [0, 1] fun R hR => ?_   -- r0
  simp only [go_sem]
  refine hR _ _ (kq1 _ _ ?_); clear hR R; try clear kq1 kz1
  try simp only [go_sem]
  refine W_seq fun kz2 kq2 => ?_
  refine W_seq fun kz3 kq3 => ?_
  refine W_region [0, 1, 10] fun R hR => ?_   -- r1
  simp only [go_sem]
  refine hR _ _ (kq3 _ _ ?_); clear hR R; try clear kq3 kz3
  try simp only [go_sem]
  refine W_cond rfl (fun c1 => ?_) (fun c1 => ?_)
  · -- c1 true
    try simp only [nrm] at c1
    refine W_seq fun kz4 kq4 => ?_
    refine W_region [4] fun R hR => ?_   -- r2
    simp only [go_sem]
    refine hR _ _ (kq4 _ _ ?_); clear hR R; try clear kq4 kz4
    try simp only [go_sem]
    refine W_ret ?_
    simp only [go_sem]
    refine ⟨.inr (by trivial), ?_⟩
    first | refine Fin_same hcl rfl (Wk_eq ?_ (by simp only [go_sem])) | refine Fin_self hcl rfl (Wk_eq ?_ (by simp only [go_sem]))
    try simp only [go_sem]
    all_goals
      simp; intro h; subst h; exact c1 rfl
  · -- c1 false
    try simp only [nrm] at c1
    refine W_skip (kq2 _ _ ?_)
    refine W_seq fun kz5 kq5 => ?_
    refine W_seq fun kz6 kq6 => ?_
    refine W_region [0, 1, 5] fun R hR => ?_   -- r3
    simp only [go_sem]
    refine hR _ _ (kq6 _ _ ?_); clear hR R; try clear kq6 kz6
    try simp only [go_sem]
    refine W_block ?_
    refine W_loopS (α := Nat) (fun (i : Nat) => [(5, I i)]) (fun (i : Nat) => i ≤ xs.length ∧ xs.take i = ys.take i) (fun (i : Nat) => xs.length - i) (0) rfl (⟨Nat.zero_le _, rfl⟩) ?_
    rintro i ⟨hi, ht⟩
    refine W_seq fun kz7 kq7 => ?_
    refine W_seq fun kz8 kq8 => ?_
    refine W_region [0, 1, 5, 14] fun R hR => ?_   -- r4
    simp only [go_sem]
    refine hR _ _ (kq8 _ _ ?_); clear hR R; try clear kq8 kz8
    try simp only [go_sem]
    refine W_cond rfl (fun c2 => ?_) (fun c2 => ?_)
    · -- c2 true
      try simp only [nrm] at c2
      have hi' : i < xs.length := by first | assumption | omega
      obtain ⟨x, hxi⟩ : ∃ x, xs[i]? = some x := ⟨xs[i], by simp⟩
      obtain ⟨y, hyi⟩ : ∃ y, ys[i]? = some y := ⟨ys[i]'(by omega), by simp⟩
      refine W_skip (kq7 _ _ ?_)
      refine W_seq fun kz9 kq9 => ?_
      refine W_block ?_
      refine W_seq fun kz10 kq10 => ?_
      refine W_draw [0, 1, 5, 25] [0, 1, 2, 3, 4, 5, 6, 7, 8] [] [[], [], [0, 1], [0, 1, 2], [], [], [4, 5], [4, 5, 6], [0, 1, 2, 3, 4, 5, 6, 7]] mixed (by kernel_rfl) fun R hR => ?_   -- r6
      simp only [go_sem, hxi, hyi]
      try refine And.intro (by repeat' (first | refine And.intro ?_ ?_ | exact GOr_right (fun _ => by simp only [go_sem, hxi, hyi]))) ?_
      refine hR _ _ (kq10 _ _ ?_); clear hR R; try clear kq10 kz10
      try simp only [go_sem, hxi, hyi]
      refine W_cond rfl (fun c3 => ?_) (fun c3 => ?_)
      · -- c3 true
        try simp only [nrm] at c3
        refine W_seq fun kz11 kq11 => ?_
        refine W_region [4] fun R hR => ?_   -- r7
        simp only [go_sem, hxi, hyi]
        refine hR _ _ (kq11 _ _ ?_); clear hR R; try clear kq11 kz11
        try simp only [go_sem, hxi, hyi]
        refine W_ret ?_
        simp only [go_sem, hxi, hyi]
        refine ⟨.inr (by trivial), ?_⟩
        first | refine Fin_same hcl rfl (Wk_eq ?_ (by simp only [go_sem])) | refine Fin_self hcl rfl (Wk_eq ?_ (by simp only [go_sem]))
        try simp only [go_sem]
        all_goals
          simp; intro h; subst h; rw [hxi] at hyi; injection hyi with h; subst h; simp at c3
      · -- c3 false
        try simp only [nrm] at c3
        refine W_skip (kq9 _ _ ?_)
        refine W_region [0, 1, 5] fun R hR => ?_   -- r5
        simp only [go_sem, hxi, hyi]
        try simp (disch := omega) only [wrapI, wrapU]
        refine hR _ _ ?_; clear hR R
        try simp only [go_sem, hxi, hyi]
        refine ⟨i + 1, ?_, by (try simp only []); omega, ?_⟩
        · first | exact Weak.refl | exact Weak.eq (by first | rfl | (simp only [go_sem]; done) | (simp only [go_sem]; rfl) | (simp [go_sem]; done) | (simp [go_sem]; omega)) (by first | rfl | (simp only [go_sem]; done) | (simp [go_sem]; done))
        · try dsimp only
          refine ⟨hi', ?_⟩
          rw [List.take_add_one, List.take_add_one, ht, hxi, hyi, show x = y by obtain ⟨a, b⟩ := x; obtain ⟨c, d⟩ := y; simpa using c3]
    · -- c2 false
      try simp only [nrm] at c2
      have hie : i = xs.length := by omega
      subst hie
      have hxy : xs = ys := by rw [List.take_length] at ht; rw [c1, List.take_length] at ht; exact ht
      refine W_exit ?_
      simp only [go_sem]
      refine kq5 _ _ ?_
      refine W_seq fun kz12 kq12 => ?_
      refine W_region [4] fun R hR => ?_   -- r8
      simp only [go_sem]
      refine hR _ _ (kq12 _ _ ?_); clear hR R; try clear kq12 kz12
      try simp only [go_sem]
      refine W_ret ?_
      simp only [go_sem]
      refine ⟨.inr (by trivial), ?_⟩
      first | refine Fin_same hcl rfl (Wk_eq ?_ (by simp only [go_sem])) | refine Fin_self hcl rfl (Wk_eq ?_ (by simp only [go_sem]))
      try simp only [go_sem]
      all_goals
        simp [hxy]
set_option maxHeartbeats 2000000 in
theorem EqTables_pc (Y : YEnv) (σ : Sg) (xs ys : List Stand) (o o2 : Own) (hx : xs.length < 2 ^ 50) (hy : ∀ x, x ∈ xs → x.points.length < 2 ^ 40) :
    PC Tryz.prog Y 19 [.isl (xs.map sdPV) o, .isl (ys.map sdPV) o2] σ (.bool (decide (xs = ys))) (σ) := by
  refine PC_of_W Tryz.func19 rfl (by kernel_rfl) Tryz.ntmps19 (by simp) fun hcl hca => ?_
  refine W_seq fun kz1 kq1 => ?_
  refine W_region [0, 1] fun R hR => ?_   -- r0
  simp only [go_sem]
  refine hR _ _ (kq1 _ _ ?_); clear hR R; try clear kq1 kz1
  try simp only [go_sem]
  refine W_seq fun kz2 kq2 => ?_
  refine W_seq fun kz3 kq3 => ?_
  refine W_region [0, 1, 10] fun R hR => ?_   -- r1
  simp only [go_sem]
  refine hR _ _ (kq3 _ _ ?_); clear hR R; try clear kq3 kz3
  try simp only [go_sem]
  refine W_cond rfl (fun c1 => ?_) (fun c1 => ?_)
  · -- c1 true
    try simp only [nrm] at c1
    refine W_seq fun kz4 kq4 => ?_
    refine W_region [4] fun R hR => ?_   -- r2
    simp only [go_sem]
    refine hR _ _ (kq4 _ _ ?_); clear hR R; try clear kq4 kz4
    try simp only [go_sem]
    refine W_ret ?_
    simp only [go_sem]
    refine ⟨.inr (by trivial), ?_⟩
    first | refine Fin_same hcl rfl (Wk_eq ?_ (by simp only [go_sem])) | refine Fin_self hcl rfl (Wk_eq ?_ (by simp only [go_sem]))
    try simp only [go_sem]
    all_goals
      simp; intro h; subst h; exact c1 rfl
  · -- c1 false
    try simp only [nrm] at c1
    refine W_skip (kq2 _ _ ?_)
    refine W_seq fun kz5 kq5 => ?_
    refine W_seq fun kz6 kq6 => ?_
    refine W_region [0, 1, 5] fun R hR => ?_   -- r3
    simp only [go_sem]
    refine hR _ _ (kq6 _ _ ?_); clear hR R; try clear kq6 kz6
    try simp only [go_sem]
    refine W_block ?_
    refine W_loopS (α := Nat) (fun (i : Nat) => [(5, I i)]) (fun (i : Nat) => i ≤ xs.length ∧ xs.take i = ys.take i) (fun (i : Nat) => xs.length - i) (0) rfl (⟨Nat.zero_le _, rfl⟩) ?_
    rintro i ⟨hi, ht⟩
    refine W_seq fun kz7 kq7 => ?_
    refine W_seq fun kz8 kq8 => ?_
    refine W_region [0, 1, 5, 14] fun R hR => ?_   -- r4
    simp only [go_sem]
    refine hR _ _ (kq8 _ _ ?_); clear hR R; try clear kq8 kz8
    try simp only [go_sem]
    refine W_cond rfl (fun c2 => ?_) (fun c2 => ?_)
    · -- c2 true
      try simp only [nrm] at c2
      have hi' : i < xs.length := by first | assumption | omega
      obtain ⟨x, hxi⟩ : ∃ x, xs[i]? = some x := ⟨xs[i], by simp⟩
      obtain ⟨y, hyi⟩ : ∃ y, ys[i]? = some y := ⟨ys[i]'(by omega), by simp⟩
      refine W_skip (kq7 _ _ ?_)
      refine W_seq fun kz9 kq9 => ?_
      refine W_block ?_
      refine W_seq fun kz10 kq10 => ?_
      refine W_draw [0, 1, 5, 54] [0, 1, 2, 3, 4, 5, 6, 7, 8, 9, 10, 11, 12, 13, 14, 15, 16, 17, 18, 19, 20, 21, 22, 23, 24, 25, 26, 27, 28, 29, 30, 31, 32, 33, 34, 35, 36, 37] [] [[], [], [0, 1], [0, 1, 2], [0, 1, 2, 3], [], [], [5, 6], [5, 6, 7], [5, 6, 7, 8], [0, 1, 2, 3, 4, 5, 6, 7, 8, 9], [0, 1, 2, 3, 4, 5, 6, 7, 8, 9, 10], [0, 1, 2, 3, 4, 5, 6, 7, 8, 9, 10, 11], [0, 1, 2, 3, 4, 5, 6, 7, 8, 9, 10, 11], [0, 1, 2, 3, 4, 5, 6, 7, 8, 9, 10, 11, 12, 13], [0, 1, 2, 3, 4, 5, 6, 7, 8, 9, 10, 11, 12, 13, 14], [0, 1, 2, 3, 4, 5, 6, 7, 8, 9, 10, 11, 12, 13, 14, 15], [0, 1, 2, 3, 4, 5, 6, 7, 8, 9, 10, 11], [0, 1, 2, 3, 4, 5, 6, 7, 8, 9, 10, 11], [0, 1, 2, 3, 4, 5, 6, 7, 8, 9, 10, 11, 17, 18], [0, 1, 2, 3, 4, 5, 6, 7, 8, 9, 10, 11, 17, 18, 19], [0, 1, 2, 3, 4, 5, 6, 7, 8, 9, 10, 11, 17, 18, 19, 20], [0, 1, 2, 3, 4, 5, 6, 7, 8, 9, 10, 11, 12, 13, 14, 15, 16, 17, 18, 19, 20, 21], [0, 1, 2, 3, 4, 5, 6, 7, 8, 9, 10, 11, 12, 13, 14, 15, 16, 17, 18, 19, 20, 21, 22], [0, 1, 2, 3, 4, 5, 6, 7, 8, 9, 10, 11, 12, 13, 14, 15, 16, 17, 18, 19, 20, 21, 22, 23], [0, 1, 2, 3, 4, 5, 6, 7, 8, 9, 10, 11, 12, 13, 14, 15, 16, 17, 18, 19, 20, 21, 22, 23, 24], [0, 1, 2, 3, 4, 5, 6, 7, 8, 9, 10, 11, 12, 13, 14, 15, 16, 17, 18, 19, 20, 21, 22, 23, 24], [0, 1, 2, 3, 4, 5, 6, 7, 8, 9, 10, 11, 12, 13, 14, 15, 16, 17, 18, 19, 20, 21, 22, 23, 24, 25, 26], [0, 1, 2, 3, 4, 5, 6, 7, 8, 9, 10, 11, 12, 13, 14, 15, 16, 17, 18, 19, 20, 21, 22, 23, 24, 25, 26, 27], [0, 1, 2, 3, 4, 5, 6, 7, 8, 9, 10, 11, 12, 13, 14, 15, 16, 17, 18, 19, 20, 21, 22, 23, 24, 25, 26, 27, 28], [0, 1, 2, 3, 4, 5, 6, 7, 8, 9, 10, 11, 12, 13, 14, 15, 16, 17, 18, 19, 20, 21, 22, 23, 24], [0, 1, 2, 3, 4, 5, 6, 7, 8, 9, 10, 11, 12, 13, 14, 15, 16, 17, 18, 19, 20, 21, 22, 23, 24], [0, 1, 2, 3, 4, 5, 6, 7, 8, 9, 10, 11, 12, 13, 14, 15, 16, 17, 18, 19, 20, 21, 22, 23, 24, 30, 31], [0, 1, 2, 3, 4, 5, 6, 7, 8, 9, 10, 11, 12, 13, 14, 15, 16, 17, 18, 19, 20, 21, 22, 23, 24, 30, 31, 32], [0, 1, 2, 3, 4, 5, 6, 7, 8, 9, 10, 11, 12, 13, 14, 15, 16, 17, 18, 19, 20, 21, 22, 23, 24, 30, 31, 32, 33], [0, 1, 2, 3, 4, 5, 6, 7, 8, 9, 10, 11, 12, 13, 14, 15, 16, 17, 18, 19, 20, 21, 22, 23, 24, 25, 26, 27, 28, 29, 30, 31, 32, 33, 34], [0, 1, 2, 3, 4, 5, 6, 7, 8, 9, 10, 11, 12, 13, 14, 15, 16, 17, 18, 19, 20, 21, 22, 23, 24, 25, 26, 27, 28, 29, 30, 31, 32, 33, 34, 35], [0, 1, 2, 3, 4, 5, 6, 7, 8, 9, 10, 11, 12, 13, 14, 15, 16, 17, 18, 19, 20, 21, 22, 23, 24, 25, 26, 27, 28, 29, 30, 31, 32, 33, 34, 35, 36]] mixed (by kernel_rfl) fun R hR => ?_   -- r6
      simp only [go_sem, hxi, hyi]
      refine GWant_split (fun g1 => ?_) (fun g1 => ?_)
      · try simp only [Bool.not_eq_true', Bool.not_eq_false'] at g1
        have n1 := g1; try simp only [nrm] at n1
        simp only [go_sem, hxi, hyi, g1]
        refine GWant_split (fun g2 => ?_) (fun g2 => ?_)
        · try simp only [Bool.not_eq_true', Bool.not_eq_false'] at g2
          have n2 := g2; try simp only [nrm] at n2
          simp only [go_sem, hxi, hyi, g1, g2]
          refine GCall_of (EqInts_pc Y _ x.points y.points .ro .ro (by have := hy x (List.mem_of_getElem? hxi); omega)) ?_   -- t52
          simp only [go_sem, hxi, hyi, g1, g2]
          try refine And.intro (by repeat' (first | refine And.intro ?_ ?_ | exact GOr_right (fun _ => by simp only [go_sem, hxi, hyi]))) ?_
          refine hR _ _ (kq10 _ _ ?_); clear hR R; try clear kq10 kz10
          try simp only [go_sem, hxi, hyi]
          refine W_cond rfl (fun c3 => ?_) (fun c3 => ?_)
          · -- c3 true
            try simp only [nrm] at c3
            refine W_seq fun kz11 kq11 => ?_
            refine W_region [4] fun R hR => ?_   -- r7
            simp only [go_sem, hxi, hyi]
            refine hR _ _ (kq11 _ _ ?_); clear hR R; try clear kq11 kz11
            try simp only [go_sem, hxi, hyi]
            refine W_ret ?_
            simp only [go_sem, hxi, hyi]
            refine ⟨.inr (by trivial), ?_⟩
            first | refine Fin_same hcl rfl (Wk_eq ?_ (by simp only [go_sem])) | refine Fin_self hcl rfl (Wk_eq ?_ (by simp only [go_sem]))
            try simp only [go_sem]
            all_goals
              simp; intro h; subst h; rw [hxi] at hyi; injection hyi with h; subst h; simp_all
          · -- c3 false
            try simp only [nrm] at c3
            refine W_skip (kq9 _ _ ?_)
            refine W_region [0, 1, 5] fun R hR => ?_   -- r5
            simp only [go_sem, hxi, hyi]
            try simp (disch := omega) only [wrapI, wrapU]
            refine hR _ _ ?_; clear hR R
            try simp only [go_sem, hxi, hyi]
            refine ⟨i + 1, ?_, by (try simp only []); omega, ?_⟩
            · first | exact Weak.refl | exact Weak.eq (by first | rfl | (simp only [go_sem]; done) | (simp only [go_sem]; rfl) | (simp [go_sem]; done) | (simp [go_sem]; omega)) (by first | rfl | (simp only [go_sem]; done) | (simp [go_sem]; done))
            · try dsimp only
              refine ⟨hi', ?_⟩
              rw [List.take_add_one, List.take_add_one, ht, hxi, hyi, show x = y by obtain ⟨a, b, c⟩ := x; obtain ⟨a2, b2, c2⟩ := y; simp_all]
        · try simp only [Bool.not_eq_true', Bool.not_eq_false'] at g2
          have n2 := g2; try simp only [nrm] at n2
          simp only [go_sem, hxi, hyi, g1, g2]
          try refine And.intro (by repeat' (first | refine And.intro ?_ ?_ | exact GOr_right (fun _ => by simp only [go_sem, hxi, hyi]))) ?_
          refine hR _ _ (kq10 _ _ ?_); clear hR R; try clear kq10 kz10
          try simp only [go_sem, hxi, hyi]
          refine W_cond_true rfl ?_
          refine W_seq fun kz12 kq12 => ?_
          refine W_region [4] fun R hR => ?_   -- r7
          simp only [go_sem, hxi, hyi]
          refine hR _ _ (kq12 _ _ ?_); clear hR R; try clear kq12 kz12
          try simp only [go_sem, hxi, hyi]
          refine W_ret ?_
          simp only [go_sem, hxi, hyi]
          refine ⟨.inr (by trivial), ?_⟩
          first | refine Fin_same hcl rfl (Wk_eq ?_ (by simp only [go_sem])) | refine Fin_self hcl rfl (Wk_eq ?_ (by simp only [go_sem]))
          try simp only [go_sem]
          all_goals
            simp; intro h; subst h; rw [hxi] at hyi; injection hyi with h; subst h; simp_all
      · try simp only [Bool.not_eq_true', Bool.not_eq_false'] at g1
        have n1 := g1; try simp only [nrm] at n1
        simp only [go_sem, hxi, hyi, g1]
        try refine And.intro (by repeat' (first | refine And.intro ?_ ?_ | exact GOr_right (fun _ => by simp only [go_sem, hxi, hyi]))) ?_
        refine hR _ _ (kq10 _ _ ?_); clear hR R; try clear kq10 kz10
        try simp only [go_sem, hxi, hyi]
        refine W_cond_true rfl ?_
        refine W_seq fun kz13 kq13 => ?_
        refine W_region [4] fun R hR => ?_   -- r7
        simp only [go_sem, hxi, hyi]
        refine hR _ _ (kq13 _ _ ?_); clear hR R; try clear kq13 kz13
        try simp only [go_sem, hxi, hyi]
        refine W_ret ?_
        simp only [go_sem, hxi, hyi]
        refine ⟨.inr (by trivial), ?_⟩
        first | refine Fin_same hcl rfl (Wk_eq ?_ (by simp only [go_sem])) | refine Fin_self hcl rfl (Wk_eq ?_ (by simp only [go_sem]))
        try simp only [go_sem]
        all_goals
          simp; intro h; subst h; rw [hxi] at hyi; injection hyi with h; subst h; simp_all
    · -- c2 false
      try simp only [nrm] at c2
      have hie : i = xs.length := by omega
      subst hie
      have hxy : xs = ys := by rw [List.take_length] at ht; rw [c1, List.take_length] at ht; exact ht
      refine W_exit ?_
      simp only [go_sem]
      refine kq5 _ _ ?_
      refine W_seq fun kz14 kq14 => ?_
      refine W_region [4] fun R hR => ?_   -- r8
      simp only [go_sem]
      refine hR _ _ (kq14 _ _ ?_); clear hR R; try clear kq14 kz14
      try simp only [go_sem]
      refine W_ret ?_
      simp only [go_sem]
      refine ⟨.inr (by trivial), ?_⟩
      first | refine Fin_same hcl rfl (Wk_eq ?_ (by simp only [go_sem])) | refine Fin_self hcl rfl (Wk_eq ?_ (by simp only [go_sem]))
      try simp only [go_sem]
      all_goals
        simp [hxy]
set_option maxHeartbeats 2000000 in
theorem span_pc (Y : YEnv) (σ : Sg) (a b : Int) :
    PC Tryz.prog Y 36 [I a, I b] σ (.agg [I a, I b]) (σ) := by
  refine PC_of_W Tryz.func36 rfl (by kernel_rfl) Tryz.ntmps36 (by simp) fun hcl hca => ?_
  refine W_seq fun kz1 kq1 => ?_
  refine W_region [0, 1, 4] fun R hR => ?_   -- r0
  simp only [go_sem]
  refine hR _ _ (kq1 _ _ ?_); clear hR R; try clear kq1 kz1
  try simp only [go_sem]
  refine W_seq fun kz2 kq2 => ?_
  refine W_region [4] fun R hR => ?_   -- r1
  simp only [go_sem]
  refine hR _ _ (kq2 _ _ ?_); clear hR R; try clear kq2 kz2
  try simp only [go_sem]
  refine W_ret ?_
  simp only [go_sem]
  refine ⟨.inr (by trivial), ?_⟩
  first | refine Fin_same hcl (by show resPV Tryz.prog _ _ [.cell 4 63] = some _; simp only [resPV, go_sem]; rfl) (Wk_eq ?_ (by simp only [go_sem])) | refine Fin_same hcl rfl (Wk_eq ?_ (by simp only [go_sem]))
  try simp only [go_sem]
  all_goals
    first | rfl | (simp_all; done) | (simp_all; omega)
set_option maxHeartbeats 2000000 in
theorem scale_pc (Y : YEnv) (σ : Sg)  :
    PC Tryz.prog Y 49 [] σ (scPV exScale) (σ) := by
  refine PC_of_W Tryz.func49 rfl (by kernel_rfl) Tryz.ntmps49 (by simp) fun hcl hca => ?_
  refine W_seq fun kz1 kq1 => ?_
  refine W_region [0] fun R hR => ?_   -- r0
  simp only [go_sem]
  refine hR _ _ (kq1 _ _ ?_); clear hR R; try clear kq1 kz1
  try simp only [go_sem]
  refine W_seq fun kz2 kq2 => ?_
  refine W_region [0] fun R hR => ?_   -- r1
  simp only [go_sem]
  refine hR _ _ (kq2 _ _ ?_); clear hR R; try clear kq2 kz2
  try simp only [go_sem]
  refine W_ret ?_
  simp only [go_sem]
  refine ⟨.inr (by trivial), ?_⟩
  refine Fin_same hcl (by show resPV Tryz.prog _ _ [.cell 0 24] = some _; simp only [resPV, go_sem]; rfl) (Wk.ro (by simp only [go_sem]) ?_)
  try simp only [go_sem]
  all_goals
    rfl
set_option maxHeartbeats 2000000 in
theorem night_pc (Y : YEnv) (σ : Sg)  :
    PC Tryz.prog Y 50 [] σ (ngPV exNight) (σ) := by
  refine PC_of_W Tryz.func50 rfl (by kernel_rfl) Tryz.ntmps50 (by simp) fun hcl hca => ?_
  refine W_seq fun kz1 kq1 => ?_
  refine W_region [0] fun R hR => ?_   -- r0
  simp only [go_sem]
  refine hR _ _ (kq1 _ _ ?_); clear hR R; try clear kq1 kz1
  try simp only [go_sem]
  refine W_seq fun kz2 kq2 => ?_
  refine W_region [0] fun R hR => ?_   -- r1
  simp only [go_sem]
  refine hR _ _ (kq2 _ _ ?_); clear hR R; try clear kq2 kz2
  try simp only [go_sem]
  refine W_ret ?_
  simp only [go_sem]
  refine ⟨.inr (by trivial), ?_⟩
  refine Fin_same hcl (by show resPV Tryz.prog _ _ [.cell 0 29] = some _; simp only [resPV, go_sem]; rfl) (Wk.ro (by simp only [go_sem]) ?_)
  try simp only [go_sem]
  all_goals
    rfl
set_option maxHeartbeats 2000000 in
theorem before_pc (Y : YEnv) (σ : Sg)  :
    PC Tryz.prog Y 51 [] σ (ngPV exBefore) (σ) := by
  refine PC_of_W Tryz.func51 rfl (by kernel_rfl) Tryz.ntmps51 (by simp) fun hcl hca => ?_
  refine W_seq fun kz1 kq1 => ?_
  refine W_region [0] fun R hR => ?_   -- r0
  simp only [go_sem]
  refine hR _ _ (kq1 _ _ ?_); clear hR R; try clear kq1 kz1
  try simp only [go_sem]
  refine W_seq fun kz2 kq2 => ?_
  refine W_region [0, 1] fun R hR => ?_   -- r1
  simp only [go_sem]
  refine GCall_of (night_pc Y _) ?_   -- t2
  simp only [go_sem]
  refine hR _ _ (kq2 _ _ ?_); clear hR R; try clear kq2 kz2
  try simp only [go_sem]
  refine W_seq fun kz3 kq3 => ?_
  have hz4 : ((0 : Int) ≤ 4) = True := by decide
  have hb4 : (Int.toNat 4 ≤ exNight.opened.length) = True := by decide
  refine W_region [0, 1] fun R hR => ?_   -- r2
  simp only [go_sem, hz4, hb4]
  refine hR _ _ (kq3 _ _ ?_); clear hR R; try clear kq3 kz3
  try simp only [go_sem]
  refine W_seq fun kz4 kq4 => ?_
  refine W_region [0] fun R hR => ?_   -- r3
  simp only [go_sem]
  refine hR _ _ (kq4 _ _ ?_); clear hR R; try clear kq4 kz4
  try simp only [go_sem]
  refine W_ret ?_
  simp only [go_sem]
  refine ⟨.inr (by trivial), ?_⟩
  refine Fin_same hcl (by show resPV Tryz.prog _ _ [.cell 0 29] = some _; simp only [resPV, go_sem]; rfl) (Wk.ro (by simp only [go_sem]) ?_)
  try simp only [go_sem]
  all_goals
    rfl
end Go.Proofs.YtgelnjmddabgpaaGreat
namespace Go.Proofs.YtgelnjmddabgpaaGreat
open Go Go.RowKit
set_option maxRecDepth 100000
theorem eqAb {a b c d : Int} : eqPV Tryz.prog 94 (.agg [.int .i64 a, .int .i64 b]) (.agg [.int .i64 c, .int .i64 d]) = some (decide ((a, b) = (c, d))) := by
  rw [eqs94]
  refine congrArg some ?_
  rw [Bool.eq_iff_iff]
  simp
theorem eqFi {a b c d : Int} : eqPV Tryz.prog 97 (.agg [.int .i64 a, .int .i64 b]) (.agg [.int .i64 c, .int .i64 d]) = some (decide ((a, b) = (c, d))) := by
  rw [eqs97]
  refine congrArg some ?_
  rw [Bool.eq_iff_iff]
  simp
attribute [go_sem high] eqAb eqFi
end Go.Proofs.YtgelnjmddabgpaaGreat
namespace Go.Proofs.YtgelnjmddabgpaaGreat
open Go Go.RowKit
set_option maxRecDepth 100000
end Go.Proofs.YtgelnjmddabgpaaGreat
namespace Go.Proofs.YtgelnjmddabgpaaGreat
open Go Go.RowKit
end Go.Proofs.YtgelnjmddabgpaaGreat
namespace Go.Proofs.YtgelnjmddabgpaaGreat
open Go Go.RowKit
theorem Weak.gone {N : Nat} {lo : Nat × Nat} {E : Env} {σ : Sg} (id : Nat) : Weak N lo E σ E (σ.drop id) := fun _ Ψ _ _ _ _ le hr =>
  ⟨Ψ, le, hr.size, hr.env, hr.sg.dropVar id, hr.dsub, hr.defs⟩
theorem Weak.goneX {N : Nat} {lo : Nat × Nat} {E : Env} {σ : Sg} {l : List (Option (List PV))} {rm : List Nat} {ys : List LState} (j : Nat) : Weak N lo E (σ.ext l rm ys) E (σ.ext (l.set j none) rm ys) := by
  have h := Weak.gone (N := N) (lo := lo) (E := E) (σ := σ.ext l rm ys) (σ.store.length + j)
  rw [Sg.drop_ext] at h
  exact h
end Go.Proofs.YtgelnjmddabgpaaGreat
namespace Go.Proofs.YtgelnjmddabgpaaGreat
open Go Go.RowKit
set_option maxRecDepth 100000
/-- The marks of the envelope k: a variable of their own, or never written again. -/
def mkW (m at' k : Nat) (x : Envl) : PV := if k = at' then .gsl (m + (3 * k + 1)) x.marks.length 1 else ints x.marks
def slW (at' k : Nat) (x : Envl) : Option (List PV) := if k = at' then some (x.marks.map I) else none
def ecW (m at' k : Nat) (x : Envl) : List PV := [I x.matter, I x.judge, mkW m at' k x, I x.sl]
def rowW (m at' : Nat) (xs : List Envl) : Nat → List PV
  | 0 => []
  | i + 1 => rowW m at' xs i ++ (match xs[i]? with | some x => [.agg (ecW m at' i x)] | none => [])
def preW (at' : Nat) (xs : List Envl) : Nat → List (Option (List PV))
  | 0 => []
  | i + 1 => preW at' xs i ++ [none, (xs[i]?).bind (slW at' i), none]
def layW (m at' : Nat) (xs : List Envl) : Nat → List (Option (List PV))
  | 0 => []
  | i + 1 => preW at' xs i ++ [none, (xs[i]?).bind (slW at' i), some (rowC (rowW m at' xs (i + 1)))]
def glW (m : Nat) : Nat → PV
  | 0 => .gnil
  | i + 1 => .gsl (m + (3 * i + 2)) (i + 1) 4
theorem preW_len (at' : Nat) (xs : List Envl) : ∀ i, (preW at' xs i).length = 3 * i := by
  intro i
  induction i with
  | zero => rfl
  | succ i ih => simp [preW, ih]; omega
theorem layW_len (m at' : Nat) (xs : List Envl) : ∀ i, (layW m at' xs i).length = 3 * i := by
  intro i
  cases i with
  | zero => rfl
  | succ i => simp [layW, preW_len]; omega
theorem rowW_len (m at' : Nat) (xs : List Envl) : ∀ i, i ≤ xs.length → (rowW m at' xs i).length = i ∧ ∀ q ∈ rowW m at' xs i, q.cells.length = 4 := by
  intro i
  induction i with
  | zero => intro _; exact ⟨rfl, fun q hq => by cases hq⟩
  | succ i ih =>
    intro h
    obtain ⟨h1, h2⟩ := ih (by omega)
    have hx : xs[i]? = some xs[i] := by simp
    simp only [rowW, hx]
    refine ⟨by simp [h1], fun q hq => ?_⟩
    rcases List.mem_append.1 hq with hq | hq
    · exact h2 q hq
    · simp at hq; subst hq; rfl
theorem rowW_get (m at' : Nat) (xs : List Envl) : ∀ i, i ≤ xs.length → ∀ k x, k < i → xs[k]? = some x → (rowW m at' xs i)[k]? = some (.agg (ecW m at' k x)) := by
  intro i
  induction i with
  | zero => intro _ k x h; omega
  | succ i ih =>
    intro h k x hk hx
    have hxi : xs[i]? = some xs[i] := by simp
    obtain ⟨h1, _⟩ := rowW_len m at' xs i (by omega)
    simp only [rowW, hxi]
    by_cases e : k < i
    · rw [List.getElem?_append_left (by omega)]; exact ih (by omega) k x e hx
    · have e2 : k = i := by omega
      subst e2
      rw [List.getElem?_append_right (by omega), h1, Nat.sub_self]
      rw [hxi] at hx
      injection hx with hx
      subst hx
      rfl
theorem layW_row (m at' : Nat) (xs : List Envl) {i : Nat} (h : 0 < i) : (layW m at' xs i)[3 * i - 1]? = some (some (rowC (rowW m at' xs i))) := by
  obtain ⟨j, rfl⟩ : ∃ j, i = j + 1 := ⟨i - 1, by omega⟩
  simp only [layW]
  rw [List.getElem?_append_right (by rw [preW_len]; omega), preW_len, show 3 * (j + 1) - 1 - 3 * j = 2 by omega]
  rfl
theorem preW_slot (at' : Nat) (xs : List Envl) : ∀ i k, k < i → (preW at' xs i)[3 * k + 1]? = some ((xs[k]?).bind (slW at' k)) := by
  intro i
  induction i with
  | zero => intro k h; omega
  | succ i ih =>
    intro k hk
    simp only [preW]
    by_cases e : k < i
    · rw [List.getElem?_append_left (by rw [preW_len]; omega)]; exact ih k e
    · have e2 : k = i := by omega
      subst e2
      rw [List.getElem?_append_right (by rw [preW_len]; omega), preW_len, show 3 * k + 1 - 3 * k = 1 by omega]
      rfl
theorem layW_slot (m at' : Nat) (xs : List Envl) {i k : Nat} (h : k < i) {x : Envl} (hx : xs[k]? = some x) : (layW m at' xs i)[3 * k + 1]? = some (slW at' k x) := by
  have hs : (xs[k]?).bind (slW at' k) = slW at' k x := by rw [hx]; rfl
  obtain ⟨j, rfl⟩ : ∃ j, i = j + 1 := ⟨i - 1, by omega⟩
  simp only [layW]
  by_cases e : k < j
  · rw [List.getElem?_append_left (by rw [preW_len]; omega), preW_slot at' xs j k e, hs]
  · have e2 : k = j := by omega
    subst e2
    rw [List.getElem?_append_right (by rw [preW_len]; omega), preW_len, show 3 * k + 1 - 3 * k = 1 by omega]
    simp [hs]
theorem ecW_ok (m at' k : Nat) (x : Envl) : ([PV.agg (ecW m at' k x)].all fun q => (q.cells.length == 4) && q.cells.all PV.scalar) = true := by
  simp only [List.all_cons, List.all_nil, PV.cells_agg, ecW, List.length_cons, List.length_nil, mkW]
  split <;> rfl
section
variable {σ : Sg} {A : List (Option (List PV))} {rm : List Nat} {ys : List LState}
theorem appW {at' i : Nat} {xs : List Envl} {x : Envl} {a b : Option (List PV)} (hx : xs[i]? = some x) (hi : i ≤ xs.length) (hb : (i + 1) * 48 ≤ 2 ^ 47) :
    appG 4 48 (σ.ext (A ++ (layW (σ.store.length + A.length) at' xs i ++ [a, b])) rm ys) (glW (σ.store.length + A.length) i) [.agg (ecW (σ.store.length + A.length) at' i x)] =
    some (glW (σ.store.length + A.length) (i + 1), σ.ext (A ++ (preW at' xs i ++ [a, b, some (rowC (rowW (σ.store.length + A.length) at' xs (i + 1)))])) rm ys) := by
  obtain ⟨m, hm⟩ : ∃ z, σ.store.length + A.length = z := ⟨_, rfl⟩
  rw [hm]
  have hr : rowW m at' xs (i + 1) = rowW m at' xs i ++ [.agg (ecW m at' i x)] := by simp only [rowW, hx]
  obtain ⟨h1, h2⟩ := rowW_len m at' xs i hi
  cases i with
  | zero =>
    simp only [glW]
    rw [appG_nil (ecW_ok ..) (by simp) (by simp)]
    simp [hr, hx, layW, preW, rowW, glW, Sg.push_ext, Sg.len_ext, ← hm, Nat.add_assoc]
  | succ i =>
    have hl := layW_len m at' xs (i + 1)
    have hid : m + (3 * i + 2) = σ.store.length + (A.length + (3 * i + 2)) := by omega
    have hg : (σ.ext (A ++ (layW m at' xs (i + 1) ++ [a, b])) rm ys).store[m + (3 * i + 2)]? = some (some (rowC (rowW m at' xs (i + 1)))) := by
      rw [hid, Sg.get_ext, List.getElem?_append_right (by omega), Nat.add_sub_cancel_left, List.getElem?_append_left (by omega)]
      exact layW_row m at' xs (i := i + 1) (by omega)
    simp only [glW]
    rw [appG_more hg (by rw [rowC_length h2, h1]) (ecW_ok ..) (by simp) (by simpa using hb)]
    rw [hid, Sg.drop_ext]
    have hset : (A ++ (layW m at' xs (i + 1) ++ [a, b])).set (A.length + (3 * i + 2)) none = A ++ (preW at' xs (i + 1) ++ [a, b]) := by
      rw [List.set_append_right _ _ (by omega), Nat.add_sub_cancel_left, List.set_append_left _ _ (by omega)]
      congr 2
      simp only [layW, preW]
      rw [List.set_append_right _ _ (by rw [preW_len]; omega), preW_len, show 3 * i + 2 - 3 * i = 2 by omega]
      rfl
    rw [hset, hr, rowC_append]
    simp only [Sg.push_ext, Sg.len_ext, List.length_append, preW_len, List.length_cons, List.length_nil, List.append_assoc, List.cons_append, List.nil_append]
    refine congrArg some (Prod.ext ?_ rfl)
    show PV.gsl _ _ _ = PV.gsl _ _ _
    congr 1
    omega
theorem glW_pos (m : Nat) {i : Nat} (h : 0 < i) : glW m i = .gsl (m + (3 * (i - 1) + 2)) i 4 := by
  obtain ⟨j, rfl⟩ : ∃ j, i = j + 1 := ⟨i - 1, by omega⟩
  rfl
end
theorem appendAny_gW {P : Program} {σ : Sg} {t t' : TypeId} {n i : Nat} {m : List PV} {o : Own} : appendAny P σ t t' (glW n i) (.isl m o) = appendG P σ t t' (glW n i) (.isl m o) := by cases i <;> rfl
attribute [go_sem] appendAny_gW
theorem glW_cells (m i : Nat) : (glW m i).cells = [glW m i] := by cases i <;> rfl
theorem glW_scalar (m i : Nat) : (glW m i).scalar = true := by cases i <;> rfl
theorem mkW_cells (m at' k : Nat) (x : Envl) : (mkW m at' k x).cells = [mkW m at' k x] := by unfold mkW; split <;> rfl
theorem mkW_scalar (m at' k : Nat) (x : Envl) : (mkW m at' k x).scalar = true := by unfold mkW; split <;> rfl
attribute [go_sem high] glW_cells glW_scalar mkW_cells mkW_scalar
/-- The marks that were copied are never written again, but for those of one envelope. -/
theorem Weak.marksW {N : Nat} {lo : Nat × Nat} {E : Env} {σ : Sg} {B : List (Option (List PV))} {rm : List Nat} {ys : List LState} {m at' k : Nat} {x : Envl} (hB : σ.store.length + B.length = m + 3 * k) :
    Weak N lo E (σ.ext (B ++ [some [I x.matter, I x.judge, .gsl (m + (3 * k + 1)) x.marks.length 1, I x.sl], some (x.marks.map I)]) rm ys) E (σ.ext (B ++ [some (ecW m at' k x), slW at' k x]) rm ys) := by
  unfold ecW mkW slW
  by_cases h : k = at'
  · rw [if_pos h, if_pos h]; exact Weak.refl
  · rw [if_neg h, if_neg h]
    have hf := Weak.freezeX (N := N) (lo := lo) (E := E) (σ := σ) (l := B ++ [some [I x.matter, I x.judge, .gsl (m + (3 * k + 1)) x.marks.length 1, I x.sl], some (x.marks.map I)]) (rm := rm) (ys := ys) (j := B.length) (k := B.length + 1) (off := 2) (len := x.marks.length) (es := 1)
      (ccs := [I x.matter, I x.judge, .gsl (m + (3 * k + 1)) x.marks.length 1, I x.sl]) (rest := []) (m := x.marks.map I) (by omega) (by simp) (by simp; omega) (by simp [rowC_ints]) (by simp) (fun q hq => by obtain ⟨y, _, rfl⟩ := List.mem_map.1 hq; rfl)
    refine Weak.trans hf (Weak.eq rfl ?_)
    congr 1
    simp [List.set_append]
theorem get2a {α : Type} {L : List α} {a b : α} : (L ++ [a, b])[L.length]? = some a := by simp
theorem get2b {α : Type} {L : List α} {a b : α} : (L ++ [a, b])[L.length + 1]? = some b := by simp
theorem set2a {α : Type} {L : List α} {a b c : α} : (L ++ [a, b]).set L.length c = L ++ [c, b] := by simp
theorem get1a {α : Type} {L : List α} {a : α} : (L ++ [a])[L.length]? = some a := by simp
theorem set1a {α : Type} {L : List α} {a b : α} : (L ++ [a]).set L.length b = L ++ [b] := by simp
theorem preW_clean {a b c at' : Nat} {xs : List Envl} : ∀ i, CleanLs a b c (preW at' xs i) := by
  intro i
  induction i with
  | zero => intro cs h; cases h
  | succ i ih =>
    refine CleanLs_append ih (CleanLs_none ?_)
    intro cs h p hp
    rcases List.mem_cons.1 h with h | h
    · cases hx : xs[i]? with
      | none => rw [hx] at h; cases h
      | some x =>
        rw [hx] at h
        simp only [Option.bind_some, slW] at h
        split at h
        · injection h with h
          subst h
          obtain ⟨y, _, rfl⟩ := List.mem_map.1 hp
          exact .int _ _
        · cases h
    · simp at h
theorem mkW_clean {a b c m at' k : Nat} {x : Envl} (h : m + (3 * k + 1) < a) : Clean a b c (mkW m at' k x) := by
  unfold mkW
  split
  · exact .gsl _ _ _ h
  · exact clean_ints _
theorem rowW_clean {a b c m at' : Nat} {xs : List Envl} : ∀ i, m + 3 * i ≤ a → CleanAll a b c (rowC (rowW m at' xs i)) := by
  intro i
  induction i with
  | zero => intro _ p hp; simp [rowW, rowC] at hp
  | succ i ih =>
    intro h p hp
    simp only [rowW, rowC_append, List.mem_append] at hp
    rcases hp with hp | hp
    · exact ih (by omega) p hp
    · cases hx : xs[i]? with
      | none => rw [hx] at hp; simp [rowC] at hp
      | some x =>
        rw [hx] at hp
        simp only [rowC, List.flatMap_cons, List.flatMap_nil, List.append_nil, PV.cells_agg, ecW, List.mem_cons, List.not_mem_nil, or_false] at hp
        rcases hp with rfl | rfl | rfl | rfl
        · exact .int _ _
        · exact .int _ _
        · exact mkW_clean (by omega)
        · exact .int _ _
theorem layW_clean {a b c m at' : Nat} {xs : List Envl} {i : Nat} (h : m + 3 * i ≤ a) : CleanLs a b c (layW m at' xs i) := by
  cases i with
  | zero => intro cs h; cases h
  | succ i =>
    have hp : CleanLs a b c (preW at' xs (i + 1)) := preW_clean (i + 1)
    intro cs hcs p hq
    simp only [layW, List.mem_append, List.mem_cons, List.not_mem_nil, or_false] at hcs
    rcases hcs with h1 | h1 | h1 | h1
    · exact hp cs (by simp [preW, h1]) p hq
    · cases h1
    · exact hp cs (by simp [preW, h1]) p hq
    · injection h1 with h1
      subst h1
      exact rowW_clean (i + 1) h p hq
theorem Fin_all {P : Program} {fn : Func} {σ : Sg} {l : List (Option (List PV))} {rm : List Nat} {E : Env} {rs : List PV} {v : PV} (hcl : CleanSg σ) (hr : resPV P (σ.ext l rm) E fn.results.toList = some rs)
    (hv : Wk (σ.store.length + l.length) (σ.rooms.length + rm.length) σ.ys.length (oneOr rs) v) (hc : CleanLs (σ.store.length + l.length) (σ.rooms.length + rm.length) σ.ys.length l) : Fin P fn σ v (σ.ext l rm) E (σ.ext l rm) := by
  have h := Fin_ext (P := P) (fn := fn) (σ := σ) (l := l) (rm := rm) (E := E) (rs := rs) (v := v) l.length rm.length hcl hr hv (by rw [List.take_length]; exact hc)
  rw [List.take_length, List.take_length] at h
  exact h
set_option maxHeartbeats 8000000 in
theorem OwnNightW_pc (Y : YEnv) (σ : Sg) (n : Night) (hn : n.Ok) (at' : Nat) (hat : at' < n.opened.length) (hne : ∀ x, x ∈ n.opened → x.marks ≠ []) :
    PC Tryz.prog Y 16 [ngPV n] σ (.agg [.gsl (σ.store.length + 2 + (3 * (n.opened.length - 1) + 2)) n.opened.length 4, .isl (n.absent.map stPV) (.tok σ.rooms.length n.absent.length 2), .isl (n.fines.map stPV) (.tok (σ.rooms.length + 1) n.fines.length 2)]) (σ.ext (some [.gsl (σ.store.length + 2 + (3 * (n.opened.length - 1) + 2)) n.opened.length 4, .isl (n.absent.map stPV) (.tok σ.rooms.length n.absent.length 2), .isl (n.fines.map stPV) (.tok (σ.rooms.length + 1) n.fines.length 2)] :: some [.gsl (σ.store.length + 2 + (3 * (n.opened.length - 1) + 2)) n.opened.length 4, .isl (n.absent.map stPV) (.tok σ.rooms.length n.absent.length 2), .isl (n.fines.map stPV) (.tok (σ.rooms.length + 1) n.fines.length 2)] :: layW (σ.store.length + 2) at' n.opened n.opened.length) [n.absent.length, n.fines.length]) := by
  refine PC_of_W Tryz.func16 rfl (by kernel_rfl) Tryz.ntmps16 (by simp) fun hcl hca => ?_
  have ho := hn.ho
  have ha := hn.ha
  have hf := hn.hf
  have hm := hn.hm
  refine W_seq fun kz1 kq1 => ?_
  refine W_region [1, 2] fun R hR => ?_   -- r0
  simp only [go_sem]
  refine hR _ _ (kq1 _ _ ?_); clear hR R; try clear kq1 kz1
  try simp only [go_sem]
  refine W_seq fun kz2 kq2 => ?_
  refine W_region [1, 2, 3] fun R hR => ?_   -- r1
  simp only [go_sem]
  refine hR _ _ (kq2 _ _ ?_); clear hR R; try clear kq2 kz2
  try simp only [go_sem]
  refine W_seq fun kz3 kq3 => ?_
  refine W_draw [1, 2, 3] [0, 1, 2, 3, 4, 5, 6, 7, 8, 9, 10, 11, 12, 13] [(4, 3), (5, 3), (6, 3), (8, 3), (8, 7)] [[], [], [1], [0, 1, 2], [], [], [5], [0, 1, 2, 3, 4, 5, 6], [1, 2, 5, 6], [0, 1, 2, 3, 4, 5, 6, 7, 8], [0, 1, 2, 3, 4, 5, 6, 7, 8, 9], [0, 1, 2, 3, 4, 5, 6, 7, 8, 9, 10], [0, 1, 2, 3, 4, 5, 6, 7, 8, 9, 10, 11], [0, 1, 2, 3, 4, 5, 6, 7, 8, 9, 10, 11, 12]] mixed (by kernel_rfl) fun R hR => ?_   -- r2
  simp only [go_sem]
  try simp (disch := first | omega | (simp only [go_sem] <;> omega)) only [wrapI, wrapU, appX_exact, appX_tok]
  try simp only [go_sem]
  try simp (disch := first | omega | (simp only [go_sem] <;> omega)) only [wrapI, wrapU, appX_exact, appX_tok]
  try simp only [go_sem]
  try refine And.intro (by repeat' (first | refine And.intro ?_ ?_ | exact GOr_right (fun _ => by simp only [go_sem]))) ?_
  refine hR _ _ (kq3 _ _ ?_); clear hR R; try clear kq3 kz3
  try simp only [go_sem]
  refine W_seq fun kz4 kq4 => ?_
  refine W_seq fun kz5 kq5 => ?_
  refine W_region [1, 2, 3, 4] fun R hR => ?_   -- r3
  simp only [go_sem]
  refine hR _ _ (kq5 _ _ ?_); clear hR R; try clear kq5 kz5
  try simp only [go_sem]
  refine W_block ?_
  refine W_weak (Weak.gnilX (j := 0) (off := 0) (cs := [.isl [] .exact, .isl (n.absent.map stPV) (.tok σ.rooms.length n.absent.length 2), .isl (n.fines.map stPV) (.tok (σ.rooms.length + 1) n.fines.length 2)]) rfl rfl) ?_
  simp only [go_sem]
  refine W_loopT (α := Nat) (fun (i : Nat) => [(4, I i)]) (fun (i : Nat) => σ.ext (some [glW (σ.store.length + 2) i, .isl (n.absent.map stPV) (.tok σ.rooms.length n.absent.length 2), .isl (n.fines.map stPV) (.tok (σ.rooms.length + 1) n.fines.length 2)] :: some [.isl [] .exact, .isl [] .exact, .isl [] .exact] :: layW (σ.store.length + 2) at' n.opened i) [n.absent.length, n.fines.length]) (fun (i : Nat) => i ≤ n.opened.length) (fun (i : Nat) => n.opened.length - i) (0) rfl (by first | rfl | (simp only [go_sem]; done) | (simp only [go_sem]; rfl)) (Nat.zero_le _) ?_
  rintro i hi
  refine W_seq fun kz6 kq6 => ?_
  refine W_seq fun kz7 kq7 => ?_
  refine W_region [1, 2, 3, 4, 22] fun R hR => ?_   -- r4
  simp only [go_sem]
  refine hR _ _ (kq7 _ _ ?_); clear hR R; try clear kq7 kz7
  try simp only [go_sem]
  refine W_cond rfl (fun c1 => ?_) (fun c1 => ?_)
  · -- c1 true
    try simp only [nrm] at c1
    have hi' : i < n.opened.length := by first | assumption | omega
    obtain ⟨x, hx⟩ : ∃ x, n.opened[i]? = some x := ⟨n.opened[i], by simp [hi']⟩
    have hdrop : n.opened.drop i = x :: n.opened.drop (i + 1) := by
      rw [List.drop_eq_getElem_cons hi']; congr 1; exact (List.getElem?_eq_some_iff.1 hx).2
    have hxm := List.mem_of_getElem? hx
    have hLl := layW_len (σ.store.length + 2) at' n.opened i
    have happ := appW (σ := σ) (A := [some [glW (σ.store.length + 2) i, .isl (n.absent.map stPV) (.tok σ.rooms.length n.absent.length 2), .isl (n.fines.map stPV) (.tok (σ.rooms.length + 1) n.fines.length 2)], some [.isl [] .exact, .isl [] .exact, .isl [] .exact]]) (rm := [n.absent.length, n.fines.length]) (ys := []) (at' := at') (a := some (ecW (σ.store.length + 2) at' i x)) (b := slW at' i x) hx hi (by omega)
    simp only [List.length_cons, List.length_nil, Nat.zero_add, List.cons_append, List.nil_append, Nat.reduceAdd, ecW] at happ
    refine W_skip (kq6 _ _ ?_)
    refine W_seq fun kz8 kq8 => ?_
    refine W_block ?_
    refine W_seq fun kz9 kq9 => ?_
    refine W_region [1, 2, 3, 4, 5] fun R hR => ?_   -- r6
    simp only [go_sem, hx, get1a, set1a]
    refine hR _ _ (kq9 _ _ ?_); clear hR R; try clear kq9 kz9
    try simp only [go_sem, hx]
    refine W_seq fun kz10 kq10 => ?_
    refine W_region [1, 2, 3, 4, 5] fun R hR => ?_   -- r7
    simp only [go_sem, hx, get1a, set1a, get2a, set2a, List.append_assoc, List.cons_append, List.nil_append]
    refine GCall_of (IntsW_pc Y _ x.marks .ro (hne x hxm) (by have := hm x hxm; omega)) ?_   -- t31
    simp only [go_sem, hx, get1a, set1a, get2a, set2a, List.append_assoc, List.cons_append, List.nil_append]
    refine hR _ _ (kq10 _ _ ?_); clear hR R; try clear kq10 kz10
    try simp only [go_sem, hx]
    have hid : σ.store.length + ((layW (σ.store.length + 2) at' n.opened i).length + 1 + 1 + 1) = σ.store.length + 2 + (3 * i + 1) := by rw [hLl]; omega
    rw [hid]
    refine W_weak (Weak.marksW (B := some [glW (σ.store.length + 2) i, .isl (n.absent.map stPV) (.tok σ.rooms.length n.absent.length 2), .isl (n.fines.map stPV) (.tok (σ.rooms.length + 1) n.fines.length 2)] :: some [.isl [] .exact, .isl [] .exact, .isl [] .exact] :: layW (σ.store.length + 2) at' n.opened i) (m := σ.store.length + 2) (at' := at') (k := i) (x := x) (by simp [hLl]; omega)) ?_
    simp only [go_sem, List.cons_append]
    refine W_region [1, 2, 3, 4] fun R hR => ?_   -- r8
    simp only [go_sem, hx, get2a, set2a, ecW, happ]
    try simp (disch := first | omega | (simp only [go_sem] <;> omega)) only [wrapI, wrapU, appX_exact, appX_tok]
    try simp only [go_sem, hx, get2a, set2a, ecW, happ]
    refine hR _ _ (kq8 _ _ ?_); clear hR R; try clear kq8 kz8
    try simp only [go_sem, hx]
    refine W_region [1, 2, 3, 4] fun R hR => ?_   -- r5
    simp only [go_sem, hx]
    try simp (disch := omega) only [wrapI, wrapU]
    refine hR _ _ ?_; clear hR R
    try simp only [go_sem, hx]
    refine ⟨i + 1, ?_, by (try simp only []); omega, ?_⟩
    · refine Weak.trans (Weak.goneX ((preW at' n.opened i).length + 2)) (Weak.eq (by first | rfl | (simp only [go_sem]; done)) ?_)
      congr 1
      simp [layW, hx, List.set_append, go_sem]
    · try dsimp only
      omega
  · -- c1 false
    try simp only [nrm] at c1
    have hdrop : n.opened.drop i = [] := List.drop_eq_nil_of_le (by omega)
    have hie : n.opened.length = i := by omega
    subst hie
    have hgN := glW_pos (σ.store.length + 2) (show 0 < n.opened.length by omega)
    have hlN := layW_len (σ.store.length + 2) at' n.opened n.opened.length
    refine W_exit ?_
    simp only [go_sem, hgN]
    refine kq4 _ _ ?_
    refine W_seq fun kz11 kq11 => ?_
    refine W_region [2] fun R hR => ?_   -- r9
    simp only [go_sem, hgN]
    refine hR _ _ (kq11 _ _ ?_); clear hR R; try clear kq11 kz11
    try simp only [go_sem, hgN]
    refine W_ret ?_
    simp only [go_sem, hgN]
    refine ⟨.inr (by trivial), ?_⟩
    refine Fin_all hcl (by show resPV Tryz.prog _ _ [.cell 2 29] = some _; simp only [resPV, go_sem]; rfl) (Wk_eq rfl ?_) ?_
    · simp only [go_sem, List.length_cons, hlN]
      repeat' (first | exact trivial | omega | refine ⟨?_, ?_⟩)
    · simp only [go_sem, List.length_cons, hlN]
      repeat' (first | exact trivial | exact layW_clean (by omega) | omega | refine ⟨?_, ?_⟩)
    try simp only [go_sem]
    all_goals
      skip
end Go.Proofs.YtgelnjmddabgpaaGreat
namespace Go.Proofs.YtgelnjmddabgpaaGreat
set_option maxRecDepth 100000
def lexlt : List Int → List Int → Prop
  | x :: xs, y :: ys => x < y ∨ (x = y ∧ lexlt xs ys)
  | _, _ => False
theorem lexlt_trans : ∀ {a b c : List Int}, lexlt a b → lexlt b c → lexlt a c := by
  intro a
  induction a with
  | nil => intro b c h; cases b <;> exact h.elim
  | cons x a ih =>
    intro b c h k
    cases b with
    | nil => exact h.elim
    | cons y b =>
      cases c with
      | nil => exact k.elim
      | cons z c =>
        rcases h with h | ⟨rfl, h⟩
        · rcases k with k | ⟨rfl, k⟩
          · exact .inl (by omega)
          · exact .inl h
        · rcases k with k | ⟨rfl, k⟩
          · exact .inl k
          · exact .inr ⟨rfl, ih h k⟩
theorem lexlt_irrefl : ∀ {a : List Int}, ¬ lexlt a a := by
  intro a
  induction a with
  | nil => exact fun h => h
  | cons x a ih =>
    rintro (h | ⟨_, h⟩)
    · omega
    · exact ih h
theorem lexlt_total : ∀ {a b : List Int}, a.length = b.length → lexlt a b ∨ a = b ∨ lexlt b a := by
  intro a
  induction a with
  | nil => intro b h; cases b with | nil => exact .inr (.inl rfl) | cons => simp at h
  | cons x a ih =>
    intro b h
    cases b with
    | nil => simp at h
    | cons y b =>
      rcases Int.lt_trichotomy x y with k | rfl | k
      · exact .inl (.inl k)
      · rcases ih (b := b) (by simpa using h) with k | rfl | k
        · exact .inl (.inr ⟨rfl, k⟩)
        · exact .inr (.inl rfl)
        · exact .inr (.inr (.inr ⟨rfl, k⟩))
      · exact .inr (.inr (.inl k))
/-- What is compared, number by number. -/
def keyS (ord : List Int) (x : Stand) : List Int := -x.total :: (ord.map (fun m => -ptAt x m) ++ [x.school])
theorem keyS_len (ord : List Int) (x : Stand) : (keyS ord x).length = ord.length + 2 := by simp [keyS]
theorem firstNZ_lex : ∀ {a b : List Int}, a.length = b.length → (firstNZ (List.zipWith (fun p q => p - q) a b) < 0 ↔ lexlt a b) := by
  intro a
  induction a with
  | nil => intro b h; simp [firstNZ, lexlt]
  | cons x a ih =>
    intro b h
    cases b with
    | nil => simp at h
    | cons y b =>
      simp only [List.zipWith_cons_cons, firstNZ, lexlt]
      split
      · constructor
        · intro k; exact .inl (by omega)
        · rintro (k | ⟨k, _⟩)
          · omega
          · omega
      · rw [ih (by simpa using h)]
        constructor
        · intro k; exact .inr ⟨by omega, k⟩
        · rintro (k | ⟨_, k⟩)
          · omega
          · exact k
theorem cmpRules_zip (ord : List Int) (a b : Stand) : cmpRules ord a b = List.zipWith (fun p q => p - q) (keyS ord a) (keyS ord b) := by
  unfold cmpRules keyS
  rw [List.zipWith_cons_cons]
  congr 1
  · omega
  · induction ord with
    | nil => simp
    | cons m ord ih =>
      simp only [List.map_cons, List.cons_append, List.zipWith_cons_cons]
      rw [ih]
      congr 1
      omega
/-- A stands ahead of b. -/
def Ahd (ord : List Int) (a b : Stand) : Prop := cmpSt ord a b < 0
instance (ord : List Int) (a b : Stand) : Decidable (Ahd ord a b) := inferInstanceAs (Decidable (cmpSt ord a b < 0))
theorem Ahd_lex {ord : List Int} {a b : Stand} : Ahd ord a b ↔ lexlt (keyS ord a) (keyS ord b) := by
  unfold Ahd cmpSt
  rw [cmpRules_zip, firstNZ_lex (by rw [keyS_len, keyS_len])]
theorem Ahd.trans {ord : List Int} {a b c : Stand} (h : Ahd ord a b) (k : Ahd ord b c) : Ahd ord a c := Ahd_lex.2 (lexlt_trans (Ahd_lex.1 h) (Ahd_lex.1 k))
theorem Ahd.irrefl {ord : List Int} {a : Stand} : ¬ Ahd ord a a := fun h => lexlt_irrefl (Ahd_lex.1 h)
theorem Ahd.asymm {ord : List Int} {a b : Stand} (h : Ahd ord a b) : ¬ Ahd ord b a := fun k => Ahd.irrefl (h.trans k)
theorem Ahd.total {ord : List Int} {a b : Stand} (h : a.school ≠ b.school) : Ahd ord a b ∨ Ahd ord b a := by
  rcases lexlt_total (a := keyS ord a) (b := keyS ord b) (by rw [keyS_len, keyS_len]) with k | k | k
  · exact .inl (Ahd_lex.2 k)
  · exfalso
    apply h
    unfold keyS at k
    simp only [List.cons.injEq] at k
    have := List.append_inj_right' k.2 rfl
    simpa using this
  · exact .inr (Ahd_lex.2 k)
/-- Not worse: the same, or ahead. -/
def Nw (ord : List Int) (a b : Stand) : Prop := a = b ∨ Ahd ord a b
theorem Ahd.nw {ord : List Int} {a b c : Stand} (h : Ahd ord a b) (k : Nw ord b c) : Ahd ord a c := by
  rcases k with rfl | k
  · exact h
  · exact h.trans k
theorem not_ahd {ord : List Int} {a b : Stand} (h : a.school ≠ b.school) (k : ¬ Ahd ord a b) : Ahd ord b a := (Ahd.total h).resolve_left k
/-- Numbers one by one not less. -/
def LeL : List Int → List Int → Prop
  | [], [] => True
  | x :: xs, y :: ys => x ≤ y ∧ LeL xs ys
  | _, _ => False
theorem LeL.sum : ∀ {a b : List Int}, LeL a b → sumI a ≤ sumI b := by
  intro a
  induction a with
  | nil => intro b h; cases b with | nil => exact Int.le_refl _ | cons => exact h.elim
  | cons x a ih => intro b h; cases b with | nil => exact h.elim | cons y b => have := ih h.2; have := h.1; simp only [sumI]; omega
theorem LeL.eq_of_sum : ∀ {a b : List Int}, LeL a b → sumI a = sumI b → a = b := by
  intro a
  induction a with
  | nil => intro b h _; cases b with | nil => rfl | cons => exact h.elim
  | cons x a ih =>
    intro b h e
    cases b with
    | nil => exact h.elim
    | cons y b =>
      have := h.1
      have := h.2.sum
      simp only [sumI] at e
      rw [ih h.2 (by omega), show x = y by omega]
theorem LeL.drop : ∀ {a b : List Int} (d : Nat), LeL a b → LeL (a.drop d) (b.drop d) := by
  intro a
  induction a with
  | nil => intro b d h; cases b with | nil => cases d <;> trivial | cons => exact h.elim
  | cons x a ih =>
    intro b d h
    cases b with
    | nil => exact h.elim
    | cons y b =>
      cases d with
      | zero => exact h
      | succ d => exact ih d h.2
theorem LeL.map {α : Type} {f g : α → Int} : ∀ {l : List α}, (∀ x, x ∈ l → f x ≤ g x) → LeL (l.map f) (l.map g) := by
  intro l
  induction l with
  | nil => intro _; trivial
  | cons x l ih => intro h; exact ⟨h x (by simp), ih fun y hy => h y (by simp [hy])⟩
/-- More points in no matter fewer: not worse. -/
theorem Nw.of_le {ord : List Int} {a b : Stand} (hs : a.school = b.school) (hp : LeL b.points a.points) (ht : a.total - sumI a.points = b.total - sumI b.points) : Nw ord a b := by
  by_cases e : sumI b.points = sumI a.points
  · left
    have := hp.eq_of_sum e
    cases a; cases b
    simp only at *
    subst hs this
    congr 1
    omega
  · right
    have := hp.sum
    refine Ahd_lex.2 (.inl ?_)
    omega
def insZ (x : Int) : List Int → List Int
  | [] => [x]
  | y :: l => if x ≤ y then x :: y :: l else y :: insZ x l
def isortZ : List Int → List Int
  | [] => []
  | x :: l => insZ x (isortZ l)
def Asc (l : List Int) : Prop := l.Pairwise (· ≤ ·)
theorem insZ_perm (x : Int) : ∀ l, (insZ x l).Perm (x :: l) := by
  intro l
  induction l with
  | nil => exact .refl _
  | cons y l ih =>
    simp only [insZ]
    split
    · exact .refl _
    · exact (List.Perm.cons y ih).trans (.swap x y l)
theorem isortZ_perm : ∀ l, (isortZ l).Perm l := by
  intro l
  induction l with
  | nil => exact .refl _
  | cons x l ih => exact (insZ_perm x _).trans (.cons x ih)
theorem insZ_asc (x : Int) : ∀ {l : List Int}, Asc l → Asc (insZ x l) := by
  intro l
  induction l with
  | nil => intro _; simp [insZ, Asc]
  | cons y l ih =>
    intro h
    obtain ⟨h1, h2⟩ := List.pairwise_cons.1 h
    simp only [insZ]
    split
    · exact List.pairwise_cons.2 ⟨fun z hz => by
        rcases List.mem_cons.1 hz with rfl | hz
        · assumption
        · have := h1 z hz; omega, h⟩
    · refine List.pairwise_cons.2 ⟨fun z hz => ?_, ih h2⟩
      rcases List.mem_cons.1 ((insZ_perm x l).mem_iff.1 hz) with rfl | hz
      · omega
      · exact h1 z hz
theorem isortZ_asc : ∀ l, Asc (isortZ l) := by
  intro l
  induction l with
  | nil => exact .nil
  | cons x l ih => exact insZ_asc x ih
theorem asc_perm : ∀ {a b : List Int}, a.Perm b → Asc a → Asc b → a = b := by
  intro a
  induction a with
  | nil => intro b h _ _; exact (List.nil_perm.1 h).symm
  | cons x a ih =>
    intro b h ha hb
    cases b with
    | nil => exact absurd h.length_eq (by simp)
    | cons y b =>
      obtain ⟨a1, a2⟩ := List.pairwise_cons.1 ha
      obtain ⟨b1, b2⟩ := List.pairwise_cons.1 hb
      have e : x = y := by
        have hx : x ∈ y :: b := h.mem_iff.1 (by simp)
        have hy : y ∈ x :: a := h.mem_iff.2 (by simp)
        rcases List.mem_cons.1 hx with rfl | hx
        · rfl
        · rcases List.mem_cons.1 hy with rfl | hy
          · rfl
          · have := a1 y hy; have := b1 x hx; omega
      subst e
      rw [ih (List.Perm.cons_inv h) a2 b2]
theorem sortI_isort (l : List Int) : sortI l = isortZ l := by
  refine asc_perm ((List.mergeSort_perm l _).trans (isortZ_perm l).symm) ?_ (isortZ_asc l)
  have := List.pairwise_mergeSort (le := fun x y : Int => decide (x ≤ y)) (by simp; omega) (by simp; omega) l
  exact this.imp (by simp)
theorem insZ_head {x : Int} {l : List Int} (h : Asc (x :: l)) : insZ x l = x :: l := by
  cases l with
  | nil => rfl
  | cons y l => simp only [insZ]; rw [if_pos ((List.pairwise_cons.1 h).1 y (by simp))]
theorem insZ_le : ∀ {xs ys : List Int} {a b : Int}, Asc xs → Asc ys → LeL xs ys → a ≤ b → LeL (insZ a xs) (insZ b ys) := by
  intro xs
  induction xs with
  | nil => intro ys a b _ _ h hab; cases ys with | nil => exact ⟨hab, trivial⟩ | cons => exact h.elim
  | cons x xs ih =>
    intro ys a b hx hy h hab
    cases ys with
    | nil => exact h.elim
    | cons y ys =>
      obtain ⟨h1, h2⟩ := h
      have hx2 := (List.pairwise_cons.1 hx).2
      have hy2 := (List.pairwise_cons.1 hy).2
      simp only [insZ]
      split
      · split
        · exact ⟨hab, h1, h2⟩
        · refine ⟨by omega, ?_⟩
          rw [← insZ_head hx]
          exact ih hx2 hy2 h2 (by omega)
      · split
        · refine ⟨by omega, ?_⟩
          rw [← insZ_head hy]
          exact ih hx2 hy2 h2 (by omega)
        · exact ⟨h1, ih hx2 hy2 h2 hab⟩
theorem isortZ_le : ∀ {xs ys : List Int}, LeL xs ys → LeL (isortZ xs) (isortZ ys) := by
  intro xs
  induction xs with
  | nil => intro ys h; cases ys with | nil => trivial | cons => exact h.elim
  | cons x xs ih => intro ys h; cases ys with | nil => exact h.elim | cons y ys => exact insZ_le (isortZ_asc _) (isortZ_asc _) (ih h.2) h.1
theorem sortI_le {xs ys : List Int} (h : LeL xs ys) : LeL (sortI xs) (sortI ys) := by rw [sortI_isort, sortI_isort]; exact isortZ_le h
end Go.Proofs.YtgelnjmddabgpaaGreat
namespace Go.Proofs.YtgelnjmddabgpaaGreat
set_option maxRecDepth 100000
theorem sumI_le {α : Type} {f g : α → Int} {l : List α} (h : ∀ x, x ∈ l → f x ≤ g x) : sumI (l.map f) ≤ sumI (l.map g) := (LeL.map h).sum
theorem tdiv_le {a b : Int} (n : Nat) (h : a ≤ b) : a.tdiv n ≤ b.tdiv n := by
  cases n with
  | zero => simp
  | succ n => exact Int.tdiv_le_tdiv (by omega) h
section
variable {s : Scale} {k k' : Kn} {sc sc' m u v : Int}
theorem presJ_mem {n : Int} : n ∈ presJ s k m ↔ n ∈ toI s.judges ∧ absentK k (m, n) = false := by simp [presJ, List.mem_filter]
theorem panel_le (hA : ∀ n, absentK k (m, n) = absentK k' (m, n)) (hM : ∀ n, n ∈ toI s.judges → absentK k (m, n) = false → mkAt k sc m u n ≤ mkAt k' sc' m v n) : LeL (panelM s k sc m u) (panelM s k' sc' m v) := by
  have hp : presJ s k m = presJ s k' m := by
    unfold presJ
    congr 1
    funext n
    rw [hA]
  have hmean : meanM s k sc m u ≤ meanM s k' sc' m v := by
    unfold meanM
    rw [← hp]
    exact tdiv_le _ (sumI_le fun n hn => hM n (presJ_mem.1 hn).1 (presJ_mem.1 hn).2)
  refine LeL.map fun n hn => ?_
  rw [← hA]
  cases h : absentK k (m, n) with
  | true => exact hmean
  | false => exact hM n hn h
theorem points_le (hA : ∀ n, absentK k (m, n) = absentK k' (m, n)) (hM : ∀ n, n ∈ toI s.judges → absentK k (m, n) = false → mkAt k sc m u n ≤ mkAt k' sc' m v n) : pointsK s k sc m u ≤ pointsK s k' sc' m v := by
  unfold pointsK
  exact ((sortI_le (panel_le hA hM)).drop _).sum
theorem stand_nw {g g' : Night} (hA : ∀ j, absentK k j = absentK k' j) (hM : ∀ m n, absentK k (m, n) = false → mkAt k sc m u n ≤ mkAt k' sc m v n) (hf : finesOf g.fines sc = finesOf g'.fines sc) : Nw s.order (standK s k' g' sc v) (standK s k g sc u) := by
  refine Nw.of_le rfl (LeL.map fun m _ => points_le (fun n => hA _) fun n _ hn => hM m n hn) ?_
  simp only [standK]
  omega
end
theorem mem_toI {n x : Int} : x ∈ toI n ↔ 0 ≤ x ∧ x < n := by
  unfold toI
  rw [List.mem_map]
  constructor
  · rintro ⟨i, hi, rfl⟩
    have := List.mem_range.1 hi
    omega
  · rintro ⟨h1, h2⟩
    exact ⟨x.toNat, List.mem_range.2 (by omega), by omega⟩
section
variable {s : Scale} {k : Kn} {g : Night} {N : Nat}
end
end Go.Proofs.YtgelnjmddabgpaaGreat
namespace Go.Proofs.YtgelnjmddabgpaaGreat
set_option maxRecDepth 100000
def jdE (x : Envl) : Int × Int := (x.matter, x.judge)
structure GoodE (s : Scale) (x : Envl) : Prop where
  m : marked s (jdE x) x.marks = 0
  sl : x.sl = sealOf (jdE x) x.marks
def SameE (l : List Envl) : Prop := ∀ x, x ∈ l → ∀ y, y ∈ l → jdE x = jdE y → x.marks = y.marks
/-- The first envelope of a judge. -/
def findE (l : List Envl) (j : Int × Int) : Option (List Int) := (l.find? fun x => decide (jdE x = j)).map (·.marks)
theorem findE_nil (j : Int × Int) : findE [] j = none := rfl
theorem findE_cons (x : Envl) (l : List Envl) (j : Int × Int) : findE (x :: l) j = if jdE x = j then some x.marks else findE l j := by
  unfold findE
  rw [List.find?_cons]
  by_cases h : jdE x = j <;> simp [h]
theorem findE_some {l : List Envl} {j : Int × Int} {v : List Int} (h : findE l j = some v) : ∃ x, x ∈ l ∧ jdE x = j ∧ x.marks = v := by
  induction l with
  | nil => cases h
  | cons x l ih =>
    rw [findE_cons] at h
    split at h
    · cases h; exact ⟨x, by simp, by assumption, rfl⟩
    · obtain ⟨y, h1, h2⟩ := ih h; exact ⟨y, by simp [h1], h2⟩
theorem findE_none {l : List Envl} {j : Int × Int} : findE l j = none ↔ ∀ x, x ∈ l → jdE x ≠ j := by
  induction l with
  | nil => simp [findE_nil]
  | cons x l ih =>
    rw [findE_cons]
    split
    · constructor
      · intro h; cases h
      · intro h; exact absurd (by assumption) (h x (by simp))
    · rw [ih]
      constructor
      · intro h y hy
        rcases List.mem_cons.1 hy with rfl | hy
        · assumption
        · exact h y hy
      · intro h y hy; exact h y (by simp [hy])
theorem findE_mem {l : List Envl} (hs : SameE l) {x : Envl} (hx : x ∈ l) : findE l (jdE x) = some x.marks := by
  cases h : findE l (jdE x) with
  | none => exact absurd rfl (findE_none.1 h x hx)
  | some v =>
    obtain ⟨y, h1, h2, rfl⟩ := findE_some h
    rw [hs y h1 x hx h2]
theorem openK_zero {s : Scale} : ∀ {l : List Envl} {k : Kn}, (openK s l k).1 = 0 ↔ (∀ x, x ∈ l → GoodE s x) ∧ SameE l ∧ ∀ x, x ∈ l → ∀ o, aget (jdE x) k = some o → o = x.marks := by
  intro l
  induction l with
  | nil => intro k; simp [openK, SameE]
  | cons x l ih =>
    intro k
    have hj : (x.matter, x.judge) = jdE x := rfl
    simp only [openK, hj]
    by_cases h1 : marked s (jdE x) x.marks = 0
    · rw [if_neg (by simp [h1])]
      by_cases h2 : x.sl = sealOf (jdE x) x.marks
      · rw [if_neg (by simp [h2])]
        cases ho : aget (jdE x) k with
        | none =>
          simp only [Bool.false_eq_true, if_false]
          rw [ih]
          constructor
          · rintro ⟨a, b, c⟩
            refine ⟨fun y hy => ?_, fun y hy z hz e => ?_, fun y hy o hoo => ?_⟩
            · rcases List.mem_cons.1 hy with rfl | hy
              · exact ⟨h1, h2⟩
              · exact a y hy
            · rcases List.mem_cons.1 hy with rfl | hy'
              · rcases List.mem_cons.1 hz with rfl | hz
                · rfl
                · exact c z hz _ (by rw [aget_put, if_pos e.symm])
              · rcases List.mem_cons.1 hz with rfl | hz
                · exact (c y hy' _ (by rw [aget_put, if_pos e])).symm
                · exact b y hy' z hz e
            · rcases List.mem_cons.1 hy with rfl | hy
              · rw [ho] at hoo; cases hoo
              · by_cases e : jdE y = jdE x
                · rw [e, ho] at hoo; cases hoo
                · exact c y hy o (by rw [aget_put, if_neg e]; exact hoo)
          · rintro ⟨a, b, c⟩
            refine ⟨fun y hy => a y (by simp [hy]), fun y hy z hz e => b y (by simp [hy]) z (by simp [hz]) e, fun y hy o hoo => ?_⟩
            rw [aget_put] at hoo
            split at hoo
            · cases hoo; exact b x (by simp) y (by simp [hy]) (by symm; assumption)
            · exact c y (by simp [hy]) o hoo
        | some old =>
          by_cases h3 : old = x.marks
          · subst h3
            simp only [ne_eq, not_true_eq_false, decide_false, Bool.false_eq_true, if_false]
            rw [ih]
            constructor
            · rintro ⟨a, b, c⟩
              refine ⟨fun y hy => ?_, fun y hy z hz e => ?_, fun y hy o hoo => ?_⟩
              · rcases List.mem_cons.1 hy with rfl | hy
                · exact ⟨h1, h2⟩
                · exact a y hy
              · rcases List.mem_cons.1 hy with rfl | hy'
                · rcases List.mem_cons.1 hz with rfl | hz
                  · rfl
                  · exact c z hz _ (by rw [aget_put, if_pos e.symm])
                · rcases List.mem_cons.1 hz with rfl | hz
                  · exact (c y hy' _ (by rw [aget_put, if_pos e])).symm
                  · exact b y hy' z hz e
              · rcases List.mem_cons.1 hy with rfl | hy
                · rw [ho] at hoo; cases hoo; rfl
                · by_cases e : jdE y = jdE x
                  · rw [e, ho] at hoo; cases hoo; exact c y hy _ (by rw [aget_put, if_pos e])
                  · exact c y hy o (by rw [aget_put, if_neg e]; exact hoo)
            · rintro ⟨a, b, c⟩
              refine ⟨fun y hy => a y (by simp [hy]), fun y hy z hz e => b y (by simp [hy]) z (by simp [hz]) e, fun y hy o hoo => ?_⟩
              rw [aget_put] at hoo
              split at hoo
              · cases hoo; exact b x (by simp) y (by simp [hy]) (by symm; assumption)
              · exact c y (by simp [hy]) o hoo
          · simp only [ne_eq, h3, not_false_eq_true, decide_true, if_true]
            constructor
            · intro h; cases h
            · rintro ⟨_, _, c⟩; exact absurd (c x (by simp) old ho) h3
      · rw [if_pos (by simpa using h2)]
        constructor
        · intro h; cases h
        · rintro ⟨a, _⟩; exact absurd (a x (by simp)).sl h2
    · rw [if_pos (by simpa using h1)]
      constructor
      · intro h; exact absurd h h1
      · rintro ⟨a, _⟩; exact absurd (a x (by simp)).m h1
theorem openK_get {s : Scale} : ∀ {l : List Envl} {k : Kn}, (openK s l k).1 = 0 → ∀ j, aget j (openK s l k).2 = match findE l j with | some v => some v | none => aget j k := by
  intro l
  induction l with
  | nil => intro k _ j; rfl
  | cons x l ih =>
    intro k h j
    have hz := openK_zero.1 h
    have hj : (x.matter, x.judge) = jdE x := rfl
    simp only [openK, hj] at h ⊢
    obtain ⟨g1, g2⟩ := hz.1 x (by simp)
    rw [if_neg (by simp [g1]), if_neg (by simp [g2])] at h ⊢
    have key : (openK s l (aput (jdE x) x.marks k)).1 = 0 → aget j (openK s l (aput (jdE x) x.marks k)).2 = match findE (x :: l) j with | some v => some v | none => aget j k := by
      intro h
      rw [ih h j, findE_cons, aget_put]
      by_cases e : jdE x = j
      · subst e
        rw [if_pos rfl, if_pos rfl]
        cases hf : findE l (jdE x) with
        | none => rfl
        | some v =>
          obtain ⟨y, h1, h2, rfl⟩ := findE_some hf
          show some y.marks = some x.marks
          rw [hz.2.1 y (by simp [h1]) x (by simp) h2]
      · rw [if_neg e, if_neg (fun h => e h.symm)]
    cases ho : aget (jdE x) k with
    | none =>
      simp only [ho, Bool.false_eq_true, if_false] at h ⊢
      have := key h
      simpa only [ho] using this
    | some old =>
      have e := hz.2.2 x (by simp) old ho
      subst e
      simp only [ho, ne_eq, not_true_eq_false, decide_false, Bool.false_eq_true, if_false] at h ⊢
      have := key h
      simpa only [ho] using this
theorem missK_zero {s : Scale} : ∀ {l : List (Int × Int)} {k : Kn}, (missK s l k).1 = 0 ↔ ∀ j, j ∈ l → ofSc s j = true ∧ (aget j k).getD [] = [] := by
  intro l
  induction l with
  | nil => intro k; simp [missK]
  | cons x l ih =>
    intro k
    simp only [missK]
    by_cases h1 : ofSc s x = true
    · rw [h1]
      simp only [Bool.not_true, Bool.false_eq_true, if_false]
      by_cases h2 : (aget x k).getD [] = []
      · rw [if_neg (by simp [h2]), ih]
        constructor
        · intro a j hj
          rcases List.mem_cons.1 hj with rfl | hj
          · exact ⟨h1, h2⟩
          · refine ⟨(a j hj).1, ?_⟩
            have := (a j hj).2
            rw [aget_put] at this
            split at this
            · rename_i e; rw [e]; exact h2
            · exact this
        · intro a j hj
          refine ⟨(a j (by simp [hj])).1, ?_⟩
          rw [aget_put]
          split
          · rfl
          · exact (a j (by simp [hj])).2
      · rw [if_pos h2]
        constructor
        · intro h; cases h
        · intro a; exact absurd (a x (by simp)).2 h2
    · have : ofSc s x = false := by simpa using h1
      rw [this]
      constructor
      · intro h; cases h
      · intro a; exact absurd (a x (by simp)).1 h1
theorem missK_get {s : Scale} : ∀ {l : List (Int × Int)} {k : Kn}, (missK s l k).1 = 0 → ∀ j, aget j (missK s l k).2 = if j ∈ l then some [] else aget j k := by
  intro l
  induction l with
  | nil => intro k _ j; simp [missK]
  | cons x l ih =>
    intro k h j
    obtain ⟨g1, g2⟩ := missK_zero.1 h x (by simp)
    simp only [missK] at h ⊢
    rw [g1, if_neg (by simp), if_neg (by simp [g2])] at h ⊢
    rw [ih h j, aget_put]
    by_cases e : j ∈ l
    · rw [if_pos e, if_pos (by simp [e])]
    · rw [if_neg e]
      by_cases e2 : j = x
      · rw [if_pos e2, if_pos (by simp [e2])]
      · rw [if_neg e2, if_neg (by simp [e, e2])]
/-- What a night tells of a judge. -/
def kOf (n : Night) (j : Int × Int) : Option (List Int) := match findE n.opened j with
  | some v => some v
  | none => if j ∈ n.absent then some [] else none
structure NightV (s : Scale) (n : Night) : Prop where
  c : chkSc s = 0
  o60 : n.opened.length ≤ 60
  op : ∀ x, x ∈ n.opened → GoodE s x
  cs : SameE n.opened
  a60 : n.absent.length ≤ 60
  ab : ∀ j, j ∈ n.absent → ofSc s j = true ∧ ∀ x, x ∈ n.opened → jdE x ≠ j
  sh : ∀ m, 0 ≤ m → m < s.matters → ∃ q, (0 ≤ q ∧ q < s.judges) ∧ (m, q) ∉ n.absent
  fi : finesE s n.fines = 0
theorem GoodE.ne {s : Scale} (hv : s.V) {x : Envl} (h : GoodE s x) : x.marks ≠ [] := fun e => by
  obtain ⟨_, h2, _⟩ := marked_ok h.m
  have := hv.sc
  rw [e] at h2
  simp at h2
  omega
theorem mem_toI' {n x : Int} : x ∈ toI n ↔ 0 ≤ x ∧ x < n := by
  unfold toI
  rw [List.mem_map]
  constructor
  · rintro ⟨i, hi, rfl⟩
    have := List.mem_range.1 hi
    omega
  · rintro ⟨h1, h2⟩
    exact ⟨x.toNat, List.mem_range.2 (by omega), by omega⟩
theorem pre_get {s : Scale} {n : Night} (h1 : (openK s n.opened []).1 = 0) (h2 : (missK s n.absent (openK s n.opened []).2).1 = 0) (j : Int × Int) : aget j (knownK s n) = kOf n j := by
  unfold knownK kOf
  rw [missK_get h2, openK_get h1]
  have hm := missK_zero.1 h2
  cases hf : findE n.opened j with
  | none => rfl
  | some v =>
    simp only
    by_cases e : j ∈ n.absent
    · rw [if_pos e]
      have := (hm j e).2
      rw [openK_get h1, hf] at this
      simp at this
      rw [this]
    · rw [if_neg e]
theorem absentK_iff {k : Kn} {j : Int × Int} : absentK k j = true ↔ aget j k = some [] := by
  unfold absentK
  cases aget j k with
  | none => simp
  | some l => cases l <;> simp
theorem kOf_nil {s : Scale} (hv : s.V) {n : Night} (hop : ∀ x, x ∈ n.opened → GoodE s x) (hab : ∀ j, j ∈ n.absent → ∀ x, x ∈ n.opened → jdE x ≠ j) (j : Int × Int) : kOf n j = some [] ↔ j ∈ n.absent := by
  unfold kOf
  cases hf : findE n.opened j with
  | none => simp
  | some v =>
    obtain ⟨x, h1, h2, rfl⟩ := findE_some hf
    simp only [Option.some.injEq]
    constructor
    · intro e; exact absurd e ((hop x h1).ne hv)
    · intro e; exact absurd h2 (hab j e x h1)
theorem nightV_iff {s : Scale} {n : Night} : knownE s n = 0 ↔ NightV s n := by
  unfold knownE
  by_cases c1' : ¬ (chkSc s = 0)
  · have c1 := c1'
    rw [if_pos c1]
    exact ⟨fun h => absurd h c1, fun h => absurd h.c c1⟩
  have c1 := Classical.not_not.1 c1'
  rw [if_neg (by simp [c1])]
  by_cases c2' : ¬ (n.opened.length ≤ 60)
  · have c2 := c2'
    rw [if_pos (by omega)]
    exact ⟨fun h => absurd h (by decide), fun h => absurd h.o60 c2⟩
  have c2 := Classical.not_not.1 c2'
  rw [if_neg (by omega)]
  by_cases c3' : ¬ ((openK s n.opened []).1 = 0)
  · have c3 := c3'
    rw [if_pos c3]
    exact ⟨fun h => absurd h c3, fun h => absurd (openK_zero.2 ⟨h.op, h.cs, fun x _ o ho => by cases ho⟩) c3⟩
  have c3 := Classical.not_not.1 c3'
  rw [if_neg (by simp [c3])]
  by_cases c4' : ¬ (n.absent.length ≤ 60)
  · have c4 := c4'
    rw [if_pos (by omega)]
    exact ⟨fun h => absurd h (by decide), fun h => absurd h.a60 c4⟩
  have c4 := Classical.not_not.1 c4'
  rw [if_neg (by omega)]
  obtain ⟨o1, o2, _⟩ := openK_zero.1 c3
  have hv := Scale.v c1
  have hmi : (missK s n.absent (openK s n.opened []).2).1 = 0 ↔ ∀ j, j ∈ n.absent → ofSc s j = true ∧ ∀ x, x ∈ n.opened → jdE x ≠ j := by
    rw [missK_zero]
    constructor
    · intro h j hj
      refine ⟨(h j hj).1, fun x hx e => ?_⟩
      have := (h j hj).2
      rw [openK_get c3, ← e, findE_mem o2 hx] at this
      simp at this
      exact (o1 x hx).ne hv this
    · intro h j hj
      refine ⟨(h j hj).1, ?_⟩
      rw [openK_get c3, findE_none.2 (h j hj).2]
      rfl
  by_cases c5' : ¬ ((missK s n.absent (openK s n.opened []).2).1 = 0)
  · have c5 := c5'
    rw [if_pos c5]
    exact ⟨fun h => absurd h c5, fun h => absurd (hmi.2 h.ab) c5⟩
  have c5 := Classical.not_not.1 c5'
  rw [if_neg (by simp [c5])]
  have hab := hmi.1 c5
  have hk := pre_get c3 c5
  have hkn := kOf_nil hv o1 (fun j hj => (hab j hj).2)
  have hsh : shortK s (knownK s n) = false ↔ ∀ m, 0 ≤ m → m < s.matters → ∃ q, (0 ≤ q ∧ q < s.judges) ∧ (m, q) ∉ n.absent := by
    unfold shortK
    rw [List.any_eq_false]
    constructor
    · intro h m m0 m1
      have := h m (mem_toI'.2 ⟨m0, m1⟩)
      rw [List.all_eq_true] at this
      obtain ⟨q, hq⟩ := Classical.not_forall.1 this
      obtain ⟨hq1, hq2⟩ := Classical.not_imp.1 hq
      refine ⟨q, mem_toI'.1 hq1, fun e => hq2 ?_⟩
      rw [absentK_iff, hk, hkn]; exact e
    · intro h m hm
      obtain ⟨m0, m1⟩ := mem_toI'.1 hm
      obtain ⟨q, hq, hn⟩ := h m m0 m1
      rw [List.all_eq_true]
      intro ha
      have := ha q (mem_toI'.2 hq)
      rw [absentK_iff, hk, hkn] at this
      exact hn this
  by_cases c6 : shortK s (knownK s n) = true
  · rw [if_pos c6]
    exact ⟨fun h => absurd h (by decide), fun h => absurd (hsh.2 h.sh) (by rw [c6]; simp)⟩
  rw [if_neg c6]
  have c6' := hsh.1 (by simpa using c6)
  exact ⟨fun h => ⟨c1, c2, o1, o2, c4, hab, c6', h⟩, fun h => h.fi⟩
theorem NightV.get {s : Scale} {n : Night} (h : NightV s n) (j : Int × Int) : aget j (knownK s n) = kOf n j :=
  pre_get (openK_zero.2 ⟨h.op, h.cs, fun x _ o ho => by cases ho⟩) (missK_zero.2 fun j hj => ⟨(h.ab j hj).1, by
    rw [openK_get (openK_zero.2 ⟨h.op, h.cs, fun x _ o ho => by cases ho⟩), findE_none.2 (h.ab j hj).2]; rfl⟩) j
end Go.Proofs.YtgelnjmddabgpaaGreat
namespace Go.Proofs.YtgelnjmddabgpaaGreat
set_option maxRecDepth 100000
section
variable {s : Scale} {k k' : Kn} {g g' : Night}
theorem stand_total {u v sc : Int} (hA : ∀ j, absentK k j = absentK k' j) (hM : ∀ m n, absentK k (m, n) = false → mkAt k sc m u n ≤ mkAt k' sc m v n) (hf : g.fines = g'.fines) : (standK s k g sc u).total ≤ (standK s k' g' sc v).total := by
  simp only [standK]
  rw [hf]
  have : sumI (pointsL s k sc u) ≤ sumI (pointsL s k' sc v) := sumI_le fun m _ => points_le (fun n => hA _) fun n _ hn => hM m n hn
  omega
end
end Go.Proofs.YtgelnjmddabgpaaGreat
namespace Go.Proofs.YtgelnjmddabgpaaGreat
set_option maxRecDepth 100000
section
variable {s : Scale} {n n' : Night} {xs : List Envl}
end
end Go.Proofs.YtgelnjmddabgpaaGreat
namespace Go.Proofs.YtgelnjmddabgpaaGreat
set_option maxRecDepth 100000
section
variable {s : Scale} {n n' : Night} {xs : List Envl} {sc : Int}
end
end Go.Proofs.YtgelnjmddabgpaaGreat
namespace Go.Proofs.YtgelnjmddabgpaaGreat
set_option maxRecDepth 100000
theorem notAhd_lex {ord : List Int} {a b : Stand} : ¬ Ahd ord b a ↔ lexlt (keyS ord a) (keyS ord b) ∨ keyS ord a = keyS ord b := by
  constructor
  · intro h
    rcases lexlt_total (a := keyS ord a) (b := keyS ord b) (by rw [keyS_len, keyS_len]) with k | k | k
    · exact .inl k
    · exact .inr k
    · exact absurd (Ahd_lex.2 k) h
  · rintro (h | h) k
    · exact lexlt_irrefl (lexlt_trans h (Ahd_lex.1 k))
    · have := Ahd_lex.1 k
      rw [h] at this
      exact lexlt_irrefl this
theorem notAhd_trans {ord : List Int} {a b c : Stand} (h : ¬ Ahd ord b a) (k : ¬ Ahd ord c b) : ¬ Ahd ord c a := by
  rw [notAhd_lex] at *
  rcases h with h | h
  · rcases k with k | k
    · exact .inl (lexlt_trans h k)
    · rw [← k]; exact .inl h
  · rw [h]; exact k
theorem set2_perm {l : List Stand} {i j : Nat} {x y : Stand} (hx : l[i]? = some x) (hy : l[j]? = some y) : ((l.set i y).set j x).Perm l := by
  obtain ⟨h1, rfl⟩ := List.getElem?_eq_some_iff.1 hx
  obtain ⟨h2, rfl⟩ := List.getElem?_eq_some_iff.1 hy
  exact List.set_set_perm h1 h2
theorem sink_perm (ord : List Int) : ∀ (j : Nat) (l : List Stand), (sink ord j l).Perm l := by
  intro j
  induction j with
  | zero => intro l; exact .refl _
  | succ j ih =>
    intro l
    simp only [sink]
    split
    · rename_i hx hy
      split
      · exact (ih _).trans (set2_perm hx hy)
      · exact .refl _
    · exact .refl _
theorem sinkAll_perm (ord : List Int) : ∀ (k i : Nat) (l : List Stand), (sinkAll ord k i l).Perm l := by
  intro k
  induction k with
  | zero => intro i l; exact .refl _
  | succ k ih => intro i l; simp only [sinkAll]; exact (ih _ _).trans (sink_perm ord i l)
theorem sortSd_perm (ord : List Int) (l : List Stand) : (sortSd ord l).Perm l := sinkAll_perm _ _ _ _
/-- The first ones, up to a place, are sorted, but for one that may stand too far behind. -/
def SrtX (ord : List Int) (l : List Stand) (i j : Nat) : Prop := ∀ p q a b, p < q → q ≤ i → q ≠ j → l[p]? = some a → l[q]? = some b → ¬ Ahd ord b a
def Srt (ord : List Int) (l : List Stand) (i : Nat) : Prop := ∀ p q a b, p < q → q ≤ i → l[p]? = some a → l[q]? = some b → ¬ Ahd ord b a
theorem sink_srt (ord : List Int) (i : Nat) : ∀ (j : Nat) (l : List Stand), j ≤ i → i < l.length → SrtX ord l i j → Srt ord (sink ord j l) i := by
  intro j
  induction j with
  | zero => intro l _ _ h p q a b hpq hq; exact h p q a b hpq hq (by omega)
  | succ j ih =>
    intro l hj hl h
    obtain ⟨x, hx⟩ : ∃ x, l[j + 1]? = some x := ⟨l[j + 1]'(by omega), by simp⟩
    obtain ⟨y, hy⟩ : ∃ y, l[j]? = some y := ⟨l[j]'(by omega), by simp⟩
    simp only [sink, hx, hy]
    split
    · rename_i hlt
      refine ih _ (by omega) (by simpa using hl) ?_
      have g : ∀ r, ((l.set (j + 1) y).set j x)[r]? = if r = j then some x else if r = j + 1 then some y else l[r]? := by
        intro r
        by_cases e : r = j
        · subst e; rw [if_pos rfl, List.getElem?_set_self (by simp; omega)]
        · rw [if_neg e, List.getElem?_set_ne (fun h => e h.symm)]
          by_cases e2 : r = j + 1
          · subst e2; rw [if_pos rfl, List.getElem?_set_self (by omega)]
          · rw [if_neg e2, List.getElem?_set_ne (fun h => e2 h.symm)]
      intro p q a b hpq hq hne ha hb
      rw [g] at ha hb
      rw [if_neg hne] at hb
      by_cases e1 : q = j + 1
      · rw [if_pos e1] at hb
        cases hb
        by_cases e2 : p = j
        · rw [if_pos e2] at ha
          cases ha
          exact Ahd.asymm hlt
        · rw [if_neg e2, if_neg (by omega)] at ha
          exact h p j _ _ (by omega) (by omega) (by omega) ha hy
      · rw [if_neg e1] at hb
        by_cases e2 : p = j
        · rw [if_pos e2] at ha
          cases ha
          exact h (j + 1) q _ _ (by omega) hq (by omega) hx hb
        · rw [if_neg e2] at ha
          by_cases e3 : p = j + 1
          · rw [if_pos e3] at ha
            cases ha
            exact h j q _ _ (by omega) hq (by omega) hy hb
          · rw [if_neg e3] at ha
            exact h p q a b hpq hq (by omega) ha hb
    · rename_i hnlt
      intro p q a b hpq hq ha hb
      by_cases e : q = j + 1
      · subst e
        rw [hx] at hb
        cases hb
        by_cases e2 : p = j
        · subst e2
          rw [hy] at ha
          cases ha
          exact hnlt
        · exact notAhd_trans (h p j a y (by omega) (by omega) (by omega) ha hy) hnlt
      · exact h p q a b hpq hq e ha hb
theorem sinkAll_srt (ord : List Int) : ∀ (k i : Nat) (l : List Stand), 0 < i → i + k ≤ l.length → Srt ord l (i - 1) → Srt ord (sinkAll ord k i l) (i + k - 1) := by
  intro k
  induction k with
  | zero => intro i l _ _ h; exact h
  | succ k ih =>
    intro i l hi hl h
    simp only [sinkAll]
    have h1 := sink_srt ord i i l (Nat.le_refl _) (by omega) (fun p q a b hpq hq hne ha hb => h p q a b hpq (by omega) ha hb)
    have h2 := ih (i + 1) (sink ord i l) (by omega) (by rw [sink_len]; omega) (by rw [Nat.add_sub_cancel]; exact h1)
    rw [show i + (k + 1) - 1 = i + 1 + k - 1 by omega]
    exact h2
theorem sortSd_srt (ord : List Int) (l : List Stand) {p q : Nat} {a b : Stand} (hpq : p < q) (ha : (sortSd ord l)[p]? = some a) (hb : (sortSd ord l)[q]? = some b) : ¬ Ahd ord b a := by
  have hq := (List.getElem?_eq_some_iff.1 hb).1
  rw [sortSd_len] at hq
  have := sinkAll_srt ord (l.length - 1) 1 l (by omega) (by omega) (fun p q a b hpq hq => by omega)
  exact this p q a b hpq (by omega) ha hb
section
variable {s : Scale} {k : Kn} {g : Night} {N : Nat}
/-- The table of a night that is decided. -/
structure TabOk (s : Scale) (k : Kn) (g : Night) (N : Nat) (l : List Stand) : Prop where
  ln : l.length = N
  of : ∀ x, x ∈ l → ∃ c : Nat, c < N ∧ x = standK s k g c 0
  nd : (l.map Stand.school).Nodup
  st : ∀ (p q : Nat) (a b : Stand), p < q → l[p]? = some a → l[q]? = some b → Ahd s.order a b
  al : ∀ c : Nat, c < N → standK s k g c 0 ∈ l
theorem sd_map (f : Nat → Stand) (hf : ∀ i, (f i).school = i) (N : Nat) : (((List.range N).map f).map Stand.school).Nodup := by
  rw [List.map_map]
  have : (Stand.school ∘ f) = fun (i : Nat) => (i : Int) := by funext i; exact hf i
  rw [this]
  rw [List.nodup_iff_pairwise_ne, List.pairwise_map]
  exact (List.nodup_range (n := N)).imp fun h e => h (by omega)
theorem tbl_ok (hN : s.schools = N) : TabOk s k g N (tblP s k g) := by
  have hp := sortSd_perm s.order (sdUp s k g N)
  have e : tblP s k g = sortSd s.order (sdUp s k g N) := by unfold tblP; rw [hN, Int.toNat_natCast]
  rw [e]
  have hnd : ((sortSd s.order (sdUp s k g N)).map Stand.school).Nodup := (hp.map _).nodup_iff.2 (sd_map _ (fun i => rfl) N)
  refine ⟨by rw [sortSd_len]; simp [sdUp], fun x hx => ?_, hnd, fun p q a b hpq ha hb => ?_, fun c hc => hp.mem_iff.2 (List.mem_map.2 ⟨c, List.mem_range.2 hc, rfl⟩)⟩
  · obtain ⟨c, h1, rfl⟩ := List.mem_map.1 (hp.mem_iff.1 hx)
    exact ⟨c, List.mem_range.1 h1, rfl⟩
  · refine not_ahd (fun e => ?_) (sortSd_srt _ _ hpq ha hb)
    obtain ⟨h1, h2⟩ := List.getElem?_eq_some_iff.1 ha
    obtain ⟨h3, h4⟩ := List.getElem?_eq_some_iff.1 hb
    have := (List.pairwise_iff_getElem.1 (List.nodup_iff_pairwise_ne.1 hnd)) p q (by simpa using h1) (by simpa using h3) hpq
    simp only [List.getElem_map] at this
    rw [h2, h4] at this
    exact this e.symm
end
end Go.Proofs.YtgelnjmddabgpaaGreat
namespace Go.Proofs.YtgelnjmddabgpaaGreat
set_option maxRecDepth 100000
section
variable {s : Scale} {n : Night} {k : Kn} {g : Night} {sc : Int}
theorem tbl_place {N : Nat} (hN : s.schools = N) {i : Nat} (hi : (tblP s k g)[i]? = some (standK s k g sc 0)) : placeK s k g sc 0 0 = i + 1 := by
  have T := tbl_ok (s := s) (k := k) (g := g) hN
  have hp : (tblP s k g).Perm ((toI s.schools).map fun o => standK s k g o 0) := by
    have e : tblP s k g = sortSd s.order (sdUp s k g N) := by unfold tblP; rw [hN, Int.toNat_natCast]
    rw [e]
    refine (sortSd_perm s.order (sdUp s k g N)).trans (List.Perm.of_eq ?_)
    rw [toI, hN, Int.toNat_natCast, List.map_map]
    rfl
  have hc : ((toI s.schools).filter fun o => decide (o ≠ sc) && decide (cmpSt s.order (standK s k g o 0) (standK s k g sc 0) < 0)).length = (tblP s k g).countP fun x => decide (cmpSt s.order x (standK s k g sc 0) < 0) := by
    rw [← List.countP_eq_length_filter, hp.countP_eq, List.countP_map]
    refine List.countP_congr fun o _ => ?_
    simp only [Bool.and_eq_true, decide_eq_true_eq, Function.comp]
    exact ⟨fun h => h.2, fun h => ⟨fun e => by subst e; exact Ahd.irrefl h, h⟩⟩
  unfold placeK
  rw [hc]
  have hil := (List.getElem?_eq_some_iff.1 hi).1
  have h1 : ((tblP s k g).take i).countP (fun x => decide (cmpSt s.order x (standK s k g sc 0) < 0)) = i := by
    rw [List.countP_eq_length.2, List.length_take]
    · omega
    · intro x hx
      obtain ⟨p, hp1, hp2⟩ := List.mem_take_iff_getElem.1 hx
      simp only [decide_eq_true_eq]
      exact T.st p i _ _ (by omega) (by rw [← hp2]; simp) hi
  have h2 : ((tblP s k g).drop i).countP (fun x => decide (cmpSt s.order x (standK s k g sc 0) < 0)) = 0 := by
    rw [List.countP_eq_zero]
    intro x hx
    obtain ⟨p, hp1⟩ := List.mem_iff_getElem?.1 hx
    rw [List.getElem?_drop] at hp1
    simp only [decide_eq_true_eq]
    intro hlt
    cases p with
    | zero => rw [Nat.add_zero, hi] at hp1; injection hp1 with hp1; subst hp1; exact Ahd.irrefl hlt
    | succ p => exact Ahd.asymm (T.st i (i + (p + 1)) _ _ (by omega) hi hp1) hlt
  have h3 : (tblP s k g).countP (fun x => decide (cmpSt s.order x (standK s k g sc 0) < 0)) = i := by
    conv => lhs; rw [← List.take_append_drop i (tblP s k g)]
    rw [List.countP_append, h1, h2]
    rfl
  rw [h3]
  omega
end
end Go.Proofs.YtgelnjmddabgpaaGreat
namespace Go.Proofs.YtgelnjmddabgpaaGreat
set_option maxRecDepth 100000
def Bef (m j : Nat) (p : Int × Int) : Prop := p.1 < m ∨ (p.1 = m ∧ p.2 < j)
structure RInv (s : Scale) (dec : Bool) (m j : Nat) (here : Int) (op : List Envl) (ab : List (Int × Int)) : Prop where
  go : ∀ x, x ∈ op → GoodE s x ∧ Bef m j (jdE x)
  ga : ∀ a, a ∈ ab → ofSc s a = true ∧ Bef m j a
  nd : (op.map jdE ++ ab).Nodup
  sh : ∀ m' : Int, 0 ≤ m' → m' < m → ∃ q, (0 ≤ q ∧ q < s.judges) ∧ (m', q) ∉ ab
  he : 0 < here → ∃ q : Int, (0 ≤ q ∧ q < j) ∧ ((m : Int), q) ∉ ab
  h0 : 0 ≤ here
  dc : dec = true → ∀ p, ofSc s p = true → Bef m j p → p ∈ ab ∨ ∃ x, x ∈ op ∧ jdE x = p
  l1 : op.length ≤ 5 * m + j
  l2 : ab.length ≤ 5 * m + j
theorem Bef.mono {m j : Nat} {p : Int × Int} (h : Bef m j p) : Bef m (j + 1) p := by
  unfold Bef at *; omega
theorem sealed_good {s : Scale} (hc : chkSc s = 0) {m j : Int} {l : List Int} (hj : ofSc s (m, j) = true) (hl : (l.length : Int) = s.schools ∧ ∀ x, x ∈ l → s.low ≤ x ∧ x ≤ s.high) : GoodE s (sealedE s m j l) := by
  have hm : marked s (m, j) l = 0 := marked_of hj hl.1 hl.2
  refine ⟨hm, ?_⟩
  show (sealAns s (m, j) l).1 = sealOf (m, j) l
  unfold sealAns
  rw [if_neg (by simp [hc]), if_neg (by simp [hm])]
section
variable {s : Scale} {dec : Bool} {m j : Nat} {here : Int} {op : List Envl} {ab : List (Int × Int)}
theorem RInv.absent (h : RInv s dec m j here op ab) (hj : ofSc s ((m : Int), (j : Int)) = true) : RInv s dec m (j + 1) here op (ab ++ [((m : Int), (j : Int))]) where
  go := fun x hx => ⟨(h.go x hx).1, (h.go x hx).2.mono⟩
  ga := fun a ha => by
    rcases List.mem_append.1 ha with ha | ha
    · exact ⟨(h.ga a ha).1, (h.ga a ha).2.mono⟩
    · simp at ha; subst ha; exact ⟨hj, .inr ⟨rfl, by simp; omega⟩⟩
  nd := by
    rw [← List.append_assoc, List.nodup_append]
    refine ⟨h.nd, by simp, fun a ha b hb e => ?_⟩
    simp at hb
    subst hb e
    rcases List.mem_append.1 ha with ha | ha
    · obtain ⟨x, hx, e⟩ := List.mem_map.1 ha
      have := (h.go x hx).2
      rw [e] at this
      unfold Bef at this; simp at this
    · have := (h.ga _ ha).2
      unfold Bef at this; simp at this
  sh := fun m' a b => by
    obtain ⟨q, h1, h2⟩ := h.sh m' a b
    refine ⟨q, h1, fun hq => ?_⟩
    rcases List.mem_append.1 hq with hq | hq
    · exact h2 hq
    · simp at hq; omega
  he := fun hh => by
    obtain ⟨q, h1, h2⟩ := h.he hh
    refine ⟨q, by omega, fun hq => ?_⟩
    rcases List.mem_append.1 hq with hq | hq
    · exact h2 hq
    · simp at hq; omega
  h0 := h.h0
  dc := fun hd p hp hb => by
    by_cases e : p = ((m : Int), (j : Int))
    · exact .inl (by simp [e])
    · have : Bef m j p := by
        unfold Bef at *
        have : ¬ (p.1 = m ∧ p.2 = j) := fun ⟨a, b⟩ => e (Prod.ext a b)
        omega
      rcases h.dc hd p hp this with k | k
      · exact .inl (by simp [k])
      · exact .inr k
  l1 := by have := h.l1; omega
  l2 := by have := h.l2; simp; omega
theorem RInv.skip (h : RInv s dec m j here op ab) (hd : dec = false) : RInv s dec m (j + 1) (here + 1) op ab where
  go := fun x hx => ⟨(h.go x hx).1, (h.go x hx).2.mono⟩
  ga := fun a ha => ⟨(h.ga a ha).1, (h.ga a ha).2.mono⟩
  nd := h.nd
  sh := h.sh
  he := fun _ => ⟨j, by omega, fun ha => by have := (h.ga _ ha).2; unfold Bef at this; simp at this⟩
  h0 := by have := h.h0; omega
  dc := fun e => by rw [hd] at e; cases e
  l1 := by have := h.l1; omega
  l2 := by have := h.l2; omega
theorem RInv.opened (h : RInv s dec m j here op ab) (hc : chkSc s = 0) (hj : ofSc s ((m : Int), (j : Int)) = true) {l : List Int} (hl : (l.length : Int) = s.schools ∧ ∀ x, x ∈ l → s.low ≤ x ∧ x ≤ s.high) : RInv s dec m (j + 1) (here + 1) (op ++ [sealedE s m j l]) ab where
  go := fun x hx => by
    rcases List.mem_append.1 hx with hx | hx
    · exact ⟨(h.go x hx).1, (h.go x hx).2.mono⟩
    · simp at hx; subst hx; exact ⟨sealed_good hc hj hl, .inr ⟨rfl, by simp [jdE, sealedE]; omega⟩⟩
  ga := fun a ha => ⟨(h.ga a ha).1, (h.ga a ha).2.mono⟩
  nd := by
    have hnew : ((m : Int), (j : Int)) ∉ op.map jdE ++ ab := fun ha => by
      rcases List.mem_append.1 ha with ha | ha
      · obtain ⟨x, hx, e⟩ := List.mem_map.1 ha
        have := (h.go x hx).2
        rw [e] at this
        unfold Bef at this; simp at this
      · have := (h.ga _ ha).2
        unfold Bef at this; simp at this
    rw [List.map_append, List.append_assoc]
    show (op.map jdE ++ ([((m : Int), (j : Int))] ++ ab)).Nodup
    have : (op.map jdE ++ ([((m : Int), (j : Int))] ++ ab)).Perm (((m : Int), (j : Int)) :: (op.map jdE ++ ab)) := List.perm_middle
    rw [this.nodup_iff, List.nodup_cons]
    exact ⟨hnew, h.nd⟩
  sh := h.sh
  he := fun _ => ⟨j, by omega, fun ha => by have := (h.ga _ ha).2; unfold Bef at this; simp at this⟩
  h0 := by have := h.h0; omega
  dc := fun hd p hp hb => by
    by_cases e : p = ((m : Int), (j : Int))
    · exact .inr ⟨_, List.mem_append.2 (.inr (List.mem_singleton.2 rfl)), e.symm⟩
    · have : Bef m j p := by
        unfold Bef at *
        have : ¬ (p.1 = m ∧ p.2 = j) := fun ⟨a, b⟩ => e (Prod.ext a b)
        omega
      rcases h.dc hd p hp this with k | ⟨x, k1, k2⟩
      · exact .inl k
      · exact .inr ⟨x, by simp [k1], k2⟩
  l1 := by have := h.l1; simp; omega
  l2 := by have := h.l2; omega
theorem RInv.next (h : RInv s dec m j here op ab) (hv : s.V) (hJ : s.judges = j) (hh : 0 < here) : RInv s dec (m + 1) 0 0 op ab where
  go := fun x hx => ⟨(h.go x hx).1, by have := (h.go x hx).2; unfold Bef at *; omega⟩
  ga := fun a ha => ⟨(h.ga a ha).1, by have := (h.ga a ha).2; unfold Bef at *; omega⟩
  nd := h.nd
  sh := fun m' a b => by
    by_cases e : m' < m
    · exact h.sh m' a e
    · obtain ⟨q, h1, h2⟩ := h.he hh
      have e2 : m' = m := by omega
      subst e2
      exact ⟨q, by omega, h2⟩
  he := fun a => absurd a (by omega)
  h0 := Int.le_refl _
  dc := fun hd p hp hb => h.dc hd p hp (by
    obtain ⟨_, h2⟩ := ofSc_true.1 hp
    unfold Bef at *
    omega)
  l1 := by have := h.l1; have := hv.jd; omega
  l2 := by have := h.l2; have := hv.jd; omega
end
theorem nightJ_ok {s : Scale} {dec : Bool} (hc : chkSc s = 0) {J m : Nat} (hJ : s.judges = J) (hm : (m : Int) < s.matters) : ∀ (k : Nat) (here : Int) (op : List Envl) (ab : List (Int × Int)), k ≤ J → RInv s dec m (J - k) here op ab → (k = 0 → 0 < here) → Holds (nightJ s dec J m k here op ab) fun p => RInv s dec (m + 1) 0 0 p.1 p.2 := by
  have hv := Scale.v hc
  have hjd := hv.jd
  intro k
  induction k with
  | zero =>
    intro here op ab _ h h0
    exact .ret (h.next hv (by simpa using hJ) (h0 rfl))
  | succ k ih =>
    intro here op ab hk h _
    have e : J - k = (J - (k + 1)) + 1 := by omega
    have hj : ofSc s ((m : Int), ((J - (k + 1) : Nat) : Int)) = true := by rw [ofSc_true]; constructor <;> simp <;> omega
    have hh := h.h0
    simp only [nightJ]
    have hr : Holds (rare 5) fun _ => True := fun _ => trivial
    refine hr.bind fun a _ => ?_
    split
    · rename_i hcond
      refine ih _ _ _ (by omega) (by rw [e]; exact h.absent hj) fun hk0 => ?_
      subst hk0
      omega
    · split
      · exact (marksD_ok hv).bind fun l hl => ih _ _ _ (by omega) (by rw [e]; exact h.opened hc hj hl) fun _ => by omega
      · rename_i hd
        have hr : Holds (rare 3) fun _ => True := fun _ => trivial
        refine hr.bind fun r _ => ?_
        split
        · exact ih _ _ _ (by omega) (by rw [e]; exact h.skip (by simpa using hd)) fun _ => by omega
        · exact (marksD_ok hv).bind fun l hl => ih _ _ _ (by omega) (by rw [e]; exact h.opened hc hj hl) fun _ => by omega
theorem nightM_ok {s : Scale} {dec : Bool} (hc : chkSc s = 0) {M J : Nat} (hM : s.matters = M) (hJ : s.judges = J) : ∀ (k : Nat) (op : List Envl) (ab : List (Int × Int)), k ≤ M → RInv s dec (M - k) 0 0 op ab → Holds (nightM s dec M J k op ab) fun p => RInv s dec M 0 0 p.1 p.2 := by
  have hjd := (Scale.v hc).jd
  intro k
  induction k with
  | zero => intro op ab _ h; exact .ret h
  | succ k ih =>
    intro op ab hk h
    simp only [nightM]
    refine (nightJ_ok hc hJ (by omega) J 0 op ab (Nat.le_refl _) (by rw [Nat.sub_self]; exact h) (fun e => by omega)).bind fun p hp => ih _ _ (by omega) ?_
    rw [show M - k = M - (k + 1) + 1 by omega]
    exact hp
def FinesIn (sc : Int) (l : List (Int × Int)) : Prop := ∀ f, f ∈ l → (0 ≤ f.1 ∧ f.1 ≤ sc - 1) ∧ 0 ≤ f.2 ∧ f.2 ≤ 1000
theorem finesC_ok {sc : Int} (hs : 1 ≤ sc) : ∀ (k : Nat) (fi : List (Int × Int)), FinesIn sc fi → Holds (finesC sc k fi) fun l => FinesIn sc l ∧ l.length = fi.length + k := by
  intro k
  induction k with
  | zero => intro fi h; exact .ret ⟨h, rfl⟩
  | succ k ih =>
    intro fi h
    simp only [finesC]
    refine (roll_bd sc).bind fun a ha => (anyOf_mem [3, 100] (by simp)).bind fun y hy => (roll_bd y).bind fun p hp => (ih (fi ++ [(a, p)]) fun f hf => ?_).mono fun l hl => ⟨hl.1, by rw [hl.2]; simp; omega⟩
    rcases List.mem_append.1 hf with hf | hf
    · exact h f hf
    · simp at hf
      subst hf
      simp only
      rcases mem2 hy with rfl | rfl <;> omega
theorem finesD_ok {sc : Int} (hs : 1 ≤ sc) : Holds (finesD sc) fun l => FinesIn sc l ∧ l.length ≤ 3 := by
  unfold finesD
  refine (roll_bd 4).bind fun q hq => (anyOf_mem [0, 0, q] (by simp)).bind fun n hn => (finesC_ok hs n.toNat [] (fun f hf => by cases hf)).mono fun l hl => ⟨hl.1, ?_⟩
  have : 0 ≤ n ∧ n ≤ 3 := by rcases mem3 hn with rfl | rfl | rfl <;> omega
  rw [hl.2]; simp; omega
theorem finesR_zero {s : Scale} : ∀ {l : List (Int × Int)}, finesR s l = 0 ↔ FinesIn s.schools l := by
  intro l
  induction l with
  | nil => simp [finesR, FinesIn]
  | cons f l ih =>
    simp only [finesR]
    by_cases h1 : inR f.1 0 (s.schools - 1) = true
    · rw [h1]
      simp only [Bool.not_true, Bool.false_eq_true, if_false]
      by_cases h2 : inR f.2 0 1000 = true
      · rw [h2]
        simp only [Bool.not_true, Bool.false_eq_true, if_false]
        rw [ih]
        constructor
        · intro h g hg
          rcases List.mem_cons.1 hg with rfl | hg
          · exact ⟨inR_true.1 h1, inR_true.1 h2⟩
          · exact h g hg
        · intro h g hg; exact h g (by simp [hg])
      · have e : inR f.2 0 1000 = false := by simpa using h2
        rw [e]
        constructor
        · intro h; exact absurd h (by simp)
        · intro h; exact absurd (inR_true.2 (h f (by simp)).2) h2
    · have e : inR f.1 0 (s.schools - 1) = false := by simpa using h1
      rw [e]
      constructor
      · intro h; exact absurd h (by simp)
      · intro h; exact absurd (inR_true.2 (h f (by simp)).1) h1
theorem pickE_perm {op : List Envl} {od : List Int} (h : od.Perm ((List.range op.length).map fun (i : Nat) => (i : Int))) : (pickE op od).Perm op := by
  have h1 := h.map fun i : Int => (op[i.toNat]?).getD ⟨0, 0, [], 0⟩
  refine h1.trans ?_
  rw [List.map_map]
  have : (List.range op.length).map ((fun i : Int => (op[i.toNat]?).getD ⟨0, 0, [], 0⟩) ∘ fun (i : Nat) => (i : Int)) = op := by
    apply List.ext_getElem?
    intro i
    by_cases hi : i < op.length
    · simp [hi]
    · simp [hi]
  rw [this]
theorem sameE_of_nodup : ∀ {l : List Envl}, (l.map jdE).Nodup → SameE l := by
  intro l
  induction l with
  | nil => intro _ x hx; cases hx
  | cons a l ih =>
    intro h x hx y hy e
    rw [List.map_cons, List.nodup_cons] at h
    rcases List.mem_cons.1 hx with rfl | hx'
    · rcases List.mem_cons.1 hy with rfl | hy
      · rfl
      · exact absurd (List.mem_map.2 ⟨y, hy, e.symm⟩) h.1
    · rcases List.mem_cons.1 hy with rfl | hy
      · exact absurd (List.mem_map.2 ⟨x, hx', e⟩) h.1
      · exact ih h.2 x hx' y hy e
structure NightM (s : Scale) (dec : Bool) (n : Night) : Prop where
  v : NightV s n
  l1 : n.opened.length ≤ 30
  l2 : n.absent.length ≤ 30
  l3 : n.fines.length ≤ 3
  nd : (n.opened.map jdE).Nodup
  fi : FinesIn s.schools n.fines
  dc : dec = true → ∀ p, ofSc s p = true → p ∈ n.absent ∨ ∃ x, x ∈ n.opened ∧ jdE x = p
theorem nightD_ok {s : Scale} (hc : chkSc s = 0) (dec : Bool) : Holds (nightD s dec) (NightM s dec) := by
  have hv := Scale.v hc
  have q1 := hv.mt
  have q2 := hv.jd
  have q3 := hv.sc
  unfold nightD
  have h0 : RInv s dec (s.matters.toNat - s.matters.toNat) 0 0 [] [] := by
    rw [Nat.sub_self]
    exact ⟨(fun x hx => by cases hx), (fun x hx => by cases hx), by simp, (fun m' a b => by omega), (fun h => absurd h (by omega)), Int.le_refl _, (fun _ p hp hb => by
      obtain ⟨h1, _⟩ := ofSc_true.1 hp
      unfold Bef at hb; omega), by simp, by simp⟩
  refine (nightM_ok hc (by omega) (by omega) s.matters.toNat [] [] (Nat.le_refl _) h0).bind fun p hp => (finesD_ok q3.1).bind fun fi hfi => (orderD_perm p.1.length).bind fun od hod => .ret ?_
  have hpm := pickE_perm hod
  have hmem : ∀ x, x ∈ pickE p.1 od ↔ x ∈ p.1 := fun x => hpm.mem_iff
  have hnd : ((pickE p.1 od).map jdE).Nodup := (hpm.map jdE).nodup_iff.2 (List.nodup_append.1 hp.nd).1
  have l1 := hp.l1
  have l2 := hp.l2
  have hl := hpm.length_eq
  refine ⟨⟨hc, by simp only; omega, fun x hx => (hp.go x ((hmem x).1 hx)).1, sameE_of_nodup hnd, by simp only; omega, fun j hj => ⟨(hp.ga j hj).1, fun x hx e => ?_⟩, fun m m0 m1 => hp.sh m m0 (by omega), ?_⟩, by simp only; omega, by simp only; omega, hfi.2, hnd, hfi.1, fun hd q hq => ?_⟩
  · exact (List.nodup_append.1 hp.nd).2.2 (jdE x) (List.mem_map.2 ⟨x, (hmem x).1 hx, rfl⟩) j hj e
  · show finesE s fi = 0
    unfold finesE
    rw [if_neg (by omega)]
    exact finesR_zero.2 hfi.1
  · rcases hp.dc hd q hq (.inl (by obtain ⟨h1, _⟩ := ofSc_true.1 hq; omega)) with k | ⟨x, k1, k2⟩
    · exact .inl k
    · exact .inr ⟨x, (hmem x).2 k1, k2⟩
theorem NightV.ok {s : Scale} {n : Night} (h : NightV s n) : n.Ok := by
  have hv := Scale.v h.c
  have hs := hv.sc
  have h1 := h.o60
  have h2 := h.a60
  refine ⟨by omega, by omega, ?_, fun x hx => ?_⟩
  · have := h.fi
    unfold finesE at this
    split at this
    · cases this
    · omega
  · have := (marked_ok (h.op x hx).m).2.1
    omega
end Go.Proofs.YtgelnjmddabgpaaGreat
namespace Go.Proofs.YtgelnjmddabgpaaGreat
set_option maxRecDepth 100000
theorem sortI_congr {a b : List Int} (h : a.Perm b) : sortI a = sortI b :=
  List.Perm.eq_of_pairwise (le := (· ≤ ·)) (fun _ _ _ _ h1 h2 => Int.le_antisymm h1 h2) (sorted_sortI a) (sorted_sortI b) ((perm_sortI a).trans (h.trans (perm_sortI b).symm))
theorem sortI_cons (u : Int) (R : List Int) : ∃ p, (∀ x, x ∈ (sortI R).take p → x < u) ∧ p ≤ (sortI R).length ∧ sortI (u :: R) = (sortI R).take p ++ u :: (sortI R).drop p := by
  have e1 : ∀ l : List Int, l.Pairwise (· ≤ ·) → ∃ p, (∀ x, x ∈ l.take p → x < u) ∧ (∀ x, x ∈ l.drop p → u ≤ x) ∧ p ≤ l.length := by
    intro l
    induction l with
    | nil => intro _; exact ⟨0, fun x hx => by simp at hx, fun x hx => by simp at hx, Nat.le_refl _⟩
    | cons a l ih =>
      intro h
      obtain ⟨h1, h2⟩ := List.pairwise_cons.1 h
      by_cases ha : a < u
      · obtain ⟨p, q1, q2, q3⟩ := ih h2
        refine ⟨p + 1, fun x hx => ?_, fun x hx => q2 x (by simpa using hx), by simp; omega⟩
        rw [List.take_succ_cons] at hx
        rcases List.mem_cons.1 hx with rfl | hx
        · exact ha
        · exact q1 x hx
      · refine ⟨0, fun x hx => by simp at hx, fun x hx => ?_, Nat.zero_le _⟩
        rw [List.drop_zero] at hx
        rcases List.mem_cons.1 hx with rfl | hx
        · omega
        · have := h1 x hx; omega
  have hs := sorted_sortI R
  obtain ⟨p, h1, h2, h3⟩ := e1 (sortI R) hs
  refine ⟨p, h1, h3, ?_⟩
  refine List.Perm.eq_of_pairwise (le := (· ≤ ·)) (fun _ _ _ _ h1 h2 => Int.le_antisymm h1 h2) (sorted_sortI _) ?_ ?_
  · have hpw : (((sortI R).take p) ++ ((sortI R).drop p)).Pairwise (· ≤ ·) := by rw [List.take_append_drop]; exact hs
    rw [List.pairwise_append] at hpw ⊢
    refine ⟨hpw.1, List.pairwise_cons.2 ⟨h2, hpw.2.1⟩, fun a ha b hb => ?_⟩
    rcases List.mem_cons.1 hb with rfl | hb
    · have := h1 a ha; omega
    · exact hpw.2.2 a ha b hb
  · refine (perm_sortI _).trans ?_
    refine List.Perm.trans ?_ List.perm_middle.symm
    rw [List.take_append_drop]
    exact (perm_sortI R).symm.cons u
theorem dropped_eq {v w : Int} {R : List Int} {d : Nat} (hw : w ≤ v) (hc : R.length + 1 ≤ R.countP (fun x => decide (v ≤ x)) + d) : sumI ((sortI (v :: R)).drop d) = sumI ((sortI (w :: R)).drop d) := by
  have key : ∀ u, u ≤ v → (sortI (u :: R)).drop d = (sortI R).drop (d - 1) := by
    intro u hu
    obtain ⟨p, h1, h2, h3⟩ := sortI_cons u R
    have hlen : (sortI R).length = R.length := (perm_sortI R).length_eq
    have hcnt : R.countP (fun x => decide (v ≤ x)) = (sortI R).countP (fun x => decide (v ≤ x)) := (perm_sortI R).symm.countP_eq _
    have h4 : (sortI R).countP (fun x => decide (v ≤ x)) ≤ (sortI R).length - p := by
      conv => lhs; rw [← List.take_append_drop p (sortI R)]
      rw [List.countP_append]
      have z : ((sortI R).take p).countP (fun x => decide (v ≤ x)) = 0 := by
        rw [List.countP_eq_zero]
        intro x hx
        have := h1 x hx
        simp; omega
      rw [z, Nat.zero_add, ← List.length_drop]
      exact List.countP_le_length
    have hp : p + 1 ≤ d := by omega
    rw [h3, List.drop_append, List.drop_eq_nil_of_le (by rw [List.length_take]; omega), List.nil_append, List.length_take, Nat.min_eq_left h2]
    obtain ⟨e, he⟩ : ∃ e, d = p + 1 + e := ⟨d - (p + 1), by omega⟩
    rw [he, show p + 1 + e - p = e + 1 by omega, List.drop_succ_cons, List.drop_drop]
    congr 1
    omega
  rw [key v (Int.le_refl _), key w hw]
/-- A night in which a school has another mark in an envelope. -/
def chgN (s : Scale) (n : Night) (at' : Nat) (x : Envl) (sc : Nat) (mark : Int) : Night := ⟨n.opened.set at' (sealedE s x.matter x.judge (x.marks.set sc mark)), n.absent, n.fines⟩
theorem findE_other {l : List Envl} {at' : Nat} {x y : Envl} (hx : l[at']? = some x) (hj : jdE y = jdE x) {j : Int × Int} (h : j ≠ jdE x) : findE (l.set at' y) j = findE l j := by
  induction l generalizing at' with
  | nil => rfl
  | cons a l ih =>
    cases at' with
    | zero =>
      simp at hx
      subst hx
      rw [List.set_cons_zero, findE_cons, findE_cons, if_neg (by rw [hj]; exact fun e => h e.symm), if_neg (fun e => h e.symm)]
    | succ k =>
      rw [List.set_cons_succ, findE_cons, findE_cons, ih (by simpa using hx)]
section
variable {s : Scale} {n : Night} {at' : Nat} {x : Envl} {sc : Nat} {mark : Int}
theorem chg_jd (hx : n.opened[at']? = some x) : (chgN s n at' x sc mark).opened.map jdE = n.opened.map jdE := by
  show (n.opened.set at' _).map jdE = _
  rw [List.map_set]
  apply List.ext_getElem?
  intro i
  by_cases e : at' = i
  · subst e
    have hlt := (List.getElem?_eq_some_iff.1 hx).1
    rw [List.getElem?_set_self (by simpa using hlt), List.getElem?_map, hx]
    rfl
  · rw [List.getElem?_set_ne e]
theorem chg_mem {y : Envl} (h : y ∈ (chgN s n at' x sc mark).opened) : y ∈ n.opened ∨ y = sealedE s x.matter x.judge (x.marks.set sc mark) := by
  exact List.mem_or_eq_of_mem_set h
structure ChgH (s : Scale) (n : Night) (at' : Nat) (x : Envl) (sc : Nat) (mark : Int) : Prop where
  nm : NightM s true n
  hx : n.opened[at']? = some x
  hs : (sc : Int) < s.schools
  lo : s.low ≤ mark
  hi : mark ≤ s.high
theorem ChgH.good (h : ChgH s n at' x sc mark) : GoodE s (sealedE s x.matter x.judge (x.marks.set sc mark)) := by
  have hg := h.nm.v.op x (List.mem_of_getElem? h.hx)
  obtain ⟨h1, h2, h3⟩ := marked_ok hg.m
  refine sealed_good h.nm.v.c h1 ⟨by rw [List.length_set]; exact h2, fun y hy => ?_⟩
  rcases List.mem_or_eq_of_mem_set hy with hy | rfl
  · exact h3 y hy
  · exact ⟨h.lo, h.hi⟩
theorem ChgH.v (h : ChgH s n at' x sc mark) : NightV s (chgN s n at' x sc mark) := by
  have V := h.nm.v
  have hnd : ((chgN s n at' x sc mark).opened.map jdE).Nodup := by rw [chg_jd h.hx]; exact h.nm.nd
  have hxm := List.mem_of_getElem? h.hx
  refine ⟨V.c, by show (n.opened.set at' _).length ≤ 60; rw [List.length_set]; exact V.o60, fun y hy => ?_, sameE_of_nodup hnd, V.a60, fun j hj => ⟨(V.ab j hj).1, fun y hy => ?_⟩, V.sh, V.fi⟩
  · rcases chg_mem hy with hy | rfl
    · exact V.op y hy
    · exact h.good
  · rcases chg_mem hy with hy | rfl
    · exact (V.ab j hj).2 y hy
    · exact (V.ab j hj).2 x hxm
theorem ChgH.marks_len (h : ChgH s n at' x sc mark) : sc < x.marks.length := by
  have := (marked_ok (h.nm.v.op x (List.mem_of_getElem? h.hx)).m).2.1
  have := h.hs
  omega
theorem ChgH.find (h : ChgH s n at' x sc mark) (j : Int × Int) : findE (chgN s n at' x sc mark).opened j = if j = jdE x then some (x.marks.set sc mark) else findE n.opened j := by
  by_cases e : j = jdE x
  · subst e
    rw [if_pos rfl]
    have hlt := (List.getElem?_eq_some_iff.1 h.hx).1
    have hm : sealedE s x.matter x.judge (x.marks.set sc mark) ∈ (chgN s n at' x sc mark).opened := by
      show _ ∈ n.opened.set at' _
      exact List.mem_set hlt _
    exact findE_mem h.v.cs hm
  · rw [if_neg e]
    show findE (n.opened.set at' (sealedE s x.matter x.judge (x.marks.set sc mark))) j = _
    exact findE_other (y := sealedE s x.matter x.judge (x.marks.set sc mark)) h.hx rfl e
theorem ChgH.abs (h : ChgH s n at' x sc mark) (j : Int × Int) : absentK (knownK s n) j = absentK (knownK s (chgN s n at' x sc mark)) j := by
  have hv := Scale.v h.nm.v.c
  rw [Bool.eq_iff_iff, absentK_iff, absentK_iff, h.nm.v.get, h.v.get, kOf_nil hv h.nm.v.op (fun j hj => (h.nm.v.ab j hj).2), kOf_nil hv h.v.op (fun j hj => (h.v.ab j hj).2)]
  exact Iff.rfl
theorem ChgH.old (h : ChgH s n at' x sc mark) (sc' u : Int) : mkAt (knownK s n) sc' x.matter u x.judge = (x.marks[sc'.toNat]?).getD 0 := by
  have hv := Scale.v h.nm.v.c
  have hxm := List.mem_of_getElem? h.hx
  have hf : findE n.opened (x.matter, x.judge) = some x.marks := findE_mem h.nm.v.cs hxm
  unfold mkAt
  rw [h.nm.v.get, kOf, hf]
  have := (h.nm.v.op x hxm).ne hv
  cases hm : x.marks with
  | nil => exact absurd hm this
  | cons a l => rfl
theorem ChgH.mka (h : ChgH s n at' x sc mark) (sc' m u q : Int) : mkAt (knownK s (chgN s n at' x sc mark)) sc' m u q = if (m, q) = jdE x ∧ sc'.toNat = sc then mark else mkAt (knownK s n) sc' m u q := by
  have hv := Scale.v h.nm.v.c
  have hml := h.marks_len
  by_cases e : (m, q) = jdE x
  · have e2 : mkAt (knownK s (chgN s n at' x sc mark)) sc' m u q = ((x.marks.set sc mark)[sc'.toNat]?).getD 0 := by
      unfold mkAt
      rw [h.v.get, kOf, h.find, if_pos e]
      cases hm : x.marks.set sc mark with
      | nil => have := congrArg List.length hm; rw [List.length_set, List.length_nil] at this; omega
      | cons a l => rfl
    rw [e2]
    by_cases e3 : sc'.toNat = sc
    · rw [if_pos ⟨e, e3⟩, e3, List.getElem?_set_self hml]; rfl
    · rw [if_neg (fun k => e3 k.2), List.getElem?_set_ne (fun k => e3 k.symm)]
      have : m = x.matter ∧ q = x.judge := by unfold jdE at e; injection e with a b; exact ⟨a, b⟩
      obtain ⟨rfl, rfl⟩ := this
      exact (h.old sc' u).symm
  · rw [if_neg (fun k => e k.1)]
    unfold mkAt
    rw [h.v.get, h.nm.v.get, kOf, kOf, h.find, if_neg e]
    rfl
theorem ChgH.other (h : ChgH s n at' x sc mark) {o : Int} (ho : 0 ≤ o) (hne : o ≠ sc) (u : Int) : standK s (knownK s (chgN s n at' x sc mark)) (chgN s n at' x sc mark) o u = standK s (knownK s n) n o u := by
  have e : pointsL s (knownK s (chgN s n at' x sc mark)) o u = pointsL s (knownK s n) o u := by
    unfold pointsL
    refine List.map_congr_left fun m _ => Int.le_antisymm ?_ ?_
    · exact points_le (fun q => (h.abs _).symm) fun q _ _ => by rw [h.mka, if_neg (by omega)]; exact Int.le_refl _
    · exact points_le (fun q => h.abs _) fun q _ _ => by rw [h.mka, if_neg (by omega)]; exact Int.le_refl _
  unfold standK
  rw [e]
  rfl
theorem place_mono2 {k k' : Kn} {g g' : Night} {c own oth : Int} (h1 : Nw s.order (standK s k' g' c own) (standK s k g c own)) (h2 : ∀ o, 0 ≤ o ∧ o < s.schools → o ≠ c → standK s k' g' o oth = standK s k g o oth) : placeK s k' g' c own oth ≤ placeK s k g c own oth := by
  unfold placeK
  simp only [← List.countP_eq_length_filter]
  have : List.countP (fun i => decide (i ≠ c) && decide (cmpSt s.order (standK s k' g' i oth) (standK s k' g' c own) < 0)) (toI s.schools) ≤ List.countP (fun i => decide (i ≠ c) && decide (cmpSt s.order (standK s k g i oth) (standK s k g c own) < 0)) (toI s.schools) := by
    refine List.countP_mono_left fun i hi hh => ?_
    simp only [Bool.and_eq_true, decide_eq_true_eq] at hh ⊢
    refine ⟨hh.1, ?_⟩
    have := hh.2
    rw [h2 i (mem_toI.1 hi) hh.1] at this
    exact Ahd.nw this h1
  omega
theorem place_mono3 {k k' : Kn} {g g' : Night} {c own oth : Int} (h1 : Nw s.order (standK s k g c own) (standK s k' g' c own)) (h2 : ∀ o, 0 ≤ o ∧ o < s.schools → o ≠ c → standK s k' g' o oth = standK s k g o oth) : placeK s k g c own oth ≤ placeK s k' g' c own oth :=
  place_mono2 h1 fun o ho hne => (h2 o ho hne).symm
/-- A greater mark: no fewer points, no worse place. -/
theorem ChgH.more (h : ChgH s n at' x sc mark) (hm : (x.marks[sc]?).getD 0 ≤ mark) (u : Int) :
    (standK s (knownK s n) n sc u).total ≤ (standK s (knownK s (chgN s n at' x sc mark)) (chgN s n at' x sc mark) sc u).total ∧ placeK s (knownK s (chgN s n at' x sc mark)) (chgN s n at' x sc mark) sc u u ≤ placeK s (knownK s n) n sc u u := by
  have hM : ∀ m q : Int, mkAt (knownK s n) sc m u q ≤ mkAt (knownK s (chgN s n at' x sc mark)) sc m u q := fun m q => by
    rw [h.mka]
    split
    · rename_i e
      have : m = x.matter ∧ q = x.judge := by have := e.1; unfold jdE at this; injection this with a b; exact ⟨a, b⟩
      obtain ⟨rfl, rfl⟩ := this
      rw [h.old, Int.toNat_natCast]
      exact hm
    · exact Int.le_refl _
  refine ⟨stand_total h.abs (fun m q _ => hM m q) rfl, place_mono2 (stand_nw h.abs (fun m q _ => hM m q) rfl) fun o ho hne => h.other ho.1 hne u⟩
theorem ChgH.less (h : ChgH s n at' x sc mark) (hm : mark ≤ (x.marks[sc]?).getD 0) (u : Int) :
    (standK s (knownK s (chgN s n at' x sc mark)) (chgN s n at' x sc mark) sc u).total ≤ (standK s (knownK s n) n sc u).total ∧ placeK s (knownK s n) n sc u u ≤ placeK s (knownK s (chgN s n at' x sc mark)) (chgN s n at' x sc mark) sc u u := by
  have hM : ∀ m q : Int, mkAt (knownK s (chgN s n at' x sc mark)) sc m u q ≤ mkAt (knownK s n) sc m u q := fun m q => by
    rw [h.mka]
    split
    · rename_i e
      have : m = x.matter ∧ q = x.judge := by have := e.1; unfold jdE at this; injection this with a b; exact ⟨a, b⟩
      obtain ⟨rfl, rfl⟩ := this
      rw [h.old, Int.toNat_natCast]
      exact hm
    · exact Int.le_refl _
  refine ⟨stand_total (fun j => (h.abs j).symm) (fun m q _ => hM m q) rfl, place_mono3 (stand_nw (fun j => (h.abs j).symm) (fun m q _ => hM m q) rfl) fun o ho hne => h.other ho.1 hne u⟩
end
end Go.Proofs.YtgelnjmddabgpaaGreat
namespace Go.Proofs.YtgelnjmddabgpaaGreat
open Go Go.RowKit
set_option maxRecDepth 100000
theorem row4_set {a b c d : PV} : ∀ (l : List PV) (k : Nat), (∀ q ∈ l, q.cells.length = 4) → k < l.length → ((((rowC l).set (k * 4) a).set (k * 4 + 1) b).set (k * 4 + 1 + 1) c).set (k * 4 + 1 + 1 + 1) d = rowC (l.set k (.agg [a, b, c, d])) := by
  intro l
  induction l with
  | nil => intro k _ h; simp at h
  | cons q l ih =>
    intro k hl hk
    have hq := hl q (by simp)
    have e : rowC (q :: l) = q.cells ++ rowC l := by simp [rowC]
    obtain ⟨w, x, y, z, hw⟩ : ∃ w x y z, q.cells = [w, x, y, z] := by
      match hc : q.cells, hq with
      | [w, x, y, z], _ => exact ⟨w, x, y, z, rfl⟩
    cases k with
    | zero =>
      rw [e, hw]
      simp [rowC]
    | succ k =>
      have := ih k (fun q' hq' => hl q' (by simp [hq'])) (by simpa using hk)
      rw [e, hw, List.set_cons_succ]
      have e2 : rowC (q :: l.set k (.agg [a, b, c, d])) = [w, x, y, z] ++ rowC (l.set k (.agg [a, b, c, d])) := by simp [rowC, hw]
      rw [e2, ← this, show (k + 1) * 4 = k * 4 + 4 by omega]
      simp [List.set_append, show ∀ j, k * 4 + 4 + j = (k * 4 + j) + 4 by omega]
theorem rowW_set {m at' : Nat} {xs : List Envl} {y : Envl} (h : at' < xs.length) : (rowW m at' xs xs.length).set at' (evPV y) = (xs.set at' y).map evPV := by
  obtain ⟨h1, h2⟩ := rowW_len m at' xs xs.length (Nat.le_refl _)
  apply List.ext_getElem?
  intro k
  by_cases hk : k < xs.length
  · by_cases e : at' = k
    · subst e
      rw [List.getElem?_set_self (by omega), List.getElem?_map, List.getElem?_set_self hk]
      rfl
    · rw [List.getElem?_set_ne e, List.getElem?_map, List.getElem?_set_ne e, rowW_get m at' xs xs.length (Nat.le_refl _) k xs[k] hk (by simp), List.getElem?_eq_getElem hk]
      simp only [Option.map_some, ecW, mkW, if_neg (show ¬ k = at' from fun e' => e e'.symm)]
      rfl
  · rw [List.getElem?_eq_none (by rw [List.length_set]; omega), List.getElem?_eq_none (by simp; omega)]
theorem set2b {α : Type} {L : List α} {a b c : α} : (L ++ [a, b]).set (L.length + 1) c = L ++ [a, c] := by simp [List.set_append]
theorem row4_ld : ∀ {l : List PV} {k : Nat} {q : PV}, (∀ q ∈ l, q.cells.length = 4) → l[k]? = some q → ((rowC l).drop (k * 4)).take 4 = q.cells := by
  intro l
  induction l with
  | nil => intro k q _ h; simp at h
  | cons a l ih =>
    intro k q hl h
    have ha := hl a (by simp)
    have e : rowC (a :: l) = a.cells ++ rowC l := by simp [rowC]
    rw [e]
    cases k with
    | zero => simp at h; subst h; rw [Nat.zero_mul, List.drop_zero, List.take_left' ha]
    | succ k =>
      rw [List.drop_append, List.drop_eq_nil_of_le (by omega), List.nil_append, ha, show (k + 1) * 4 - 4 = k * 4 by omega]
      exact ih (fun q' hq' => hl q' (by simp [hq'])) (by simpa using h)
set_option maxHeartbeats 8000000 in
theorem with_pc (Y : YEnv) (σ : Sg) (s : Scale) (n : Night) (hs : s.Ok) (hn : n.Ok) (at' : Nat) (x : Envl) (hx : n.opened[at']? = some x) (hne : ∀ x, x ∈ n.opened → x.marks ≠ []) (sc : Nat) (hsc : sc < x.marks.length) (mark : Int) :
    PC Tryz.prog Y 23 [scPV s, ngPV n, I at', I sc, I mark] σ (ngPV (chgN s n at' x sc mark)) (σ) := by
  refine PC_of_W Tryz.func23 rfl (by kernel_rfl) Tryz.ntmps23 (by simp) fun hcl hca => ?_
  have hat := (List.getElem?_eq_some_iff.1 hx).1
  have hm := hn.hm x (List.mem_of_getElem? hx)
  obtain ⟨hw1, hw2⟩ := rowW_len (σ.store.length + 3 + 2) at' n.opened n.opened.length (Nat.le_refl _)
  have hwg := rowW_get (σ.store.length + 3 + 2) at' n.opened n.opened.length (Nat.le_refl _) at' x hat hx
  have hwl := row4_ld hw2 hwg
  have hwn := rowC_length hw2
  rw [hw1] at hwn
  have hLn := layW_len (σ.store.length + 3 + 2) at' n.opened n.opened.length
  have hLr := layW_row (σ.store.length + 3 + 2) at' n.opened (show 0 < n.opened.length by omega)
  rw [show 3 * n.opened.length - 1 = 3 * (n.opened.length - 1) + 2 by omega] at hLr
  have hLs := layW_slot (σ.store.length + 3 + 2) at' n.opened hat hx
  simp only [slW, if_true] at hLs
  have hwp := fun (a b c d : PV) => row4_set (a := a) (b := b) (c := c) (d := d) (rowW (σ.store.length + 3 + 2) at' n.opened n.opened.length) at' hw2 (by omega)
  have hws := rowW_set (m := σ.store.length + 3 + 2) (xs := n.opened) (y := sealedE s x.matter x.judge (x.marks.set sc mark)) hat
  have hR : σ.store.length + 3 + 2 + (3 * (n.opened.length - 1) + 2) = σ.store.length + (3 * (n.opened.length - 1) + 2 + 1 + 1 + 1 + 1 + 1) := by omega
  have hS : σ.store.length + 3 + 2 + (3 * at' + 1) = σ.store.length + (3 * at' + 1 + 1 + 1 + 1 + 1 + 1) := by omega
  have hI1 : (sc : Int) < (x.marks.length : Int) := by omega
  have hI4 : sc + 1 ≤ x.marks.length := by omega
  have hI2 : (at' : Int) < (n.opened.length : Int) := by omega
  have hI3 : at' * 4 + 4 ≤ n.opened.length * 4 := by omega
  refine W_seq fun kz1 kq1 => ?_
  refine W_region [2, 3, 4, 5, 6, 10] fun R hR => ?_   -- r0
  simp only [go_sem]
  refine hR _ _ (kq1 _ _ ?_); clear hR R; try clear kq1 kz1
  try simp only [go_sem]
  refine W_seq fun kz2 kq2 => ?_
  refine W_region [2, 3, 4, 5, 10, 11] fun R hR => ?_   -- r1
  simp only [go_sem, get1a, set1a]
  refine GCall_of (OwnNightW_pc Y _ n hn at' hat hne) ?_   -- t14
  simp only [go_sem, get1a, set1a]
  refine hR _ _ (kq2 _ _ ?_); clear hR R; try clear kq2 kz2
  try simp only [go_sem]
  refine W_seq fun kz3 kq3 => ?_
  obtain ⟨L, hL⟩ : ∃ z, layW (σ.store.length + 3 + 2) at' n.opened n.opened.length = z := ⟨_, rfl⟩
  rw [hL] at hLn hLr hLs
  simp only [hL, hR]
  have hgr := fun (T : List (Option (List PV))) => (List.getElem?_append_left (l₂ := T) (by omega)).trans hLr
  have hgs := fun (T : List (Option (List PV))) => (List.getElem?_append_left (l₂ := T) (by omega)).trans hLs
  have hss := fun (T : List (Option (List PV))) (v : Option (List PV)) => List.set_append_left (s := L) (t := T) (3 * at' + 1) v (by omega)
  skip
  refine W_region [2, 3, 4, 5, 10, 11, 12] fun R hR => ?_   -- r2
  simp only [go_sem, get1a, set1a, get2a, get2b, set2b, List.append_assoc, List.cons_append, List.nil_append, hR, hgr, hI2, iaM_nat (Int.ofNat_lt.1 hI2), hwn, hI3, hwl, ecW, mkW]
  refine hR _ _ (kq3 _ _ ?_); clear hR R; try clear kq3 kz3
  try simp only [go_sem]
  refine W_seq fun kz4 kq4 => ?_
  refine W_region [2, 5, 10, 11, 12] fun R hR => ?_   -- r3
  simp only [go_sem, get2b, set2b, hS, hgs, hss, hI1, iaM_nat (Int.ofNat_lt.1 hI1), Nat.mul_one, Nat.zero_add, List.length_map, hI4]
  refine hR _ _ (kq4 _ _ ?_); clear hR R; try clear kq4 kz4
  try simp only [go_sem]
  refine W_seq fun kz5 kq5 => ?_
  obtain ⟨L1, hL1⟩ : ∃ z, L.set (3 * at' + 1) (some ((x.marks.set sc mark).map I)) = z := ⟨_, rfl⟩
  have hl1 : L1.length = L.length := by rw [← hL1, List.length_set]
  simp only [hL1, ← hl1]
  have hgr1 := fun (T : List (Option (List PV))) => show (L1 ++ T)[3 * (n.opened.length - 1) + 2]? = some (some (rowC (rowW (σ.store.length + 3 + 2) at' n.opened n.opened.length))) by
    rw [List.getElem?_append_left (by omega), ← hL1, List.getElem?_set_ne (by omega)]; exact hLr
  have hgs1 := fun (T : List (Option (List PV))) => show (L1 ++ T)[3 * at' + 1]? = some (some ((x.marks.set sc mark).map I)) by
    rw [List.getElem?_append_left (by omega), ← hL1, List.getElem?_set_self (by omega)]
  have hss1 := fun (T : List (Option (List PV))) (v : Option (List PV)) => List.set_append_left (s := L1) (t := T) (3 * at' + 1) v (by omega)
  refine W_weak (Weak.freezeX (j := L1.length + 1 + 1 + 1 + 1 + 1 + 1) (k := 3 * at' + 1 + 1 + 1 + 1 + 1 + 1) (off := 2) (len := x.marks.length) (es := 1) (ccs := [I x.matter, I x.judge, .gsl (σ.store.length + (3 * at' + 1 + 1 + 1 + 1 + 1 + 1)) x.marks.length 1, I x.sl]) (rest := []) (m := (x.marks.set sc mark).map I)
    (by omega) (by simp only [List.getElem?_cons_succ, get2b]) rfl (by simp only [List.getElem?_cons_succ, hgs1, List.append_nil, rowC_ints]) (by simp) (fun q hq => by obtain ⟨y, _, rfl⟩ := List.mem_map.1 hq; rfl)) ?_
  simp only [List.set_cons_succ, List.set_cons_zero, hss1]
  obtain ⟨L2, hL2⟩ : ∃ z, L1.set (3 * at' + 1) none = z := ⟨_, rfl⟩
  have hl2 : L2.length = L1.length := by rw [← hL2, List.length_set]
  simp only [hL2, ← hl2, set2b]
  have hgr2 := fun (T : List (Option (List PV))) => show (L2 ++ T)[3 * (n.opened.length - 1) + 2]? = some (some (rowC (rowW (σ.store.length + 3 + 2) at' n.opened n.opened.length))) by
    rw [List.getElem?_append_left (by omega), ← hL2, List.getElem?_set_ne (by omega), ← hL1, List.getElem?_set_ne (by omega)]; exact hLr
  have hsr2 := fun (T : List (Option (List PV))) (v : Option (List PV)) => List.set_append_left (s := L2) (t := T) (3 * (n.opened.length - 1) + 2) v (by omega)
  obtain ⟨e, he⟩ : ∃ z, sealedE s x.matter x.judge (x.marks.set sc mark) = z := ⟨_, rfl⟩
  rw [he] at hws
  have hws2 : rowC ((rowW (σ.store.length + 3 + 2) at' n.opened n.opened.length).set at' (.agg [I e.matter, I e.judge, ints e.marks, I e.sl])) = rowC ((n.opened.set at' e).map evPV) := by rw [← hws]; rfl
  refine W_draw [10, 11] [0, 1, 2, 3, 4, 5, 6, 7, 8, 9, 10, 11, 12] [(0, 12), (1, 12), (2, 12)] [[], [0], [], [], [], [4], [], [6], [], [8], [3, 4, 5, 6, 7, 8, 9], [0, 1, 2, 3, 4, 5, 6, 7, 8, 9, 10], [0, 1, 2, 3, 4, 5, 6, 7, 8, 9, 10, 11]] mixed (by kernel_rfl) fun R hR => ?_   -- r4
  simp only [go_sem, get2a, get2b, hgr2, hsr2, hI2, iaM_nat (Int.ofNat_lt.1 hI2), hwn, hI3, Nat.zero_add, hwp, hws2, List.length_set]
  refine GCall_of (PC.val (v' := evPV e) (Sealed_pc Y _ s x.matter x.judge (x.marks.set sc mark) (by rw [List.length_set]; exact hm) hs) (by rw [he])) ?_   -- t35
  simp only [go_sem, get2a, get2b, hgr2, hsr2, hI2, iaM_nat (Int.ofNat_lt.1 hI2), hwn, hI3, Nat.zero_add, hwp, hws2, List.length_set]
  try refine And.intro (by repeat' (first | refine And.intro ?_ ?_ | exact GOr_right (fun _ => by simp only [go_sem, get2a, get2b, hgr2, hsr2, hI2, iaM_nat (Int.ofNat_lt.1 hI2), hwn, hI3, Nat.zero_add, hwp, hws2, List.length_set]))) ?_
  refine hR _ _ (kq5 _ _ ?_); clear hR R; try clear kq5 kz5
  try simp only [go_sem]
  refine W_seq fun kz6 kq6 => ?_
  obtain ⟨L3, hL3⟩ : ∃ z, L2.set (3 * (n.opened.length - 1) + 2) (some (rowC ((n.opened.set at' e).map evPV))) = z := ⟨_, rfl⟩
  have hl3 : L3.length = L2.length := by rw [← hL3, List.length_set]
  simp only [hL3, ← hl3]
  have hgr3 := fun (T : List (Option (List PV))) => show (L3 ++ T)[3 * (n.opened.length - 1) + 2]? = some (some (rowC ((n.opened.set at' e).map evPV))) by
    rw [List.getElem?_append_left (by rw [← hL3, List.length_set]; omega), ← hL3, List.getElem?_set_self (by omega)]
  refine W_region [10] fun R hR => ?_   -- r5
  simp only [go_sem, get2a, get2b]
  refine hR _ _ (kq6 _ _ ?_); clear hR R; try clear kq6 kz6
  try simp only [go_sem]
  refine W_weak (Weak.freezeX (j := 2) (k := 3 * (n.opened.length - 1) + 2 + 1 + 1 + 1 + 1 + 1) (off := 0) (len := n.opened.length) (es := 4) (ccs := [.gsl (σ.store.length + (3 * (n.opened.length - 1) + 2 + 1 + 1 + 1 + 1 + 1)) n.opened.length 4, .isl (n.absent.map stPV) (.tok σ.rooms.length n.absent.length 2), .isl (n.fines.map stPV) (.tok (σ.rooms.length + 1) n.fines.length 2)]) (rest := []) (m := (n.opened.set at' e).map evPV)
    (by omega) rfl rfl (by simp only [List.getElem?_cons_succ, hgr3, List.append_nil]) (by simp) (fun q hq => by obtain ⟨y, _, rfl⟩ := List.mem_map.1 hq; rfl)) ?_
  simp only [go_sem]
  refine W_ret ?_
  simp only [go_sem]
  refine ⟨.inr (by trivial), ?_⟩
  refine Fin_same hcl (by show resPV Tryz.prog _ _ [.cell 10 29] = some _; simp only [resPV, go_sem]; rfl) (Wk.ro (by simp only [go_sem]) ?_)
  try simp only [go_sem]
  all_goals
    first | (simp only [chgN, he, go_sem]; done) | (simp only [chgN, he, go_sem]; rfl)
end Go.Proofs.YtgelnjmddabgpaaGreat
namespace Go.Proofs.YtgelnjmddabgpaaGreat
set_option maxRecDepth 100000
theorem cons_eraseIdx {α : Type} : ∀ {l : List α} {i : Nat} {x : α}, l[i]? = some x → (x :: l.eraseIdx i).Perm l := by
  intro l
  induction l with
  | nil => intro i x h; simp at h
  | cons a l ih =>
    intro i x h
    cases i with
    | zero => simp at h; subst h; exact .refl _
    | succ i =>
      rw [List.eraseIdx_cons_succ]
      exact (List.Perm.swap a x _).trans ((ih (by simpa using h)).cons a)
theorem nodup_perm : ∀ (l l' : List Int), l.Nodup → (∀ x, x ∈ l → x ∈ l') → l'.length ≤ l.length → l.Perm l' := by
  intro l
  induction l with
  | nil =>
    intro l' _ _ h
    have : l' = [] := List.eq_nil_of_length_eq_zero (by simpa using h)
    rw [this]
  | cons a l ih =>
    intro l' hn hs hl
    obtain ⟨h1, h2⟩ := List.nodup_cons.1 hn
    have ha := hs a (by simp)
    have hp := List.perm_cons_erase ha
    refine List.Perm.trans (List.Perm.cons a (ih (l'.erase a) h2 (fun x hx => ?_) ?_)) hp.symm
    · have hne : x ≠ a := fun e => h1 (e ▸ hx)
      exact (List.mem_erase_of_ne hne).2 (hs x (by simp [hx]))
    · rw [List.length_erase_of_mem ha]
      simp only [List.length_cons] at hl
      omega
def mkF (sc : Nat) (y : Envl) : Int := (y.marks[sc]?).getD 0
def inM (m : Int) (y : Envl) : Bool := decide (y.matter = m)
theorem panel_perm {s : Scale} {n : Night} (V : NightV s n) (nd : (n.opened.map jdE).Nodup) {m : Int} {J : Nat} (hJ : s.judges = J) (hE : (n.opened.filter (inM m)).length = J) (sc : Nat) (u : Int) : (panelM s (knownK s n) sc m u).Perm ((n.opened.filter (inM m)).map (mkF sc)) := by
  have hv := Scale.v V.c
  have hme : ∀ y, y ∈ n.opened.filter (inM m) → y ∈ n.opened ∧ y.matter = m := fun y hy => by
    obtain ⟨h1, h2⟩ := List.mem_filter.1 hy
    exact ⟨h1, by simpa [inM] using h2⟩
  have hnd : ((n.opened.filter (inM m)).map (·.judge)).Nodup := by
    have h1 : ((n.opened.filter (inM m)).map jdE).Nodup := nd.sublist (List.filter_sublist.map _)
    rw [List.nodup_iff_pairwise_ne, List.pairwise_map] at h1 ⊢
    refine List.Pairwise.imp_of_mem (fun {a b} ha hb hne e => hne ?_) h1
    unfold jdE
    rw [(hme a ha).2, (hme b hb).2, e]
  have hperm : ((n.opened.filter (inM m)).map (·.judge)).Perm (toI s.judges) := by
    refine nodup_perm _ _ hnd (fun q hq => ?_) ?_
    · obtain ⟨y, hy, rfl⟩ := List.mem_map.1 hq
      have := (marked_ok (V.op y (hme y hy).1).m).1
      rw [ofSc_true] at this
      exact mem_toI.2 (by simp only [jdE] at this; omega)
    · rw [List.length_map, hE, toI, List.length_map, List.length_range, hJ, Int.toNat_natCast]
      exact Nat.le_refl _
  have hab : ∀ q, q ∈ toI s.judges → absentK (knownK s n) (m, q) = false := fun q hq => by
    obtain ⟨y, hy, e⟩ := List.mem_map.1 (hperm.mem_iff.2 hq)
    cases ha : absentK (knownK s n) (m, q) with
    | false => rfl
    | true =>
      rw [absentK_iff, V.get, kOf_nil hv V.op (fun j hj => (V.ab j hj).2)] at ha
      exact absurd (by unfold jdE; rw [(hme y hy).2, e]) ((V.ab _ ha).2 y (hme y hy).1)
  have e1 : panelM s (knownK s n) sc m u = (toI s.judges).map (fun q => mkAt (knownK s n) sc m u q) := by
    unfold panelM
    refine List.map_congr_left fun q hq => ?_
    rw [hab q hq]
    rfl
  rw [e1]
  refine (hperm.symm.map _).trans ?_
  rw [List.map_map]
  refine List.Perm.of_eq (List.map_congr_left fun y hy => ?_)
  have hf : findE n.opened (m, y.judge) = some y.marks := by
    have := findE_mem V.cs (hme y hy).1
    unfold jdE at this
    rw [(hme y hy).2] at this
    exact this
  show mkAt (knownK s n) sc m u y.judge = _
  unfold mkAt
  rw [V.get, kOf, hf]
  have hne := (V.op y (hme y hy).1).ne hv
  unfold mkF
  cases hm : y.marks with
  | nil => exact absurd hm hne
  | cons a l => rw [Int.toNat_natCast]
section
variable {s : Scale} {n : Night} {at' : Nat} {x : Envl} {sc : Nat} {mark : Int}
/-- How many others are not less. -/
def leP (m v : Int) (sc : Nat) (y : Envl) : Bool := inM m y && decide (v ≤ mkF sc y)
def lesC (l : List Envl) (a : Nat) (m v : Int) (sc i : Nat) : Nat := ((l.take i).eraseIdx a).countP (leP m v sc)
theorem lesC_succ {l : List Envl} {a : Nat} {m v : Int} {sc i : Nat} {y : Envl} (h : l[i]? = some y) : lesC l a m v sc (i + 1) = lesC l a m v sc i + (if i ≠ a ∧ leP m v sc y = true then 1 else 0) := by
  have hi := (List.getElem?_eq_some_iff.1 h).1
  have hl : (l.take i).length = i := by rw [List.length_take]; omega
  unfold lesC
  rw [List.take_add_one, h]
  simp only [Option.toList_some]
  by_cases e : a < i
  · rw [List.eraseIdx_append_of_lt_length (by omega), List.countP_append]
    congr 1
    simp [show i ≠ a by omega, List.countP_cons]
  · have e3 : (l.take i).eraseIdx a = l.take i := List.eraseIdx_of_length_le (by omega)
    rw [List.eraseIdx_append_of_length_le (by omega), hl, List.countP_append, e3]
    congr 1
    by_cases e2 : a = i
    · subst e2; simp
    · obtain ⟨k, hk⟩ : ∃ k, a - i = k + 1 := ⟨a - i - 1, by omega⟩
      rw [hk]
      simp [show i ≠ a by omega, List.countP_cons]
theorem lesC_le (l : List Envl) (a : Nat) (m v : Int) (sc i : Nat) : lesC l a m v sc i ≤ i := by
  unfold lesC
  refine Nat.le_trans List.countP_le_length (Nat.le_trans (List.length_eraseIdx_le ..) ?_)
  rw [List.length_take]; omega
def othC (l : List Envl) (m : Int) (i : Nat) : Nat := (l.take i).countP (inM m)
theorem othC_succ {l : List Envl} {m : Int} {i : Nat} {y : Envl} (h : l[i]? = some y) : othC l m (i + 1) = othC l m i + (if y.matter = m then 1 else 0) := by
  unfold othC
  rw [List.take_add_one, h, List.countP_append]
  simp [inM, List.countP_cons]
theorem othC_le (l : List Envl) (m : Int) (i : Nat) : othC l m i ≤ i := by
  unfold othC
  refine Nat.le_trans List.countP_le_length ?_
  rw [List.length_take]; omega
theorem ChgH.dropped (h : ChgH s n at' x sc mark) (hm : mark ≤ mkF sc x) (ho : (othC n.opened x.matter n.opened.length : Int) = s.judges) (hl : s.judges - s.drop ≤ lesC n.opened at' x.matter (mkF sc x) sc n.opened.length) (u : Int) :
    pointsK s (knownK s (chgN s n at' x sc mark)) sc x.matter u = pointsK s (knownK s n) sc x.matter u := by
  have hv := Scale.v h.nm.v.c
  obtain ⟨hlt, hxx⟩ := List.getElem?_eq_some_iff.1 h.hx
  obtain ⟨J, hJ⟩ : ∃ J : Nat, s.judges = J := ⟨_, ho.symm⟩
  obtain ⟨R0, hR⟩ : ∃ z, n.opened.eraseIdx at' = z := ⟨_, rfl⟩
  have p1 : (x :: R0).Perm n.opened := by
    rw [← hR]; exact cons_eraseIdx h.hx
  have p2 : (sealedE s x.matter x.judge (x.marks.set sc mark) :: R0).Perm (chgN s n at' x sc mark).opened := by
    have hlt2 : at' < (n.opened.set at' (sealedE s x.matter x.judge (x.marks.set sc mark))).length := by rw [List.length_set]; exact hlt
    have := cons_eraseIdx (l := n.opened.set at' (sealedE s x.matter x.judge (x.marks.set sc mark))) (i := at') (x := sealedE s x.matter x.judge (x.marks.set sc mark)) (List.getElem?_set_self hlt)
    rw [List.eraseIdx_set_eq, hR] at this
    exact this
  have hE1 : (n.opened.filter (inM x.matter)).length = J := by
    rw [← List.countP_eq_length_filter]
    unfold othC at ho
    rw [List.take_length] at ho
    omega
  have f1 : (n.opened.filter (inM x.matter)).Perm (x :: R0.filter (inM x.matter)) := by
    refine (p1.filter (inM x.matter)).symm.trans (List.Perm.of_eq ?_)
    rw [List.filter_cons_of_pos (by simp [inM])]
  have f2 : ((chgN s n at' x sc mark).opened.filter (inM x.matter)).Perm (sealedE s x.matter x.judge (x.marks.set sc mark) :: R0.filter (inM x.matter)) := by
    refine (p2.filter (inM x.matter)).symm.trans (List.Perm.of_eq ?_)
    rw [List.filter_cons_of_pos (by simp [inM, sealedE])]
  have hlen : (R0.filter (inM x.matter)).length + 1 = J := by rw [← hE1, f1.length_eq]; rfl
  have hE2 : ((chgN s n at' x sc mark).opened.filter (inM x.matter)).length = J := by rw [f2.length_eq]; exact hlen
  have hnd2 : ((chgN s n at' x sc mark).opened.map jdE).Nodup := by rw [chg_jd h.hx]; exact h.nm.nd
  have g1 := (panel_perm h.nm.v h.nm.nd hJ hE1 sc u).trans (f1.map (mkF sc))
  have g2 := (panel_perm h.v hnd2 hJ hE2 sc u).trans (f2.map (mkF sc))
  rw [List.map_cons] at g1 g2
  have hmk : mkF sc (sealedE s x.matter x.judge (x.marks.set sc mark)) = mark := by
    show ((x.marks.set sc mark)[sc]?).getD 0 = mark
    rw [List.getElem?_set_self h.marks_len]
    rfl
  rw [hmk] at g2
  have hcnt : ((R0.filter (inM x.matter)).map (mkF sc)).countP (fun z => decide (mkF sc x ≤ z)) = lesC n.opened at' x.matter (mkF sc x) sc n.opened.length := by
    unfold lesC
    rw [List.take_length, hR, List.countP_map, List.countP_filter]
    refine List.countP_congr fun y _ => ?_
    simp only [leP, Function.comp, Bool.and_eq_true, and_comm]
  have hdr := hv.dr
  unfold pointsK
  rw [sortI_congr g1, sortI_congr g2]
  refine (dropped_eq hm ?_).symm
  rw [hcnt, List.length_map, hlen]
  omega
end
end Go.Proofs.YtgelnjmddabgpaaGreat
namespace Go.Proofs.YtgelnjmddabgpaaGreat
open Go Go.RowKit
set_option maxRecDepth 100000
def exTab : List Stand := [⟨0, 385, [195, 190]⟩, ⟨2, 365, [175, 195]⟩, ⟨1, 365, [195, 170]⟩]
def exTot : List (Int × Int) := [(340, 385), (355, 390), (345, 370)]
set_option maxHeartbeats 4000000 in
theorem awake_pc (Y : YEnv) (σ : Sg)  :
    PC Tryz.prog Y 10 [] σ (.bool true) (σ) := by
  refine PC_of_W Tryz.func10 rfl (by kernel_rfl) Tryz.ntmps10 (by simp) fun hcl hca => ?_
  refine W_seq fun kz1 kq1 => ?_
  refine W_region [] fun R hR => ?_   -- r0
  simp only [go_sem]
  refine hR _ _ (kq1 _ _ ?_); clear hR R; try clear kq1 kz1
  try simp only [go_sem]
  refine W_seq fun kz2 kq2 => ?_
  refine W_region [1, 2] fun R hR => ?_   -- r1
  simp only [go_sem]
  refine GCall_of (scale_pc Y _) ?_   -- t8
  simp only [go_sem]
  refine GCall_of (night_pc Y _) ?_   -- t9
  simp only [go_sem]
  refine GCall_of (PC.val (v' := .tuple [sds exTab, I 0]) (Table_pc Y _ exScale exNight exScale_ok exNight_ok) (by rw [exTable]; rfl)) ?_   -- t10
  simp only [go_sem]
  refine hR _ _ (kq2 _ _ ?_); clear hR R; try clear kq2 kz2
  try simp only [go_sem]
  refine W_seq fun kz3 kq3 => ?_
  refine W_region [1, 2, 3, 4] fun R hR => ?_   -- r2
  simp only [go_sem]
  refine GCall_of (scale_pc Y _) ?_   -- t14
  simp only [go_sem]
  refine GCall_of (before_pc Y _) ?_   -- t15
  simp only [go_sem]
  refine GCall_of (PC.val (v' := .tuple [sts exTot, I 0]) (Totals_pc Y _ exScale exBefore exScale_ok exBefore_ok) (by rw [exTotals]; rfl)) ?_   -- t16
  simp only [go_sem]
  refine hR _ _ (kq3 _ _ ?_); clear hR R; try clear kq3 kz3
  try simp only [go_sem]
  refine W_seq fun kz4 kq4 => ?_
  refine W_region [1, 2, 3, 4, 5, 6] fun R hR => ?_   -- r3
  simp only [go_sem]
  refine GCall_of (scale_pc Y _) ?_   -- t20
  simp only [go_sem]
  refine GCall_of (before_pc Y _) ?_   -- t21
  simp only [go_sem]
  refine GCall_of (PC.val (v' := .tuple [.agg [I 1, I 3], I 0]) (Place_pc Y _ exScale exBefore exScale_ok exBefore_ok 0) (by rw [exPlace])) ?_   -- t22
  simp only [go_sem]
  refine hR _ _ (kq4 _ _ ?_); clear hR R; try clear kq4 kz4
  try simp only [go_sem]
  refine W_seq fun kz5 kq5 => ?_
  refine W_draw [0] [0, 1, 2, 3, 4, 5, 6, 7, 8, 9, 10, 11, 12, 13, 14, 15, 16, 17, 18, 19, 20, 21, 22, 23, 24, 25, 26, 27, 28, 29, 30, 31, 32, 33, 34] [(22, 24), (22, 25), (22, 27), (30, 35)] [[], [0], [0, 1], [0, 1, 2], [0, 1, 2, 3], [0, 1, 2, 3, 4], [0, 1, 2, 3, 4, 5], [0, 1, 2, 3, 4, 5, 6], [0, 1, 2, 3, 4, 5, 6, 7], [0, 1, 2, 3, 4, 5, 6, 7, 8], [0, 1, 2, 3, 4, 5, 6, 7, 8, 9], [0, 1, 2, 3, 4, 5, 6, 7, 8, 9, 10], [0, 1, 2, 3, 4, 5, 6, 7, 8, 9, 10], [0, 1, 2, 3, 4, 5, 6, 7, 8, 9, 10, 12], [0, 1, 2, 3, 4, 5, 6, 7, 8, 9, 10], [0, 1, 2, 3, 4, 5, 6, 7, 8, 9, 10, 14], [0, 1, 2, 3, 4, 5, 6, 7, 8, 9, 10], [0, 1, 2, 3, 4, 5, 6, 7, 8, 9, 10, 16], [0, 1, 2, 3, 4, 5, 6, 7, 8, 9, 10, 12, 13, 14, 15, 16, 17], [0, 1, 2, 3, 4, 5, 6, 7, 8, 9, 10, 11, 12, 13, 14, 15, 16, 17, 18], [0, 1, 2, 3, 4, 5, 6, 7, 8, 9, 10, 11, 12, 13, 14, 15, 16, 17, 18, 19], [0, 1, 2, 3, 4, 5, 6, 7, 8, 9, 10, 11, 12, 13, 14, 15, 16, 17, 18, 19, 20], [0, 1, 2, 3, 4, 5, 6, 7, 8, 9, 10, 11, 12, 13, 14, 15, 16, 17, 18, 19, 20, 21], [0, 1, 2, 3, 4, 5, 6, 7, 8, 9, 10, 11, 12, 13, 14, 15, 16, 17, 18, 19, 20, 21], [0, 1, 2, 3, 4, 5, 6, 7, 8, 9, 10, 11, 12, 13, 14, 15, 16, 17, 18, 19, 20, 21, 23], [0, 1, 2, 3, 4, 5, 6, 7, 8, 9, 10, 11, 12, 13, 14, 15, 16, 17, 18, 19, 20, 21, 23, 24], [0, 1, 2, 3, 4, 5, 6, 7, 8, 9, 10, 11, 12, 13, 14, 15, 16, 17, 18, 19, 20, 21, 23, 24, 25], [0, 1, 2, 3, 4, 5, 6, 7, 8, 9, 10, 11, 12, 13, 14, 15, 16, 17, 18, 19, 20, 21, 22, 23, 24, 25, 26], [0, 1, 2, 3, 4, 5, 6, 7, 8, 9, 10, 11, 12, 13, 14, 15, 16, 17, 18, 19, 20, 21, 22, 23, 24, 25, 26, 27], [0, 1, 2, 3, 4, 5, 6, 7, 8, 9, 10, 11, 12, 13, 14, 15, 16, 17, 18, 19, 20, 21, 22, 23, 24, 25, 26, 27, 28], [0, 1, 2, 3, 4, 5, 6, 7, 8, 9, 10, 11, 12, 13, 14, 15, 16, 17, 18, 19, 20, 21, 22, 23, 24, 25, 26, 27, 28, 29], [0, 1, 2, 3, 4, 5, 6, 7, 8, 9, 10, 11, 12, 13, 14, 15, 16, 17, 18, 19, 20, 21, 22, 23, 24, 25, 26, 27, 28, 29], [0, 1, 2, 3, 4, 5, 6, 7, 8, 9, 10, 11, 12, 13, 14, 15, 16, 17, 18, 19, 20, 21, 22, 23, 24, 25, 26, 27, 28, 29, 30, 31], [0, 1, 2, 3, 4, 5, 6, 7, 8, 9, 10, 11, 12, 13, 14, 15, 16, 17, 18, 19, 20, 21, 22, 23, 24, 25, 26, 27, 28, 29, 30, 31, 32], [0, 1, 2, 3, 4, 5, 6, 7, 8, 9, 10, 11, 12, 13, 14, 15, 16, 17, 18, 19, 20, 21, 22, 23, 24, 25, 26, 27, 28, 29, 30, 31, 32, 33]] mixed (by kernel_rfl) fun R hR => ?_   -- r4
  simp only [go_sem]
  refine GCall_of (PC.val (v' := .bool true) (PC.ofRo (EqTables_pc Y _ exTab exTab .ro .ro (by decide) (by decide)) (by simp only [go_sem, exTab] <;> rfl)) (by rfl)) ?_   -- t44
  simp only [go_sem]
  refine GCall_of (span_pc Y _ 340 385) ?_   -- t48
  simp only [go_sem]
  refine GCall_of (span_pc Y _ 355 390) ?_   -- t49
  simp only [go_sem]
  refine GCall_of (span_pc Y _ 345 370) ?_   -- t50
  simp only [go_sem]
  refine GCall_of (EqSpans_pc Y _ exTot exTot .ro .exact (by decide)) ?_   -- t52
  simp only [go_sem]
  refine GCall_of (span_pc Y _ 1 3) ?_   -- t56
  simp only [go_sem]
  try refine And.intro (by repeat' (first | refine And.intro ?_ ?_ | exact GOr_right (fun _ => by simp only [go_sem]))) ?_
  refine hR _ _ (kq5 _ _ ?_); clear hR R; try clear kq5 kz5
  try simp only [go_sem]
  refine W_ret ?_
  simp only [go_sem]
  refine ⟨.inr (by trivial), ?_⟩
  first | refine Fin_same hcl rfl (Wk_eq ?_ (by simp only [go_sem])) | refine Fin_self hcl rfl (Wk_eq ?_ (by simp only [go_sem]))
  try simp only [go_sem]
  all_goals
    first | rfl | (simp_all; done) | (simp_all; omega)
end Go.Proofs.YtgelnjmddabgpaaGreat
namespace Go.Proofs.YtgelnjmddabgpaaGreat
open Go Go.RowKit
set_option maxRecDepth 100000
theorem Scale.V.okS {s : Scale} (h : s.V) : s.Ok := ⟨by have := h.ol; have := h.mt; omega⟩
theorem dec_sealed {s : Scale} {n : Night} (V : NightV s n) (h : ∀ p, ofSc s p = true → p ∈ n.absent ∨ ∃ x, x ∈ n.opened ∧ jdE x = p) : sealedK s (knownK s n) = [] := by
  rw [List.eq_nil_iff_forall_not_mem]
  intro j hj
  unfold sealedK at hj
  obtain ⟨h1, h2⟩ := List.mem_filter.1 hj
  have hof : ofSc s j = true := by
    unfold allJ at h1
    simp only [List.mem_flatMap, List.mem_map, mem_toI] at h1
    obtain ⟨m, hm, q, hq, rfl⟩ := h1
    rw [ofSc_true]
    simp only; omega
  have hnone : aget j (knownK s n) = none := by simpa using h2
  rw [V.get] at hnone
  unfold kOf at hnone
  rcases h j hof with h | ⟨x, hx, e⟩
  · cases hf : findE n.opened j with
    | none => rw [hf] at hnone; simp only [if_pos h] at hnone; cases hnone
    | some v => rw [hf] at hnone; cases hnone
  · cases hf : findE n.opened j with
    | none => exact absurd e (findE_none.1 hf x hx)
    | some v => rw [hf] at hnone; cases hnone
theorem dec_table {s : Scale} {n : Night} (V : NightV s n) (h : sealedK s (knownK s n) = []) : tableP s n = (tblP s (knownK s n) n, 0) := by
  unfold tableP
  rw [if_neg (by rw [nightV_iff.2 V]; simp), if_neg (by rw [h]; simp)]
theorem chg_dec {s : Scale} {n : Night} {at' : Nat} {x : Envl} {sc : Nat} {mark : Int} (h : ChgH s n at' x sc mark) : ∀ p, ofSc s p = true → p ∈ (chgN s n at' x sc mark).absent ∨ ∃ y, y ∈ (chgN s n at' x sc mark).opened ∧ jdE y = p := fun p hp => by
  rcases h.nm.dc rfl p hp with k | ⟨y, hy, e⟩
  · exact .inl k
  · have : p ∈ (chgN s n at' x sc mark).opened.map jdE := by rw [chg_jd h.hx]; exact List.mem_map.2 ⟨y, hy, e⟩
    obtain ⟨z, hz, e2⟩ := List.mem_map.1 this
    exact .inr ⟨z, hz, e2⟩
theorem dec_some {s : Scale} {n : Night} (h : NightM s true n) : 0 < n.opened.length := by
  have hv := Scale.v h.v.c
  have q1 := hv.mt
  obtain ⟨q, hq, hn⟩ := h.v.sh 0 (Int.le_refl _) (by omega)
  rcases h.dc rfl (0, q) (by rw [ofSc_true]; simp only; omega) with k | ⟨y, hy, _⟩
  · exact absurd k hn
  · exact List.length_pos_of_mem hy
theorem row_of {s : Scale} {k : Kn} {g : Night} {N : Nat} (hN : s.schools = N) {c : Nat} (hc : c < N) : ∃ i : Nat, (tblP s k g)[i]? = some (standK s k g c 0) ∧ (∀ (q : Nat) (y : Stand), q < i → (tblP s k g)[q]? = some y → y.school ≠ (c : Int)) ∧ placeK s k g c 0 0 = (i : Int) + 1 := by
  have T := tbl_ok (s := s) (k := k) (g := g) hN
  obtain ⟨i, hi⟩ := List.mem_iff_getElem?.1 (T.al c hc)
  refine ⟨i, hi, fun q y hq hy e => ?_, tbl_place hN hi⟩
  have h1 := (List.getElem?_eq_some_iff.1 hi)
  have h2 := (List.getElem?_eq_some_iff.1 hy)
  have := (List.pairwise_iff_getElem.1 (List.nodup_iff_pairwise_ne.1 T.nd)) q i (by simpa using h2.1) (by simpa using h1.1) hq
  simp only [List.getElem_map, h1.2, h2.2] at this
  exact this e
theorem pointsL_at {s : Scale} {k : Kn} {c : Int} {u : Int} {M m : Nat} (hM : s.matters = M) (hm : m < M) : (pointsL s k c u)[m]? = some (pointsK s k c m u) := by
  unfold pointsL
  rw [List.getElem?_map, toI, hM, Int.toNat_natCast, List.getElem?_map, List.getElem?_range hm]
  rfl
set_option maxHeartbeats 2000000 in
theorem standOf_pc (Y : YEnv) (σ : Sg) (l : List Stand) (sc : Int) (i0 : Nat) (x : Stand) (hl : l.length < 2 ^ 40) (hx : l[i0]? = some x) (hsx : x.school = sc) (hno : ∀ (q : Nat) (y : Stand), q < i0 → l[q]? = some y → y.school ≠ sc) :
    PC Tryz.prog Y 25 [sds l, I sc] σ (.tuple [sdPV x, I ((i0 : Int) + 1)]) (σ) := by
  refine PC_of_W Tryz.func25 rfl (by kernel_rfl) Tryz.ntmps25 (by simp) fun hcl hca => ?_
  have hi0 := (List.getElem?_eq_some_iff.1 hx).1
  refine W_seq fun kz1 kq1 => ?_
  refine W_region [0, 1, 4] fun R hR => ?_   -- r0
  simp only [go_sem]
  refine hR _ _ (kq1 _ _ ?_); clear hR R; try clear kq1 kz1
  try simp only [go_sem]
  refine W_seq fun kz2 kq2 => ?_
  refine W_seq fun kz3 kq3 => ?_
  refine W_region [0, 1, 4, 6] fun R hR => ?_   -- r1
  simp only [go_sem]
  refine hR _ _ (kq3 _ _ ?_); clear hR R; try clear kq3 kz3
  try simp only [go_sem]
  refine W_block ?_
  refine W_loopS (α := Nat) (fun (k : Nat) => [(6, I k)]) (fun (k : Nat) => k ≤ i0) (fun (k : Nat) => l.length - k) (0) rfl (Nat.zero_le _) ?_
  rintro k hk
  refine W_seq fun kz4 kq4 => ?_
  refine W_seq fun kz5 kq5 => ?_
  refine W_region [0, 1, 4, 6, 10] fun R hR => ?_   -- r2
  simp only [go_sem]
  refine hR _ _ (kq5 _ _ ?_); clear hR R; try clear kq5 kz5
  try simp only [go_sem]
  refine W_cond rfl (fun c1 => ?_) (fun c1 => ?_)
  · -- c1 true
    try simp only [nrm] at c1
    have hk2 : k < l.length := by first | assumption | omega
    obtain ⟨y, hy⟩ : ∃ z, l[k]? = some z := ⟨l[k], by simp [hk2]⟩
    refine W_skip (kq4 _ _ ?_)
    refine W_seq fun kz6 kq6 => ?_
    refine W_block ?_
    refine W_seq fun kz7 kq7 => ?_
    refine W_region [0, 1, 4, 6, 19] fun R hR => ?_   -- r4
    simp only [go_sem, hy]
    refine hR _ _ (kq7 _ _ ?_); clear hR R; try clear kq7 kz7
    try simp only [go_sem, hy]
    refine W_cond rfl (fun c2 => ?_) (fun c2 => ?_)
    · -- c2 true
      try simp only [nrm] at c2
      have hki : k = i0 := by
        rcases Nat.lt_or_ge k i0 with h | h
        · exact absurd c2 (hno k y h hy)
        · omega
      subst hki
      rw [hx] at hy
      injection hy with hy
      subst hy
      have hy := hx
      refine W_seq fun kz8 kq8 => ?_
      refine W_region [4, 5] fun R hR => ?_   -- r5
      simp only [go_sem, hy]
      try simp (disch := omega) only [wrapI, wrapU]
      refine hR _ _ (kq8 _ _ ?_); clear hR R; try clear kq8 kz8
      try simp only [go_sem, hy]
      refine W_ret ?_
      simp only [go_sem, hy]
      refine ⟨.inr (by trivial), ?_⟩
      first | refine Fin_same hcl (by show resPV Tryz.prog _ _ [.cell 4 55, .tmp 5] = some _; simp only [resPV, go_sem]; rfl) (Wk_eq ?_ (by simp only [go_sem]))
      try simp only [go_sem]
      all_goals
        first | rfl | (simp only [go_sem]; done)
    · -- c2 false
      try simp only [nrm] at c2
      have hki : k ≠ i0 := fun e => by subst e; rw [hx] at hy; injection hy with hy; subst hy; exact c2 hsx
      refine W_skip (kq6 _ _ ?_)
      refine W_region [0, 1, 4, 6] fun R hR => ?_   -- r3
      simp only [go_sem, hy]
      try simp (disch := omega) only [wrapI, wrapU]
      refine hR _ _ ?_; clear hR R
      try simp only [go_sem, hy]
      refine ⟨k + 1, ?_, by (try simp only []); omega, ?_⟩
      · first | exact Weak.refl | exact Weak.eq (by first | rfl | (simp only [go_sem]; done) | (simp only [go_sem]; rfl) | (simp [go_sem]; done) | (simp [go_sem]; omega)) (by first | rfl | (simp only [go_sem]; done) | (simp [go_sem]; done))
      · try dsimp only
        omega
  · -- c1 false
    try simp only [nrm] at c1
    skip
    exfalso
    first | omega | (simp at c1; omega)
set_option maxHeartbeats 16000000 in
theorem MarksDropped_pc (Y : YEnv) (σ : Sg) (nums : List Int) (hn : nums.length < 2 ^ 60) :
    PC Tryz.prog Y 4 [ints nums] σ (.bool true) (σ) := by
  refine PC_of_W Tryz.func4 rfl (by kernel_rfl) Tryz.ntmps4 (by simp) fun hcl hca => ?_
  obtain ⟨b0, hb0⟩ : ∃ z, drumB nums 2685821657736338717 = z := ⟨_, rfl⟩
  obtain ⟨dec, hdec⟩ : ∃ z, true = z := ⟨_, rfl⟩
  obtain ⟨s, hs⟩ : ∃ zz, (scaleD 5 b0).1 = zz := ⟨_, rfl⟩
  obtain ⟨b1, hb1⟩ : ∃ zz, (scaleD 5 b0).2 = zz := ⟨_, rfl⟩
  have ds := scaleD_ok 5 (by omega) (by omega) b0
  simp only [hs] at ds
  have hsc := ds.1
  have hv := Scale.v hsc
  have q1 := hv.mt
  have q2 := hv.jd
  have q3 := hv.sc
  have q4 := hv.dr
  have q5 := hv.lo
  have q6 := hv.hi
  have hsO := hv.okS
  obtain ⟨g, hg⟩ : ∃ zz, (nightD s true b1).1 = zz := ⟨_, rfl⟩
  obtain ⟨b2, hb2⟩ : ∃ zz, (nightD s true b1).2 = zz := ⟨_, rfl⟩
  have dg := nightD_ok hsc true b1
  simp only [hg] at dg
  obtain ⟨ra, hra⟩ : ∃ zz, (roll g.opened.length b2).1 = zz := ⟨_, rfl⟩
  obtain ⟨b3, hb3⟩ : ∃ zz, (roll g.opened.length b2).2 = zz := ⟨_, rfl⟩
  have dra := roll_bd g.opened.length b2
  simp only [hra] at dra
  obtain ⟨rc, hrc⟩ : ∃ zz, (roll s.schools b3).1 = zz := ⟨_, rfl⟩
  obtain ⟨b4, hb4⟩ : ∃ zz, (roll s.schools b3).2 = zz := ⟨_, rfl⟩
  have drc := roll_bd s.schools b3
  simp only [hrc] at drc
  clear hdec dec
  have hnv := dg.v
  have hgO := hnv.ok
  have hg30 := dg.l1
  have hpos := dec_some dg
  obtain ⟨N, hN⟩ : ∃ z : Nat, s.schools = z := ⟨s.schools.toNat, by omega⟩
  obtain ⟨M, hM⟩ : ∃ z : Nat, s.matters = z := ⟨s.matters.toNat, by omega⟩
  obtain ⟨a, ha⟩ : ∃ z : Nat, ra = z := ⟨ra.toNat, by omega⟩
  obtain ⟨c, hcc⟩ : ∃ z : Nat, rc = z := ⟨rc.toNat, by omega⟩
  have hal : a < g.opened.length := by omega
  have hcN : c < N := by omega
  obtain ⟨x, hx⟩ : ∃ z, g.opened[a]? = some z := ⟨g.opened[a], by simp⟩
  have hxm := List.mem_of_getElem? hx
  have hmk := marked_ok (hnv.op x hxm).m
  obtain ⟨hk1, hk2, hk3⟩ := hmk
  have hcx : c < x.marks.length := by omega
  obtain ⟨v, hv0⟩ : ∃ z, x.marks[c]? = some z := ⟨x.marks[c], by simp⟩
  have hvb := hk3 v (List.mem_of_getElem? hv0)
  have hvl := hvb.1
  have hvh := hvb.2
  have hvg : (x.marks[c]?).getD 0 = v := by rw [hv0]; rfl
  have hof := hk1
  rw [ofSc_true] at hof
  obtain ⟨m, hm⟩ : ∃ z : Nat, x.matter = z := ⟨x.matter.toNat, by have := hof.1; simp only [jdE] at this; omega⟩
  have hmM : m < M := by have := hof.1; simp only [jdE] at this; omega
  have hne : ∀ y, y ∈ g.opened → y.marks ≠ [] := fun y hy => (hnv.op y hy).ne hv
  obtain ⟨mu, hmu⟩ : ∃ zz, (mid v s.high b4).1 = zz := ⟨_, rfl⟩
  obtain ⟨b5, hb5⟩ : ∃ zz, (mid v s.high b4).2 = zz := ⟨_, rfl⟩
  have dmu := mid_bd v s.high hvh b4
  simp only [hmu] at dmu
  obtain ⟨ml, hml⟩ : ∃ zz, (mid s.low v b5).1 = zz := ⟨_, rfl⟩
  obtain ⟨b6, hb6⟩ : ∃ zz, (mid s.low v b5).2 = zz := ⟨_, rfl⟩
  have dml := mid_bd s.low v hvl b5
  simp only [hml] at dml
  have HU : ChgH s g a x c mu := ⟨dg, hx, by omega, by omega, dmu.2⟩
  have HL : ChgH s g a x c ml := ⟨dg, hx, by omega, dml.1, by omega⟩
  have hU := HU.more (by omega) 0
  have hL := HL.less (by omega) 0
  have hUO := HU.v.ok
  have hLO := HL.v.ok
  have tA := dec_table hnv (dec_sealed hnv (dg.dc rfl))
  have tB := dec_table HU.v (dec_sealed HU.v (chg_dec HU))
  have tC := dec_table HL.v (dec_sealed HL.v (chg_dec HL))
  have okA := tbl_ok (k := knownK s g) (g := g) hN
  have okB := tbl_ok (k := knownK s (chgN s g a x c mu)) (g := chgN s g a x c mu) hN
  have okC := tbl_ok (k := knownK s (chgN s g a x c ml)) (g := chgN s g a x c ml) hN
  obtain ⟨ia, rA, nA, pA⟩ := row_of (k := knownK s g) (g := g) hN hcN
  obtain ⟨ib, rB, nB, pB⟩ := row_of (k := knownK s (chgN s g a x c mu)) (g := chgN s g a x c mu) hN hcN
  obtain ⟨ic, rC, nC, pC⟩ := row_of (k := knownK s (chgN s g a x c ml)) (g := chgN s g a x c ml) hN hcN
  rw [pA, pB] at hU
  rw [pA, pC] at hL
  have lA := okA.ln
  have lB := okB.ln
  have lC := okC.ln
  obtain ⟨TA, hTA⟩ : ∃ z, tblP s (knownK s g) g = z := ⟨_, rfl⟩
  obtain ⟨TB, hTB⟩ : ∃ z, tblP s (knownK s (chgN s g a x c mu)) (chgN s g a x c mu) = z := ⟨_, rfl⟩
  obtain ⟨TC, hTC⟩ : ∃ z, tblP s (knownK s (chgN s g a x c ml)) (chgN s g a x c ml) = z := ⟨_, rfl⟩
  rw [hTA] at tA rA nA lA
  rw [hTB] at tB rB nB lB
  rw [hTC] at tC rC nC lC
  have ptA := pointsL_at (k := knownK s g) (c := (c : Int)) (u := 0) hM hmM
  have ptC := pointsL_at (k := knownK s (chgN s g a x c ml)) (c := (c : Int)) (u := 0) hM hmM
  have plA : (pointsL s (knownK s g) c 0).length = M := by simp [pointsL, toI, hM]
  have plC : (pointsL s (knownK s (chgN s g a x c ml)) c 0).length = M := by simp [pointsL, toI, hM]
  have hdr := fun h1 h2 => HL.dropped (by unfold mkF; omega) h1 h2 0
  rw [hm] at hdr
  have hmf : mkF c x = v := hvg
  rw [hmf] at hdr
  obtain ⟨A, hA⟩ : ∃ z, standK s (knownK s g) g c 0 = z := ⟨_, rfl⟩
  obtain ⟨B, hB⟩ : ∃ z, standK s (knownK s (chgN s g a x c mu)) (chgN s g a x c mu) c 0 = z := ⟨_, rfl⟩
  obtain ⟨C, hC⟩ : ∃ z, standK s (knownK s (chgN s g a x c ml)) (chgN s g a x c ml) c 0 = z := ⟨_, rfl⟩
  have apA : A.points = pointsL s (knownK s g) c 0 := by rw [← hA]; rfl
  have apC : C.points = pointsL s (knownK s (chgN s g a x c ml)) c 0 := by rw [← hC]; rfl
  rw [← apA] at ptA plA
  rw [← apC] at ptC plC
  obtain ⟨zA, hzA⟩ : ∃ z, pointsK s (knownK s g) c m 0 = z := ⟨_, rfl⟩
  obtain ⟨zC, hzC⟩ : ∃ z, pointsK s (knownK s (chgN s g a x c ml)) c m 0 = z := ⟨_, rfl⟩
  rw [hzA] at ptA
  rw [hzC] at ptC
  rw [hzA, hzC] at hdr
  rw [hA, hB] at hU
  rw [hA, hC] at hL
  rw [hA] at rA
  rw [hB] at rB
  rw [hC] at rC
  have sA : A.school = (c : Int) := by rw [← hA]; rfl
  have sB : B.school = (c : Int) := by rw [← hB]; rfl
  have sC : C.school = (c : Int) := by rw [← hC]; rfl
  have e1 : ((ia : Int) + 1 == 0) = false := by simp; omega
  have e2 : ((ib : Int) + 1 == 0) = false := by simp; omega
  have e3 : ((ic : Int) + 1 == 0) = false := by simp; omega
  have e4 : ¬ B.total < A.total := by omega
  have e5 : ¬ A.total < C.total := by omega
  have e6 : ¬ (ia : Int) + 1 < (ib : Int) + 1 := by omega
  have e7 : ¬ (ic : Int) + 1 < (ia : Int) + 1 := by omega
  have e8 : (A.points.length : Int) = s.matters := by omega
  have e9 : (C.points.length : Int) = s.matters := by omega
  refine W_seq fun kz1 kq1 => ?_
  refine W_region [0] fun R hR => ?_   -- r0
  simp only [go_sem, hb0, hs, hb1, hg, hb2, hra, hb3, hrc, hb4, hmu, hb5, hml, hb6, hx, hv0, ha, hcc, hm]
  refine hR _ _ (kq1 _ _ ?_); clear hR R; try clear kq1 kz1
  try simp only [go_sem, hb0, hs, hb1, hg, hb2, hra, hb3, hrc, hb4, hmu, hb5, hml, hb6, hx, hv0, ha, hcc, hm]
  refine W_seq fun kz2 kq2 => ?_
  refine W_region [3] fun R hR => ?_   -- r1
  simp only [go_sem, hb0, hs, hb1, hg, hb2, hra, hb3, hrc, hb4, hmu, hb5, hml, hb6, hx, hv0, ha, hcc, hm]
  refine GCall_of (DrumOf_pc Y _ nums hn) ?_   -- t29
  simp only [go_sem, hb0, hs, hb1, hg, hb2, hra, hb3, hrc, hb4, hmu, hb5, hml, hb6, hx, hv0, ha, hcc, hm]
  refine hR _ _ (kq2 _ _ ?_); clear hR R; try clear kq2 kz2
  try simp only [go_sem, hb0, hs, hb1, hg, hb2, hra, hb3, hrc, hb4, hmu, hb5, hml, hb6, hx, hv0, ha, hcc, hm]
  refine W_seq fun kz3 kq3 => ?_
  refine W_region [3, 4] fun R hR => ?_   -- r2
  simp only [go_sem, hb0, hs, hb1, hg, hb2, hra, hb3, hrc, hb4, hmu, hb5, hml, hb6, hx, hv0, ha, hcc, hm]
  refine GCall_of (ScaleOf_pc Y _ _ b0 (Sg.get_ext0 ..) 5 (by omega) (by omega)) ?_   -- t31
  simp only [go_sem, hb0, hs, hb1, hg, hb2, hra, hb3, hrc, hb4, hmu, hb5, hml, hb6, hx, hv0, ha, hcc, hm]
  refine hR _ _ (kq3 _ _ ?_); clear hR R; try clear kq3 kz3
  try simp only [go_sem, hb0, hs, hb1, hg, hb2, hra, hb3, hrc, hb4, hmu, hb5, hml, hb6, hx, hv0, ha, hcc, hm]
  refine W_seq fun kz4 kq4 => ?_
  refine W_region [3, 4, 5] fun R hR => ?_   -- r3
  simp only [go_sem, hb0, hs, hb1, hg, hb2, hra, hb3, hrc, hb4, hmu, hb5, hml, hb6, hx, hv0, ha, hcc, hm]
  refine GCall_of (NightOf_pc Y _ _ b1 (Sg.get_ext0 ..) s hv hsO true) ?_   -- t34
  simp only [go_sem, hb0, hs, hb1, hg, hb2, hra, hb3, hrc, hb4, hmu, hb5, hml, hb6, hx, hv0, ha, hcc, hm]
  refine hR _ _ (kq4 _ _ ?_); clear hR R; try clear kq4 kz4
  try simp only [go_sem, hb0, hs, hb1, hg, hb2, hra, hb3, hrc, hb4, hmu, hb5, hml, hb6, hx, hv0, ha, hcc, hm]
  refine W_seq fun kz5 kq5 => ?_
  refine W_draw [3, 4, 5, 6, 7] [0, 1, 2, 3, 4, 5, 6, 7, 8, 9, 10] [(5, 4), (6, 4), (7, 4)] [[], [], [1], [1, 2], [0, 1, 2, 3], [], [], [6], [0, 1, 2, 3, 4, 5, 6, 7], [0, 1, 2, 3, 4, 5, 6, 7, 8], [0, 1, 2, 3, 4, 5, 6, 7, 8, 9]] mixed (by kernel_rfl) fun R hR => ?_   -- r4
  simp only [go_sem, hb0, hs, hb1, hg, hb2, hra, hb3, hrc, hb4, hmu, hb5, hml, hb6, hx, hv0, ha, hcc, hm]
  refine GCall_of (Roll_pc Y _ _ b2 (Sg.get_ext0 ..) g.opened.length (by omega)) ?_   -- t39
  simp only [go_sem, hb0, hs, hb1, hg, hb2, hra, hb3, hrc, hb4, hmu, hb5, hml, hb6, hx, hv0, ha, hcc, hm]
  refine GCall_of (Roll_pc Y _ _ b3 (Sg.get_ext0 ..) s.schools (by omega)) ?_   -- t43
  simp only [go_sem, hb0, hs, hb1, hg, hb2, hra, hb3, hrc, hb4, hmu, hb5, hml, hb6, hx, hv0, ha, hcc, hm]
  try refine And.intro (by repeat' (first | refine And.intro ?_ ?_ | exact GOr_right (fun _ => by simp only [go_sem, hb0, hs, hb1, hg, hb2, hra, hb3, hrc, hb4, hmu, hb5, hml, hb6, hx, hv0, ha, hcc, hm]))) ?_
  refine hR _ _ (kq5 _ _ ?_); clear hR R; try clear kq5 kz5
  try simp only [go_sem, hb0, hs, hb1, hg, hb2, hra, hb3, hrc, hb4, hmu, hb5, hml, hb6, hx, hv0, ha, hcc, hm]
  refine W_seq fun kz6 kq6 => ?_
  refine W_region [3, 4, 5, 6, 7, 8] fun R hR => ?_   -- r5
  simp only [go_sem, hb0, hs, hb1, hg, hb2, hra, hb3, hrc, hb4, hmu, hb5, hml, hb6, hx, hv0, ha, hcc, hm]
  refine hR _ _ (kq6 _ _ ?_); clear hR R; try clear kq6 kz6
  try simp only [go_sem, hb0, hs, hb1, hg, hb2, hra, hb3, hrc, hb4, hmu, hb5, hml, hb6, hx, hv0, ha, hcc, hm]
  refine W_seq fun kz7 kq7 => ?_
  refine W_region [3, 4, 5, 6, 7, 8, 9] fun R hR => ?_   -- r6
  simp only [go_sem, hb0, hs, hb1, hg, hb2, hra, hb3, hrc, hb4, hmu, hb5, hml, hb6, hx, hv0, ha, hcc, hm]
  refine hR _ _ (kq7 _ _ ?_); clear hR R; try clear kq7 kz7
  try simp only [go_sem, hb0, hs, hb1, hg, hb2, hra, hb3, hrc, hb4, hmu, hb5, hml, hb6, hx, hv0, ha, hcc, hm]
  refine W_seq fun kz8 kq8 => ?_
  refine W_draw [3, 4, 5, 6, 7, 8, 9, 10] [0, 1, 2, 3, 4, 5, 6, 7, 8, 9, 10, 11] [(0, 9), (1, 9), (2, 9), (3, 9)] [[], [], [], [], [], [], [], [6], [4, 5, 6, 7], [0, 1, 2, 3, 4, 5, 6, 7, 8], [], [0, 1, 2, 3, 4, 5, 6, 7, 8, 9, 10]] mixed (by kernel_rfl) fun R hR => ?_   -- r7
  simp only [go_sem, hb0, hs, hb1, hg, hb2, hra, hb3, hrc, hb4, hmu, hb5, hml, hb6, hx, hv0, ha, hcc, hm]
  refine GCall_of (Mid_pc Y _ _ b4 (Sg.get_ext0 ..) v s.high (by omega) (by omega) (by omega) (by omega)) ?_   -- t62
  simp only [go_sem, hb0, hs, hb1, hg, hb2, hra, hb3, hrc, hb4, hmu, hb5, hml, hb6, hx, hv0, ha, hcc, hm]
  refine GCall_of (with_pc Y _ s g hsO hgO a x hx hne c hcx mu) ?_   -- t63
  simp only [go_sem, hb0, hs, hb1, hg, hb2, hra, hb3, hrc, hb4, hmu, hb5, hml, hb6, hx, hv0, ha, hcc, hm]
  try refine And.intro (by repeat' (first | refine And.intro ?_ ?_ | exact GOr_right (fun _ => by simp only [go_sem, hb0, hs, hb1, hg, hb2, hra, hb3, hrc, hb4, hmu, hb5, hml, hb6, hx, hv0, ha, hcc, hm]))) ?_
  refine hR _ _ (kq8 _ _ ?_); clear hR R; try clear kq8 kz8
  try simp only [go_sem, hb0, hs, hb1, hg, hb2, hra, hb3, hrc, hb4, hmu, hb5, hml, hb6, hx, hv0, ha, hcc, hm]
  refine W_seq fun kz9 kq9 => ?_
  refine W_draw [4, 5, 6, 7, 8, 9, 10, 11] [0, 1, 2, 3, 4, 5, 6, 7, 8, 9, 10, 11] [(0, 9), (1, 9), (2, 9), (3, 9)] [[], [], [], [], [], [], [5], [], [4, 5, 6, 7], [0, 1, 2, 3, 4, 5, 6, 7, 8], [], [0, 1, 2, 3, 4, 5, 6, 7, 8, 9, 10]] mixed (by kernel_rfl) fun R hR => ?_   -- r8
  simp only [go_sem, hb0, hs, hb1, hg, hb2, hra, hb3, hrc, hb4, hmu, hb5, hml, hb6, hx, hv0, ha, hcc, hm]
  refine GCall_of (Mid_pc Y _ _ b5 (Sg.get_ext0 ..) s.low v (by omega) (by omega) (by omega) (by omega)) ?_   -- t72
  simp only [go_sem, hb0, hs, hb1, hg, hb2, hra, hb3, hrc, hb4, hmu, hb5, hml, hb6, hx, hv0, ha, hcc, hm]
  refine GCall_of (with_pc Y _ s g hsO hgO a x hx hne c hcx ml) ?_   -- t73
  simp only [go_sem, hb0, hs, hb1, hg, hb2, hra, hb3, hrc, hb4, hmu, hb5, hml, hb6, hx, hv0, ha, hcc, hm]
  try refine And.intro (by repeat' (first | refine And.intro ?_ ?_ | exact GOr_right (fun _ => by simp only [go_sem, hb0, hs, hb1, hg, hb2, hra, hb3, hrc, hb4, hmu, hb5, hml, hb6, hx, hv0, ha, hcc, hm]))) ?_
  refine hR _ _ (kq9 _ _ ?_); clear hR R; try clear kq9 kz9
  try simp only [go_sem, hb0, hs, hb1, hg, hb2, hra, hb3, hrc, hb4, hmu, hb5, hml, hb6, hx, hv0, ha, hcc, hm]
  refine W_seq fun kz10 kq10 => ?_
  refine W_region [4, 5, 6, 7, 8, 9, 10, 11, 12, 13] fun R hR => ?_   -- r9
  simp only [go_sem, hb0, hs, hb1, hg, hb2, hra, hb3, hrc, hb4, hmu, hb5, hml, hb6, hx, hv0, ha, hcc, hm]
  refine GCall_of (PC.val (v' := .tuple [sds TA, I 0]) (Table_pc Y _ s g hsO hgO) (by rw [tA])) ?_   -- t77
  simp only [go_sem, hb0, hs, hb1, hg, hb2, hra, hb3, hrc, hb4, hmu, hb5, hml, hb6, hx, hv0, ha, hcc, hm]
  refine hR _ _ (kq10 _ _ ?_); clear hR R; try clear kq10 kz10
  try simp only [go_sem, hb0, hs, hb1, hg, hb2, hra, hb3, hrc, hb4, hmu, hb5, hml, hb6, hx, hv0, ha, hcc, hm]
  refine W_seq fun kz11 kq11 => ?_
  refine W_region [4, 5, 6, 7, 8, 9, 11, 12, 13, 14, 15] fun R hR => ?_   -- r10
  simp only [go_sem, hb0, hs, hb1, hg, hb2, hra, hb3, hrc, hb4, hmu, hb5, hml, hb6, hx, hv0, ha, hcc, hm]
  refine GCall_of (PC.val (v' := .tuple [sds TB, I 0]) (Table_pc Y _ s (chgN s g a x c mu) hsO hUO) (by rw [tB])) ?_   -- t83
  simp only [go_sem, hb0, hs, hb1, hg, hb2, hra, hb3, hrc, hb4, hmu, hb5, hml, hb6, hx, hv0, ha, hcc, hm]
  refine hR _ _ (kq11 _ _ ?_); clear hR R; try clear kq11 kz11
  try simp only [go_sem, hb0, hs, hb1, hg, hb2, hra, hb3, hrc, hb4, hmu, hb5, hml, hb6, hx, hv0, ha, hcc, hm]
  refine W_seq fun kz12 kq12 => ?_
  refine W_region [4, 5, 6, 7, 8, 9, 12, 13, 14, 15, 16, 17] fun R hR => ?_   -- r11
  simp only [go_sem, hb0, hs, hb1, hg, hb2, hra, hb3, hrc, hb4, hmu, hb5, hml, hb6, hx, hv0, ha, hcc, hm]
  refine GCall_of (PC.val (v' := .tuple [sds TC, I 0]) (Table_pc Y _ s (chgN s g a x c ml) hsO hLO) (by rw [tC])) ?_   -- t89
  simp only [go_sem, hb0, hs, hb1, hg, hb2, hra, hb3, hrc, hb4, hmu, hb5, hml, hb6, hx, hv0, ha, hcc, hm]
  refine hR _ _ (kq12 _ _ ?_); clear hR R; try clear kq12 kz12
  try simp only [go_sem, hb0, hs, hb1, hg, hb2, hra, hb3, hrc, hb4, hmu, hb5, hml, hb6, hx, hv0, ha, hcc, hm]
  refine W_seq fun kz13 kq13 => ?_
  refine W_seq fun kz14 kq14 => ?_
  refine W_region [4, 5, 6, 7, 8, 9, 12, 14, 16, 101] fun R hR => ?_   -- r12
  simp only [go_sem, hb0, hs, hb1, hg, hb2, hra, hb3, hrc, hb4, hmu, hb5, hml, hb6, hx, hv0, ha, hcc, hm]
  refine hR _ _ (kq14 _ _ ?_); clear hR R; try clear kq14 kz14
  try simp only [go_sem, hb0, hs, hb1, hg, hb2, hra, hb3, hrc, hb4, hmu, hb5, hml, hb6, hx, hv0, ha, hcc, hm]
  refine W_cond rfl (fun c1 => ?_) (fun c1 => ?_)
  · -- c1 true
    try simp only [nrm] at c1
    exfalso
    first | omega | (simp at c1; done) | (simp at c1; omega)
  · -- c1 false
    try simp only [nrm] at c1
    refine W_skip (kq13 _ _ ?_)
    refine W_seq fun kz15 kq15 => ?_
    refine W_region [4, 5, 6, 7, 8, 9, 14, 16, 18, 19] fun R hR => ?_   -- r14
    simp only [go_sem, hb0, hs, hb1, hg, hb2, hra, hb3, hrc, hb4, hmu, hb5, hml, hb6, hx, hv0, ha, hcc, hm]
    refine GCall_of (standOf_pc Y _ TA c ia A (by omega) rA sA nA) ?_   -- t105
    simp only [go_sem, hb0, hs, hb1, hg, hb2, hra, hb3, hrc, hb4, hmu, hb5, hml, hb6, hx, hv0, ha, hcc, hm]
    refine hR _ _ (kq15 _ _ ?_); clear hR R; try clear kq15 kz15
    try simp only [go_sem, hb0, hs, hb1, hg, hb2, hra, hb3, hrc, hb4, hmu, hb5, hml, hb6, hx, hv0, ha, hcc, hm]
    refine W_seq fun kz16 kq16 => ?_
    refine W_region [4, 5, 6, 7, 8, 9, 16, 18, 19, 20, 21] fun R hR => ?_   -- r15
    simp only [go_sem, hb0, hs, hb1, hg, hb2, hra, hb3, hrc, hb4, hmu, hb5, hml, hb6, hx, hv0, ha, hcc, hm]
    refine GCall_of (standOf_pc Y _ TB c ib B (by omega) rB sB nB) ?_   -- t111
    simp only [go_sem, hb0, hs, hb1, hg, hb2, hra, hb3, hrc, hb4, hmu, hb5, hml, hb6, hx, hv0, ha, hcc, hm]
    refine hR _ _ (kq16 _ _ ?_); clear hR R; try clear kq16 kz16
    try simp only [go_sem, hb0, hs, hb1, hg, hb2, hra, hb3, hrc, hb4, hmu, hb5, hml, hb6, hx, hv0, ha, hcc, hm]
    refine W_seq fun kz17 kq17 => ?_
    refine W_region [4, 5, 6, 7, 8, 9, 18, 19, 20, 21, 22, 23] fun R hR => ?_   -- r16
    simp only [go_sem, hb0, hs, hb1, hg, hb2, hra, hb3, hrc, hb4, hmu, hb5, hml, hb6, hx, hv0, ha, hcc, hm]
    refine GCall_of (standOf_pc Y _ TC c ic C (by omega) rC sC nC) ?_   -- t117
    simp only [go_sem, hb0, hs, hb1, hg, hb2, hra, hb3, hrc, hb4, hmu, hb5, hml, hb6, hx, hv0, ha, hcc, hm]
    refine hR _ _ (kq17 _ _ ?_); clear hR R; try clear kq17 kz17
    try simp only [go_sem, hb0, hs, hb1, hg, hb2, hra, hb3, hrc, hb4, hmu, hb5, hml, hb6, hx, hv0, ha, hcc, hm]
    refine W_seq fun kz18 kq18 => ?_
    refine W_seq fun kz19 kq19 => ?_
    refine W_region [4, 5, 6, 7, 8, 9, 18, 22, 169] fun R hR => ?_   -- r17
    simp only [go_sem, hb0, hs, hb1, hg, hb2, hra, hb3, hrc, hb4, hmu, hb5, hml, hb6, hx, hv0, ha, hcc, hm, e1, e2, e3, e4, e5, e6, e7, e8, e9, decide_false, bne_self_eq_false]
    refine hR _ _ (kq19 _ _ ?_); clear hR R; try clear kq19 kz19
    try simp only [go_sem, hb0, hs, hb1, hg, hb2, hra, hb3, hrc, hb4, hmu, hb5, hml, hb6, hx, hv0, ha, hcc, hm]
    refine W_cond rfl (fun c2 => ?_) (fun c2 => ?_)
    · -- c2 true
      try simp only [nrm] at c2
      exfalso
      first | omega | (simp at c2; done) | (simp at c2; omega)
    · -- c2 false
      try simp only [nrm] at c2
      refine W_skip (kq18 _ _ ?_)
      refine W_seq fun kz20 kq20 => ?_
      refine W_region [4, 5, 6, 7, 8, 9, 18, 22, 24, 25] fun R hR => ?_   -- r19
      simp only [go_sem, hb0, hs, hb1, hg, hb2, hra, hb3, hrc, hb4, hmu, hb5, hml, hb6, hx, hv0, ha, hcc, hm]
      refine hR _ _ (kq20 _ _ ?_); clear hR R; try clear kq20 kz20
      try simp only [go_sem, hb0, hs, hb1, hg, hb2, hra, hb3, hrc, hb4, hmu, hb5, hml, hb6, hx, hv0, ha, hcc, hm]
      refine W_seq fun kz21 kq21 => ?_
      refine W_seq fun kz22 kq22 => ?_
      refine W_region [4, 5, 6, 7, 8, 9, 18, 22, 24, 25, 26] fun R hR => ?_   -- r20
      simp only [go_sem, hb0, hs, hb1, hg, hb2, hra, hb3, hrc, hb4, hmu, hb5, hml, hb6, hx, hv0, ha, hcc, hm]
      refine hR _ _ (kq22 _ _ ?_); clear hR R; try clear kq22 kz22
      try simp only [go_sem, hb0, hs, hb1, hg, hb2, hra, hb3, hrc, hb4, hmu, hb5, hml, hb6, hx, hv0, ha, hcc, hm]
      refine W_block ?_
      refine W_loopS (α := Nat × Nat × Nat) (fun ⟨i, les, oth⟩ => [(24, I les), (25, I oth), (26, I i)]) (fun ⟨i, les, oth⟩ => i ≤ g.opened.length ∧ les = lesC g.opened a m v c i ∧ oth = othC g.opened m i) (fun ⟨i, les, oth⟩ => g.opened.length - i) ((0, 0, 0)) rfl (⟨Nat.zero_le _, by simp [lesC], by simp [othC]⟩) ?_
      rintro ⟨i, les, oth⟩ ⟨hi, hles, hoth⟩
      refine W_seq fun kz23 kq23 => ?_
      refine W_seq fun kz24 kq24 => ?_
      refine W_region [4, 5, 6, 7, 8, 9, 18, 22, 24, 25, 26, 174] fun R hR => ?_   -- r21
      simp only [go_sem, hb0, hs, hb1, hg, hb2, hra, hb3, hrc, hb4, hmu, hb5, hml, hb6, hx, hv0, ha, hcc, hm]
      refine hR _ _ (kq24 _ _ ?_); clear hR R; try clear kq24 kz24
      try simp only [go_sem, hb0, hs, hb1, hg, hb2, hra, hb3, hrc, hb4, hmu, hb5, hml, hb6, hx, hv0, ha, hcc, hm]
      refine W_cond rfl (fun c3 => ?_) (fun c3 => ?_)
      · -- c3 true
        try simp only [nrm] at c3
        have hiN : i < g.opened.length := by first | assumption | omega
        obtain ⟨y, hy⟩ : ∃ z, g.opened[i]? = some z := ⟨g.opened[i], by simp [hiN]⟩
        have hyl : c < y.marks.length := by have := (marked_ok (hnv.op y (List.mem_of_getElem? hy)).m).2.1; omega
        obtain ⟨w, hyv⟩ : ∃ z, y.marks[c]? = some z := ⟨y.marks[c], by simp [hyl]⟩
        have hls := lesC_succ (a := a) (m := (m : Int)) (v := v) (sc := c) hy
        have hos := othC_succ (m := (m : Int)) hy
        have hle := lesC_le g.opened a m v c i
        have hol := othC_le g.opened m i
        refine W_skip (kq23 _ _ ?_)
        refine W_seq fun kz25 kq25 => ?_
        refine W_block ?_
        refine W_seq fun kz26 kq26 => ?_
        refine W_region [4, 5, 6, 7, 8, 9, 18, 22, 24, 25, 26, 27] fun R hR => ?_   -- r23
        simp only [go_sem, hb0, hs, hb1, hg, hb2, hra, hb3, hrc, hb4, hmu, hb5, hml, hb6, hx, hv0, ha, hcc, hm, hy, hyv]
        refine hR _ _ (kq26 _ _ ?_); clear hR R; try clear kq26 kz26
        try simp only [go_sem, hb0, hs, hb1, hg, hb2, hra, hb3, hrc, hb4, hmu, hb5, hml, hb6, hx, hv0, ha, hcc, hm, hy, hyv]
        refine W_seq fun kz27 kq27 => ?_
        refine W_region [4, 5, 6, 7, 8, 9, 18, 22, 24, 25, 26, 27, 186] fun R hR => ?_   -- r24
        simp only [go_sem, hb0, hs, hb1, hg, hb2, hra, hb3, hrc, hb4, hmu, hb5, hml, hb6, hx, hv0, ha, hcc, hm, hy, hyv]
        refine hR _ _ (kq27 _ _ ?_); clear hR R; try clear kq27 kz27
        try simp only [go_sem, hb0, hs, hb1, hg, hb2, hra, hb3, hrc, hb4, hmu, hb5, hml, hb6, hx, hv0, ha, hcc, hm, hy, hyv]
        refine W_cond rfl (fun c4 => ?_) (fun c4 => ?_)
        · -- c4 true
          try simp only [nrm] at c4
          refine W_seq fun kz28 kq28 => ?_
          refine W_region [4, 5, 6, 7, 8, 9, 18, 22, 24, 25, 26, 27] fun R hR => ?_   -- r25
          simp only [go_sem, hb0, hs, hb1, hg, hb2, hra, hb3, hrc, hb4, hmu, hb5, hml, hb6, hx, hv0, ha, hcc, hm, hy, hyv]
          try simp (disch := omega) only [wrapI, wrapU]
          refine hR _ _ (kq28 _ _ ?_); clear hR R; try clear kq28 kz28
          try simp only [go_sem, hb0, hs, hb1, hg, hb2, hra, hb3, hrc, hb4, hmu, hb5, hml, hb6, hx, hv0, ha, hcc, hm, hy, hyv]
          refine W_seq fun kz29 kq29 => ?_
          refine W_regionJ [4, 5, 6, 7, 8, 9, 18, 22, 24, 25, 26, 200] [(200, .bool (decide (i ≠ a) && decide (v ≤ w)))] ?_ fun R hR => ?_   -- r26
          · refine kq29 _ _ ?_
            simp only [go_sem, hb0, hs, hb1, hg, hb2, hra, hb3, hrc, hb4, hmu, hb5, hml, hb6, hx, hv0, ha, hcc, hm, hy, hyv]
            refine W_cond rfl (fun c5 => ?_) (fun c5 => ?_)
            · -- c5 true
              try simp only [nrm] at c5
              refine W_region [4, 5, 6, 7, 8, 9, 18, 22, 24, 25, 26] fun R hR => ?_   -- r27
              simp only [go_sem, hb0, hs, hb1, hg, hb2, hra, hb3, hrc, hb4, hmu, hb5, hml, hb6, hx, hv0, ha, hcc, hm, hy, hyv]
              try simp (disch := omega) only [wrapI, wrapU]
              refine hR _ _ (kq25 _ _ ?_); clear hR R; try clear kq25 kz25
              try simp only [go_sem, hb0, hs, hb1, hg, hb2, hra, hb3, hrc, hb4, hmu, hb5, hml, hb6, hx, hv0, ha, hcc, hm, hy, hyv]
              refine W_region [4, 5, 6, 7, 8, 9, 18, 22, 24, 25, 26] fun R hR => ?_   -- r22
              simp only [go_sem, hb0, hs, hb1, hg, hb2, hra, hb3, hrc, hb4, hmu, hb5, hml, hb6, hx, hv0, ha, hcc, hm, hy, hyv]
              try simp (disch := omega) only [wrapI, wrapU]
              refine hR _ _ ?_; clear hR R
              try simp only [go_sem, hb0, hs, hb1, hg, hb2, hra, hb3, hrc, hb4, hmu, hb5, hml, hb6, hx, hv0, ha, hcc, hm, hy, hyv]
              refine ⟨(i + 1, les + 1, oth + 1), ?_, by (try simp only []); omega, ?_⟩
              · refine Weak.trans (Weak.cutX 9 0 (by omega) (by omega) hcl (by simp only [go_sem] <;> omega) (by simp only [go_sem] <;> omega)) ?_
                simp only [go_sem]
                exact Weak.eq (by first | rfl | (simp only [go_sem]; done) | (simp only [go_sem]; rfl) | (simp [go_sem]; done) | (simp [go_sem]; omega)) (by first | rfl | (simp only [go_sem]; done) | (simp [go_sem]; done))
              · try dsimp only
                refine ⟨by omega, ?_, ?_⟩
                · rw [hls, ← hles]; simp_all [leP, inM, mkF]
                · rw [hos, ← hoth]; simp_all
            · -- c5 false
              try simp only [nrm] at c5
              refine W_skip (kq25 _ _ ?_)
              refine W_region [4, 5, 6, 7, 8, 9, 18, 22, 24, 25, 26] fun R hR => ?_   -- r22
              simp only [go_sem, hb0, hs, hb1, hg, hb2, hra, hb3, hrc, hb4, hmu, hb5, hml, hb6, hx, hv0, ha, hcc, hm, hy, hyv]
              try simp (disch := omega) only [wrapI, wrapU]
              refine hR _ _ ?_; clear hR R
              try simp only [go_sem, hb0, hs, hb1, hg, hb2, hra, hb3, hrc, hb4, hmu, hb5, hml, hb6, hx, hv0, ha, hcc, hm, hy, hyv]
              refine ⟨(i + 1, les, oth + 1), ?_, by (try simp only []); omega, ?_⟩
              · refine Weak.trans (Weak.cutX 9 0 (by omega) (by omega) hcl (by simp only [go_sem] <;> omega) (by simp only [go_sem] <;> omega)) ?_
                simp only [go_sem]
                exact Weak.eq (by first | rfl | (simp only [go_sem]; done) | (simp only [go_sem]; rfl) | (simp [go_sem]; done) | (simp [go_sem]; omega)) (by first | rfl | (simp only [go_sem]; done) | (simp [go_sem]; done))
              · try dsimp only
                refine ⟨by omega, ?_, ?_⟩
                · rw [hls, ← hles]; simp_all [leP, inM, mkF]
                · rw [hos, ← hoth]; simp_all
          · simp only [go_sem, hb0, hs, hb1, hg, hb2, hra, hb3, hrc, hb4, hmu, hb5, hml, hb6, hx, hv0, ha, hcc, hm, hy, hyv]
            refine GWant_split (fun g1 => ?_) (fun g1 => ?_)
            · try simp only [Bool.not_eq_true', Bool.not_eq_false'] at g1
              have n1 := g1; try simp only [nrm] at n1
              simp only [go_sem, hb0, hs, hb1, hg, hb2, hra, hb3, hrc, hb4, hmu, hb5, hml, hb6, hx, hv0, ha, hcc, hm, hy, hyv, g1]
              refine hR _ ?_
              all_goals try simp only [go_sem, hb0, hs, hb1, hg, hb2, hra, hb3, hrc, hb4, hmu, hb5, hml, hb6, hx, hv0, ha, hcc, hm, hy, hyv]
              all_goals
                first | rfl | (simp [mkF, hyv, *]; done) | (simp_all; done)
            · try simp only [Bool.not_eq_true', Bool.not_eq_false'] at g1
              have n1 := g1; try simp only [nrm] at n1
              simp only [go_sem, hb0, hs, hb1, hg, hb2, hra, hb3, hrc, hb4, hmu, hb5, hml, hb6, hx, hv0, ha, hcc, hm, hy, hyv, g1]
              refine hR _ ?_
              all_goals try simp only [go_sem, hb0, hs, hb1, hg, hb2, hra, hb3, hrc, hb4, hmu, hb5, hml, hb6, hx, hv0, ha, hcc, hm, hy, hyv]
              all_goals
                first | rfl | (simp [mkF, hyv, *]; done) | (simp_all; done)
        · -- c4 false
          try simp only [nrm] at c4
          refine W_skip (kq25 _ _ ?_)
          refine W_region [4, 5, 6, 7, 8, 9, 18, 22, 24, 25, 26] fun R hR => ?_   -- r22
          simp only [go_sem, hb0, hs, hb1, hg, hb2, hra, hb3, hrc, hb4, hmu, hb5, hml, hb6, hx, hv0, ha, hcc, hm, hy, hyv]
          try simp (disch := omega) only [wrapI, wrapU]
          refine hR _ _ ?_; clear hR R
          try simp only [go_sem, hb0, hs, hb1, hg, hb2, hra, hb3, hrc, hb4, hmu, hb5, hml, hb6, hx, hv0, ha, hcc, hm, hy, hyv]
          refine ⟨(i + 1, les, oth), ?_, by (try simp only []); omega, ?_⟩
          · refine Weak.trans (Weak.cutX 9 0 (by omega) (by omega) hcl (by simp only [go_sem] <;> omega) (by simp only [go_sem] <;> omega)) ?_
            simp only [go_sem]
            exact Weak.eq (by first | rfl | (simp only [go_sem]; done) | (simp only [go_sem]; rfl) | (simp [go_sem]; done) | (simp [go_sem]; omega)) (by first | rfl | (simp only [go_sem]; done) | (simp [go_sem]; done))
          · try dsimp only
            refine ⟨by omega, ?_, ?_⟩
            · rw [hls, ← hles]; simp_all [leP, inM, mkF]
            · rw [hos, ← hoth]; simp_all
      · -- c3 false
        try simp only [nrm] at c3
        have hie : i = g.opened.length := by omega
        subst hie
        rw [← hles] at hdr
        rw [← hoth] at hdr
        refine W_exit ?_
        simp only [go_sem, hb0, hs, hb1, hg, hb2, hra, hb3, hrc, hb4, hmu, hb5, hml, hb6, hx, hv0, ha, hcc, hm]
        refine kq21 _ _ ?_
        refine W_seq fun kz30 kq30 => ?_
        refine W_seq fun kz31 kq31 => ?_
        refine W_drawJ [230] [(230, .bool false)] [0, 1, 2, 3, 4, 5, 6, 7, 8, 9, 10, 11, 12, 13, 14, 15, 16, 17, 18, 19, 20, 21, 22, 23, 24, 25, 26, 27] [] [[], [], [1], [0, 1, 2], [0, 1, 2, 3], [0, 1, 2, 3, 4], [0, 1, 2, 3, 4], [0, 1, 2, 3, 4, 6], [0, 1, 2, 3, 4], [0, 1, 2, 3, 4, 8], [0, 1, 2, 3, 4, 6, 7, 8, 9], [0, 1, 2, 3, 4, 5, 6, 7, 8, 9, 10], [0, 1, 2, 3, 4, 5, 6, 7, 8, 9, 10, 11], [0, 1, 2, 3, 4, 5, 6, 7, 8, 9, 10, 11, 12], [0, 1, 2, 3, 4, 5, 6, 7, 8, 9, 10, 11, 12, 13], [0, 1, 2, 3, 4, 5, 6, 7, 8, 9, 10, 11, 12, 13, 14], [0, 1, 2, 3, 4, 5, 6, 7, 8, 9, 10, 11, 12, 13], [0, 1, 2, 3, 4, 5, 6, 7, 8, 9, 10, 11, 12, 13, 16], [0, 1, 2, 3, 4, 5, 6, 7, 8, 9, 10, 11, 12, 13, 14, 15, 16, 17], [0, 1, 2, 3, 4, 5, 6, 7, 8, 9, 10, 11, 12, 13, 14, 15, 16, 17, 18], [0, 1, 2, 3, 4, 5, 6, 7, 8, 9, 10, 11, 12, 13], [0, 1, 2, 3, 4, 5, 6, 7, 8, 9, 10, 11, 12, 13, 20], [0, 1, 2, 3, 4, 5, 6, 7, 8, 9, 10, 11, 12, 13], [0, 1, 2, 3, 4, 5, 6, 7, 8, 9, 10, 11, 12, 13, 22], [0, 1, 2, 3, 4, 5, 6, 7, 8, 9, 10, 11, 12, 13, 20, 21, 22, 23], [0, 1, 2, 3, 4, 5, 6, 7, 8, 9, 10, 11, 12, 13, 20, 21, 22, 23, 24], [0, 1, 2, 3, 4, 5, 6, 7, 8, 9, 10, 11, 12, 13, 14, 15, 16, 17, 18, 19, 20, 21, 22, 23, 24, 25], [0, 1, 2, 3, 4, 5, 6, 7, 8, 9, 10, 11, 12, 13, 14, 15, 16, 17, 18, 19, 20, 21, 22, 23, 24, 25, 26]] mixed (by kernel_rfl) ?_ fun R hR => ?_   -- r28
        · refine kq31 _ _ ?_
          simp only [go_sem, hb0, hs, hb1, hg, hb2, hra, hb3, hrc, hb4, hmu, hb5, hml, hb6, hx, hv0, ha, hcc, hm]
          refine W_cond rfl (fun c6 => ?_) (fun c6 => ?_)
          · -- c6 true
            try simp only [nrm] at c6
            exfalso
            simp at c6
          · -- c6 false
            try simp only [nrm] at c6
            refine W_skip (kq30 _ _ ?_)
            refine W_seq fun kz32 kq32 => ?_
            refine W_region [2] fun R hR => ?_   -- r30
            simp only [go_sem, hb0, hs, hb1, hg, hb2, hra, hb3, hrc, hb4, hmu, hb5, hml, hb6, hx, hv0, ha, hcc, hm]
            refine GCall_of (awake_pc Y _) ?_   -- t231
            simp only [go_sem, hb0, hs, hb1, hg, hb2, hra, hb3, hrc, hb4, hmu, hb5, hml, hb6, hx, hv0, ha, hcc, hm]
            refine hR _ _ (kq32 _ _ ?_); clear hR R; try clear kq32 kz32
            try simp only [go_sem, hb0, hs, hb1, hg, hb2, hra, hb3, hrc, hb4, hmu, hb5, hml, hb6, hx, hv0, ha, hcc, hm]
            refine W_ret ?_
            simp only [go_sem, hb0, hs, hb1, hg, hb2, hra, hb3, hrc, hb4, hmu, hb5, hml, hb6, hx, hv0, ha, hcc, hm]
            refine ⟨.inr (by trivial), ?_⟩
            first | refine Fin_same hcl rfl (Wk_eq ?_ (by simp only [go_sem])) | refine Fin_self hcl rfl (Wk_eq ?_ (by simp only [go_sem]))
            try simp only [go_sem]
            all_goals
              first | rfl | (simp_all; done)
        · simp only [go_sem, hb0, hs, hb1, hg, hb2, hra, hb3, hrc, hb4, hmu, hb5, hml, hb6, hx, hv0, ha, hcc, hm, ptA, ptC]
          refine GWant_split (fun g2 => ?_) (fun g2 => ?_)
          · try simp only [Bool.not_eq_true', Bool.not_eq_false'] at g2
            have n2 := g2; try simp only [nrm] at n2
            simp only [go_sem, hb0, hs, hb1, hg, hb2, hra, hb3, hrc, hb4, hmu, hb5, hml, hb6, hx, hv0, ha, hcc, hm, ptA, ptC, g2]
            refine GWant_split (fun g3 => ?_) (fun g3 => ?_)
            · try simp only [Bool.not_eq_true', Bool.not_eq_false'] at g3
              have n3 := g3; try simp only [nrm] at n3
              try simp (disch := omega) only [wrapI, wrapU] at n3
              simp only [go_sem, hb0, hs, hb1, hg, hb2, hra, hb3, hrc, hb4, hmu, hb5, hml, hb6, hx, hv0, ha, hcc, hm, ptA, ptC, g2, g3]
              try simp (disch := omega) only [wrapI, wrapU]
              try refine And.intro (by repeat' (first | refine And.intro ?_ ?_ | exact GOr_right (fun _ => by simp only [go_sem, hb0, hs, hb1, hg, hb2, hra, hb3, hrc, hb4, hmu, hb5, hml, hb6, hx, hv0, ha, hcc, hm, ptA, ptC]))) ?_
              refine hR _ ?_
              all_goals try simp only [go_sem, hb0, hs, hb1, hg, hb2, hra, hb3, hrc, hb4, hmu, hb5, hml, hb6, hx, hv0, ha, hcc, hm, ptA, ptC]
              all_goals
                first | rfl | (simp_all; done) | (simp_all; omega)
            · try simp only [Bool.not_eq_true', Bool.not_eq_false'] at g3
              have n3 := g3; try simp only [nrm] at n3
              try simp (disch := omega) only [wrapI, wrapU] at n3
              simp only [go_sem, hb0, hs, hb1, hg, hb2, hra, hb3, hrc, hb4, hmu, hb5, hml, hb6, hx, hv0, ha, hcc, hm, ptA, ptC, g2, g3]
              try simp (disch := omega) only [wrapI, wrapU]
              try refine And.intro (by repeat' (first | refine And.intro ?_ ?_ | exact GOr_right (fun _ => by simp only [go_sem, hb0, hs, hb1, hg, hb2, hra, hb3, hrc, hb4, hmu, hb5, hml, hb6, hx, hv0, ha, hcc, hm, ptA, ptC]))) ?_
              refine hR _ ?_
              all_goals try simp only [go_sem, hb0, hs, hb1, hg, hb2, hra, hb3, hrc, hb4, hmu, hb5, hml, hb6, hx, hv0, ha, hcc, hm, ptA, ptC]
              all_goals
                first | rfl | (simp_all; done) | (simp_all; omega)
          · try simp only [Bool.not_eq_true', Bool.not_eq_false'] at g2
            have n2 := g2; try simp only [nrm] at n2
            simp only [go_sem, hb0, hs, hb1, hg, hb2, hra, hb3, hrc, hb4, hmu, hb5, hml, hb6, hx, hv0, ha, hcc, hm, ptA, ptC, g2]
            try simp (disch := omega) only [wrapI, wrapU]
            try refine And.intro (by repeat' (first | refine And.intro ?_ ?_ | exact GOr_right (fun _ => by simp only [go_sem, hb0, hs, hb1, hg, hb2, hra, hb3, hrc, hb4, hmu, hb5, hml, hb6, hx, hv0, ha, hcc, hm, ptA, ptC]))) ?_
            refine hR _ ?_
            all_goals try simp only [go_sem, hb0, hs, hb1, hg, hb2, hra, hb3, hrc, hb4, hmu, hb5, hml, hb6, hx, hv0, ha, hcc, hm, ptA, ptC]
            all_goals
              first | rfl | (simp_all; done) | (simp_all; omega)
end Go.Proofs.YtgelnjmddabgpaaGreat
