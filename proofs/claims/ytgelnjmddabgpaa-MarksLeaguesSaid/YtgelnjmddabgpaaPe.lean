/-
  Walks: standings sorted, as the library does it with few of them (marks).
  Walks: places, who wins, the table (marks).
  Walks: the table of a night that is decided (marks).
  Walks: lists compared; the chapter's examples.
  Walks: scales and seals, as the document has them.
  Walks: leagues of the next season (marks).
  Numbers that follow from numbers (bateriakit): the drum.
  Walks: drums made of numbers, spans (bateriakit).
  Walks: an order made of numbers (bateriakit).
  Walks: scales, marks, envelopes made of numbers (bateriakit).
  Walks: nights made of numbers (bateriakit).
  Walks: leagues made of numbers (bateriakit).
  Leagues of the next season: who moves, and how many. The plain law.
  Walks: leagues of the next season, as the document has them.
  Walks: the chapter's examples checked.
  The law MarksMoves, walked: leagues of the next season.
  The law MarksLeagues, walked: who moves up and down.
-/
import Derived.Test.YtgelnjmddabgpaaPd
import Derived.CallsIn
import Derived.RangeFuncLeaves
import Derived.RangeFuncRecord
import Derived.OrdersIn
import Derived.Below
import Derived.Laws.World
import Derived.Laws.StructEq
import Derived.Laws.Append
import Derived.MapKept
import Derived.ProofKit
import Derived.Carry
import Derived.Handed
import Derived.ChangeCalls
import Derived.RangeFuncIn
import Derived.RangeFuncNested
import Derived.Test.YtgelnjmddabgpaaProg
import Derived.KernelRfl
import Derived.IntWalk
import Derived.Test.YtgelnjmddabgpaaRows
import Derived.Sort.OwnSortedInts
import Derived.Lib.SlicesCompact
import Derived.Shelf.Sort.Plain
import Derived.Shelf.Slices.In.SortNone
import Derived.Shelf.Small.Bits
import Derived.JoinedOf
set_option linter.unusedSimpArgs false
set_option linter.unusedVariables false
namespace Go.Proofs.Ytgelnjmddabgpaa
open Go Go.RowKit
set_option maxRecDepth 100000
theorem row3_cons (x : Stand) (l : List Stand) : rowC ((x :: l).map sdPV) = I x.school :: I x.total :: ints x.points :: rowC (l.map sdPV) := by simp [rowC, sdPV, sdCells]
theorem row3_len : ∀ l : List Stand, (rowC (l.map sdPV)).length = l.length * 3 := by
  intro l
  induction l with
  | nil => rfl
  | cons x l ih => rw [row3_cons]; simp only [List.length_cons, ih]; omega
theorem row3_ld : ∀ {l : List Stand} {j : Nat} {x : Stand}, l[j]? = some x → ((rowC (l.map sdPV)).drop (j * 3)).take 3 = [I x.school, I x.total, ints x.points] := by
  intro l
  induction l with
  | nil => intro j x h; simp at h
  | cons y l ih =>
    intro j x h
    rw [row3_cons]
    cases j with
    | zero =>
      simp only [List.getElem?_cons_zero, Option.some.injEq] at h
      subst h
      simp
    | succ j =>
      simp only [List.getElem?_cons_succ] at h
      rw [show (j + 1) * 3 = j * 3 + 1 + 1 + 1 by omega]
      simp only [List.drop_succ_cons]
      exact ih h
theorem row3_put (x : Stand) : ∀ {l : List Stand} {j : Nat}, j < l.length → (((rowC (l.map sdPV)).set (j * 3) (I x.school)).set (j * 3 + 1) (I x.total)).set (j * 3 + 1 + 1) (ints x.points) = rowC ((l.set j x).map sdPV) := by
  intro l
  induction l with
  | nil => intro j h; simp at h
  | cons y l ih =>
    intro j h
    rw [row3_cons]
    cases j with
    | zero =>
      have e : (y :: l).set 0 x = x :: l := rfl
      rw [e, row3_cons]; simp
    | succ j =>
      rw [List.set_cons_succ, row3_cons, show (j + 1) * 3 = j * 3 + 1 + 1 + 1 by omega]
      simp only [List.set_cons_succ]
      rw [ih (by simpa using h)]
theorem cA_row3 {a b c : Nat} {l : List Stand} : CleanAll a b c (rowC (l.map sdPV)) = True := eq_true fun p hp => by
  simp only [rowC, List.mem_flatMap, List.mem_map] at hp
  obtain ⟨q, ⟨x, _, rfl⟩, hp⟩ := hp
  exact cleans_sd x p hp
attribute [go_sem] cA_row3
theorem ld3 {σ : Sg} {id : Nat} (hlt : id < σ.store.length) {l : List Stand} {j : Nat} {x : Stand} (h : l[j]? = some x) : ldA 3 (σ.setVar id (rowC (l.map sdPV))) id (j * 3) = some (.agg [I x.school, I x.total, ints x.points]) := by
  have hj := (List.getElem?_eq_some_iff.1 h).1
  rw [ldA_at (sv_get hlt), if_pos (by rw [row3_len]; omega), row3_ld h]
/-- One standing sinks to its place. -/
def sink (ord : List Int) : Nat → List Stand → List Stand
  | 0, l => l
  | j + 1, l => match l[j + 1]?, l[j]? with
    | some x, some y => if cmpSt ord x y < 0 then sink ord j ((l.set (j + 1) y).set j x) else l
    | _, _ => l
def sinkAll (ord : List Int) : Nat → Nat → List Stand → List Stand
  | 0, _, l => l
  | k + 1, i, l => sinkAll ord k (i + 1) (sink ord i l)
def sortSd (ord : List Int) (l : List Stand) : List Stand := sinkAll ord (l.length - 1) 1 l
theorem mem_set2 {α : Type} {l : List α} {i j : Nat} {x y z : α} (hx : l[i]? = some x) (hy : l[j]? = some y) (h : z ∈ (l.set i y).set j x) : z ∈ l := by
  rcases List.mem_or_eq_of_mem_set h with h | h
  · rcases List.mem_or_eq_of_mem_set h with h | h
    · exact h
    · exact h ▸ List.mem_of_getElem? hy
  · exact h ▸ List.mem_of_getElem? hx
set_option maxHeartbeats 4000000 in
theorem insSort_pc (Y : YEnv) (σ : Sg) (id : Nat) (ord : List Int) (l : List Stand) (hd : σ.store[id]? = some (some (rowC (l.map sdPV)))) (hC : ∀ a b, a ∈ l → b ∈ l → CmpOk ord a b) (hol : ord.length < 2 ^ 40) (hl : 0 < l.length ∧ l.length ≤ 12) :
    PC Try.prog Y 82 [.gsl id l.length 3, I 0, I l.length, .func (.func 42) [.agg [ints ord]] []] σ (.tuple []) (σ.setVar id (rowC ((sortSd ord l).map sdPV))) := by
  refine PC_of_W Try.func82 rfl (by kernel_rfl) Try.ntmps82 (by simp) fun hcl hca => ?_
  have hlt := lt_of_get hd
  obtain ⟨res, hres⟩ : ∃ r, sortSd ord l = r := ⟨_, rfl⟩
  rw [hres]
  obtain ⟨n, hn⟩ : ∃ z, l.length = z := ⟨_, rfl⟩
  rw [hn] at hl ⊢
  refine W_seq fun kz1 kq1 => ?_
  refine W_region [0, 1, 2, 3, 8] fun R hR => ?_   -- r0
  simp only [go_sem, ldS_at hd, stX_at hd, ldS_sv hlt, stX_sv hlt, sv_ext hlt, sv_ext_sv hlt]
  try simp (disch := omega) only [wrapI, wrapU]
  refine hR _ _ (kq1 _ _ ?_); clear hR R; try clear kq1 kz1
  try simp only [go_sem, ldS_at hd, stX_at hd, ldS_sv hlt, stX_sv hlt, sv_ext hlt, sv_ext_sv hlt]
  refine W_block ?_
  refine W_loopT (α := Nat × (List Stand)) (fun ⟨i, m⟩ => [(8, I i)]) (fun ⟨i, m⟩ => σ.setVar id (rowC (m.map sdPV))) (fun ⟨i, m⟩ => 1 ≤ i ∧ i ≤ n ∧ m.length = n ∧ (∀ x, x ∈ m → x ∈ l) ∧ res = sinkAll ord (n - i) i m) (fun ⟨i, m⟩ => n - i) ((1, l)) rfl (by show σ.setVar id _ = σ; exact sv_self hd) (⟨Nat.le_refl _, by omega, hn, fun x hx => hx, by rw [← hres, sortSd, hn]⟩) ?_
  rintro ⟨i, m⟩ ⟨hi1, hi, hml, hmm, hinv⟩
  refine W_seq fun kz2 kq2 => ?_
  refine W_seq fun kz3 kq3 => ?_
  refine W_region [0, 1, 2, 3, 8, 14] fun R hR => ?_   -- r1
  simp only [go_sem, ldS_at hd, stX_at hd, ldS_sv hlt, stX_sv hlt, sv_ext hlt, sv_ext_sv hlt]
  refine hR _ _ (kq3 _ _ ?_); clear hR R; try clear kq3 kz3
  try simp only [go_sem, ldS_at hd, stX_at hd, ldS_sv hlt, stX_sv hlt, sv_ext hlt, sv_ext_sv hlt]
  refine W_cond rfl (fun c1 => ?_) (fun c1 => ?_)
  · -- c1 true
    try simp only [nrm] at c1
    have hin : i < n := by first | omega | (simp at c1; omega)
    rw [show n - i = (n - (i + 1)) + 1 by omega] at hinv
    simp only [sinkAll] at hinv
    refine W_skip (kq2 _ _ ?_)
    refine W_seq fun kz4 kq4 => ?_
    refine W_block ?_
    refine W_seq fun kz5 kq5 => ?_
    refine W_region [0, 1, 2, 3, 8, 9] fun R hR => ?_   -- r3
    simp only [go_sem, ldS_at hd, stX_at hd, ldS_sv hlt, stX_sv hlt, sv_ext hlt, sv_ext_sv hlt]
    refine hR _ _ (kq5 _ _ ?_); clear hR R; try clear kq5 kz5
    try simp only [go_sem, ldS_at hd, stX_at hd, ldS_sv hlt, stX_sv hlt, sv_ext hlt, sv_ext_sv hlt]
    refine W_block ?_
    refine W_loopT (α := Nat × (List Stand)) (fun ⟨j, m2⟩ => [(9, I j)]) (fun ⟨j, m2⟩ => σ.setVar id (rowC (m2.map sdPV))) (fun ⟨j, m2⟩ => j ≤ i ∧ m2.length = n ∧ (∀ x, x ∈ m2 → x ∈ l) ∧ sink ord i m = sink ord j m2) (fun ⟨j, m2⟩ => j) ((i, m)) rfl (by first | rfl | (simp only [go_sem]; done) | (simp only [go_sem]; rfl)) (⟨Nat.le_refl _, hml, hmm, rfl⟩) ?_
    rintro ⟨j, m2⟩ ⟨hj, hm2l, hm2, hsk⟩
    refine W_seq fun kz6 kq6 => ?_
    refine W_seq fun kz7 kq7 => ?_
    refine W_draw [0, 1, 2, 3, 8, 9, 34] [0, 1, 2, 3, 4, 5, 6, 7, 8, 9, 10, 11, 12, 13, 14, 15, 16] [] [[], [], [0, 1], [0, 1, 2], [0, 1, 2, 3], [0, 1, 2, 3], [0, 1, 2, 3], [0, 1, 2, 3, 5, 6], [0, 1, 2, 3, 5, 6, 7], [0, 1, 2, 3], [0, 1, 2, 3], [0, 1, 2, 3, 10], [0, 1, 2, 3, 9, 10, 11], [0, 1, 2, 3, 9, 10, 11, 12], [0, 1, 2, 3, 4, 5, 6, 7, 8, 9, 10, 11, 12, 13], [0, 1, 2, 3, 4, 5, 6, 7, 8, 9, 10, 11, 12, 13, 14], [0, 1, 2, 3, 4, 5, 6, 7, 8, 9, 10, 11, 12, 13, 14, 15]] mixed (by kernel_rfl) fun R hR => ?_   -- r4
    simp only [go_sem, ldS_at hd, stX_at hd, ldS_sv hlt, stX_sv hlt, sv_ext hlt, sv_ext_sv hlt]
    refine GWant_split (fun g1 => ?_) (fun g1 => ?_)
    · try simp only [Bool.not_eq_true', Bool.not_eq_false'] at g1
      have n1 := g1; try simp only [nrm] at n1
      obtain ⟨q, rfl⟩ : ∃ q, j = q + 1 := ⟨j - 1, by first | omega | (simp at g1; omega)⟩
      obtain ⟨x, hx⟩ : ∃ z, m2[q + 1]? = some z := ⟨m2[q + 1]'(by omega), by simp⟩
      obtain ⟨y, hy⟩ : ∃ z, m2[q]? = some z := ⟨m2[q]'(by omega), by simp⟩
      have hsk2 : sink ord (q + 1) m2 = if cmpSt ord x y < 0 then sink ord q ((m2.set (q + 1) y).set q x) else m2 := by simp only [sink, hx, hy]
      have hq1 : ((q + 1 : Nat) : Int) < (n : Int) := by omega
      have hq0 : ((q : Nat) : Int) < (n : Int) := by omega
      have hz1 : (0 : Int) ≤ ((q + 1 : Nat) : Int) := by omega
      have hqw : IntKind.i64.wrap (((q + 1 : Nat) : Int) - 1) = (q : Int) := by rw [wrapI (by omega) (by omega)]; omega
      have l1 := ld3 hlt hx
      have l2 := ld3 hlt hy
      have s1 : decide ((q + 1) * 3 + 3 ≤ (rowC (List.map sdPV m2)).length) = true := by rw [row3_len]; simp; omega
      have s2 : decide (q * 3 + 3 ≤ (rowC (List.map sdPV (m2.set (q + 1) y))).length) = true := by rw [row3_len]; simp; omega
      have s3 := row3_put y (l := m2) (j := q + 1) (by omega)
      have s4 := row3_put x (l := m2.set (q + 1) y) (j := q) (by simp; omega)
      simp only [go_sem, ldS_at hd, stX_at hd, ldS_sv hlt, stX_sv hlt, sv_ext hlt, sv_ext_sv hlt, hqw, hq1, hq0, iaM_nat (Int.ofNat_lt.1 hq1), iaM_nat (Int.ofNat_lt.1 hq0), Nat.zero_add, l1, l2, s1, s2, s3, s4, g1]
      try simp (disch := omega) only [wrapI, wrapU]
      refine GCall_of (compare_pc Y _ ord x y (hC x y (hm2 x (List.mem_of_getElem? hx)) (hm2 y (List.mem_of_getElem? hy))) hol) ?_   -- t32
      simp only [go_sem, ldS_at hd, stX_at hd, ldS_sv hlt, stX_sv hlt, sv_ext hlt, sv_ext_sv hlt, hqw, hq1, hq0, iaM_nat (Int.ofNat_lt.1 hq1), iaM_nat (Int.ofNat_lt.1 hq0), Nat.zero_add, l1, l2, s1, s2, s3, s4, g1]
      try simp (disch := omega) only [wrapI, wrapU]
      try refine And.intro (by repeat' (first | refine And.intro ?_ ?_ | exact GOr_right (fun _ => by simp only [go_sem, ldS_at hd, stX_at hd, ldS_sv hlt, stX_sv hlt, sv_ext hlt, sv_ext_sv hlt, hqw, hq1, hq0, iaM_nat (Int.ofNat_lt.1 hq1), iaM_nat (Int.ofNat_lt.1 hq0), Nat.zero_add, l1, l2, s1, s2, s3, s4]))) ?_
      refine hR _ _ (kq7 _ _ ?_); clear hR R; try clear kq7 kz7
      try simp only [go_sem, ldS_at hd, stX_at hd, ldS_sv hlt, stX_sv hlt, sv_ext hlt, sv_ext_sv hlt, hqw, hq1, hq0, iaM_nat (Int.ofNat_lt.1 hq1), iaM_nat (Int.ofNat_lt.1 hq0), Nat.zero_add, l1, l2, s1, s2, s3, s4]
      refine W_cond rfl (fun c2 => ?_) (fun c2 => ?_)
      · -- c2 true
        try simp only [nrm] at c2
        skip
        refine W_skip (kq6 _ _ ?_)
        refine W_seq fun kz8 kq8 => ?_
        refine W_block ?_
        refine W_draw [0, 1, 2, 3, 8, 9] [0, 1, 2, 3, 4, 5, 6, 7, 8, 9, 10, 11, 12, 13, 14, 15, 16, 17] [(2, 17), (3, 17), (4, 17)] [[], [], [], [], [3], [], [], [6], [5, 6, 7], [5, 6, 7, 8], [], [], [10, 11], [10, 11, 12], [0, 1, 5, 6, 7, 8, 9, 10, 11, 12, 13], [0, 1, 5, 6, 7, 8, 9, 10, 11, 12, 13, 14], [0, 1, 2, 3, 4, 5, 6, 7, 8, 9, 10, 11, 12, 13, 14, 15], [0, 1, 2, 3, 4, 5, 6, 7, 8, 9, 10, 11, 12, 13, 14, 15, 16]] mixed (by kernel_rfl) fun R hR => ?_   -- r6
        simp only [go_sem, ldS_at hd, stX_at hd, ldS_sv hlt, stX_sv hlt, sv_ext hlt, sv_ext_sv hlt, hqw, hq1, hq0, iaM_nat (Int.ofNat_lt.1 hq1), iaM_nat (Int.ofNat_lt.1 hq0), Nat.zero_add, l1, l2, s1, s2, s3, s4]
        try simp (disch := omega) only [wrapI, wrapU]
        try refine And.intro (by repeat' (first | refine And.intro ?_ ?_ | exact GOr_right (fun _ => by simp only [go_sem, ldS_at hd, stX_at hd, ldS_sv hlt, stX_sv hlt, sv_ext hlt, sv_ext_sv hlt, hqw, hq1, hq0, iaM_nat (Int.ofNat_lt.1 hq1), iaM_nat (Int.ofNat_lt.1 hq0), Nat.zero_add, l1, l2, s1, s2, s3, s4]))) ?_
        refine hR _ _ (kq8 _ _ ?_); clear hR R; try clear kq8 kz8
        try simp only [go_sem, ldS_at hd, stX_at hd, ldS_sv hlt, stX_sv hlt, sv_ext hlt, sv_ext_sv hlt, hqw, hq1, hq0, iaM_nat (Int.ofNat_lt.1 hq1), iaM_nat (Int.ofNat_lt.1 hq0), Nat.zero_add, l1, l2, s1, s2, s3, s4]
        refine W_region [0, 1, 2, 3, 8, 9] fun R hR => ?_   -- r5
        simp only [go_sem, ldS_at hd, stX_at hd, ldS_sv hlt, stX_sv hlt, sv_ext hlt, sv_ext_sv hlt, hqw, hq1, hq0, iaM_nat (Int.ofNat_lt.1 hq1), iaM_nat (Int.ofNat_lt.1 hq0), Nat.zero_add, l1, l2, s1, s2, s3, s4]
        try simp (disch := omega) only [wrapI, wrapU]
        refine hR _ _ ?_; clear hR R
        try simp only [go_sem, ldS_at hd, stX_at hd, ldS_sv hlt, stX_sv hlt, sv_ext hlt, sv_ext_sv hlt, hqw, hq1, hq0, iaM_nat (Int.ofNat_lt.1 hq1), iaM_nat (Int.ofNat_lt.1 hq0), Nat.zero_add, l1, l2, s1, s2, s3, s4]
        refine ⟨(q, (m2.set (q + 1) y).set q x), ?_, by (try simp only []); omega, ?_⟩
        · first | exact Weak.refl | exact Weak.eq (by first | rfl | (simp only [go_sem]; done) | (simp only [go_sem]; rfl) | (simp [go_sem]; done) | (simp [go_sem]; omega)) (by first | rfl | (simp only [go_sem]; done) | (simp [go_sem]; done))
        · try dsimp only
          refine ⟨by omega, by simp [hm2l], fun z hz => hm2 z (mem_set2 hx hy hz), ?_⟩
          rw [hsk, hsk2, if_pos (by simpa using c2)]
      · -- c2 false
        try simp only [nrm] at c2
        skip
        refine W_exit ?_
        simp only [go_sem, ldS_at hd, stX_at hd, ldS_sv hlt, stX_sv hlt, sv_ext hlt, sv_ext_sv hlt, hqw, hq1, hq0, iaM_nat (Int.ofNat_lt.1 hq1), iaM_nat (Int.ofNat_lt.1 hq0), Nat.zero_add, l1, l2, s1, s2, s3, s4]
        refine kq4 _ _ ?_
        refine W_region [0, 1, 2, 3, 8] fun R hR => ?_   -- r2
        simp only [go_sem, ldS_at hd, stX_at hd, ldS_sv hlt, stX_sv hlt, sv_ext hlt, sv_ext_sv hlt, hqw, hq1, hq0, iaM_nat (Int.ofNat_lt.1 hq1), iaM_nat (Int.ofNat_lt.1 hq0), Nat.zero_add, l1, l2, s1, s2, s3, s4]
        try simp (disch := omega) only [wrapI, wrapU]
        refine hR _ _ ?_; clear hR R
        try simp only [go_sem, ldS_at hd, stX_at hd, ldS_sv hlt, stX_sv hlt, sv_ext hlt, sv_ext_sv hlt, hqw, hq1, hq0, iaM_nat (Int.ofNat_lt.1 hq1), iaM_nat (Int.ofNat_lt.1 hq0), Nat.zero_add, l1, l2, s1, s2, s3, s4]
        refine ⟨(i + 1, m2), ?_, by (try simp only []); omega, ?_⟩
        · first | exact Weak.refl | exact Weak.eq (by first | rfl | (simp only [go_sem]; done) | (simp only [go_sem]; rfl) | (simp [go_sem]; done) | (simp [go_sem]; omega)) (by first | rfl | (simp only [go_sem]; done) | (simp [go_sem]; done))
        · try dsimp only
          refine ⟨by omega, by omega, hm2l, hm2, ?_⟩
          rw [hinv, hsk]
          first
          | rw [hsk2, if_neg (by simpa using c2)]
          | (have hj0 : j = 0 := by first | omega | (simp at g1; omega)
             subst hj0; rfl)
    · try simp only [Bool.not_eq_true', Bool.not_eq_false'] at g1
      have n1 := g1; try simp only [nrm] at n1
      simp only [go_sem, ldS_at hd, stX_at hd, ldS_sv hlt, stX_sv hlt, sv_ext hlt, sv_ext_sv hlt, g1]
      try simp (disch := omega) only [wrapI, wrapU]
      try refine And.intro (by repeat' (first | refine And.intro ?_ ?_ | exact GOr_right (fun _ => by simp only [go_sem, ldS_at hd, stX_at hd, ldS_sv hlt, stX_sv hlt, sv_ext hlt, sv_ext_sv hlt]))) ?_
      refine hR _ _ (kq7 _ _ ?_); clear hR R; try clear kq7 kz7
      try simp only [go_sem, ldS_at hd, stX_at hd, ldS_sv hlt, stX_sv hlt, sv_ext hlt, sv_ext_sv hlt]
      refine W_cond_false rfl ?_
      refine W_exit ?_
      simp only [go_sem, ldS_at hd, stX_at hd, ldS_sv hlt, stX_sv hlt, sv_ext hlt, sv_ext_sv hlt]
      refine kq4 _ _ ?_
      refine W_region [0, 1, 2, 3, 8] fun R hR => ?_   -- r2
      simp only [go_sem, ldS_at hd, stX_at hd, ldS_sv hlt, stX_sv hlt, sv_ext hlt, sv_ext_sv hlt]
      try simp (disch := omega) only [wrapI, wrapU]
      refine hR _ _ ?_; clear hR R
      try simp only [go_sem, ldS_at hd, stX_at hd, ldS_sv hlt, stX_sv hlt, sv_ext hlt, sv_ext_sv hlt]
      refine ⟨(i + 1, m2), ?_, by (try simp only []); omega, ?_⟩
      · first | exact Weak.refl | exact Weak.eq (by first | rfl | (simp only [go_sem]; done) | (simp only [go_sem]; rfl) | (simp [go_sem]; done) | (simp [go_sem]; omega)) (by first | rfl | (simp only [go_sem]; done) | (simp [go_sem]; done))
      · try dsimp only
        refine ⟨by omega, by omega, hm2l, hm2, ?_⟩
        rw [hinv, hsk]
        first
        | rw [hsk2, if_neg (by simpa using c2)]
        | (have hj0 : j = 0 := by first | omega | (simp at g1; omega)
           subst hj0; rfl)
  · -- c1 false
    try simp only [nrm] at c1
    have hie : n = i := by first | omega | (simp at c1; omega)
    subst hie
    rw [Nat.sub_self] at hinv
    simp only [sinkAll] at hinv
    subst hinv
    refine W_exit ?_
    simp only [go_sem, ldS_at hd, stX_at hd, ldS_sv hlt, stX_sv hlt, sv_ext hlt, sv_ext_sv hlt]
    try simp only [go_sem, ldS_at hd, stX_at hd, ldS_sv hlt, stX_sv hlt, sv_ext hlt, sv_ext_sv hlt]
    refine ⟨.inl (by trivial), ?_⟩
    first | refine Fin_set hcl (by simp only [go_sem]) rfl (Wk_eq ?_ (by simp only [go_sem])) | refine Fin_set0 hcl (by simp only [go_sem]) rfl (Wk_eq ?_ (by simp only [go_sem]))
    try simp only [go_sem]
    all_goals
      skip
set_option maxHeartbeats 2000000 in
theorem pdqSort_pc (Y : YEnv) (σ : Sg) (id : Nat) (ord : List Int) (l : List Stand) (hd : σ.store[id]? = some (some (rowC (l.map sdPV)))) (hC : ∀ a b, a ∈ l → b ∈ l → CmpOk ord a b) (hol : ord.length < 2 ^ 40) (hl : 0 < l.length ∧ l.length ≤ 12) (lim : Int) :
    PC Try.prog Y 67 [.gsl id l.length 3, I 0, I l.length, I lim, .func (.func 42) [.agg [ints ord]] []] σ (.tuple []) (σ.setVar id (rowC ((sortSd ord l).map sdPV))) := by
  refine PC_of_W Try.func67 rfl (by kernel_rfl) Try.ntmps67 (by simp) fun hcl hca => ?_
  have hlt := lt_of_get hd
  have hl2 : (l.length : Int) ≤ 12 := by omega
  refine W_seq fun kz1 kq1 => ?_
  refine W_region [0, 1, 2, 3, 4, 10] fun R hR => ?_   -- r0
  simp only [go_sem, ldS_at hd, stX_at hd, ldS_sv hlt, stX_sv hlt, sv_ext hlt, sv_ext_sv hlt]
  refine hR _ _ (kq1 _ _ ?_); clear hR R; try clear kq1 kz1
  try simp only [go_sem, ldS_at hd, stX_at hd, ldS_sv hlt, stX_sv hlt, sv_ext hlt, sv_ext_sv hlt]
  refine W_seq fun kz2 kq2 => ?_
  refine W_region [0, 1, 2, 3, 4, 10, 11] fun R hR => ?_   -- r1
  simp only [go_sem, ldS_at hd, stX_at hd, ldS_sv hlt, stX_sv hlt, sv_ext hlt, sv_ext_sv hlt]
  refine hR _ _ (kq2 _ _ ?_); clear hR R; try clear kq2 kz2
  try simp only [go_sem, ldS_at hd, stX_at hd, ldS_sv hlt, stX_sv hlt, sv_ext hlt, sv_ext_sv hlt]
  refine W_block ?_
  refine W_loopS (α := Nat) (fun (z : Nat) => []) (fun (z : Nat) => True) (fun (z : Nat) => 0) (0) rfl (trivial) ?_
  rintro z _
  refine W_block ?_
  refine W_seq fun kz3 kq3 => ?_
  refine W_region [0, 1, 2, 3, 4, 10, 11, 12] fun R hR => ?_   -- r2
  simp only [go_sem, ldS_at hd, stX_at hd, ldS_sv hlt, stX_sv hlt, sv_ext hlt, sv_ext_sv hlt]
  try simp (disch := omega) only [wrapI, wrapU]
  refine hR _ _ (kq3 _ _ ?_); clear hR R; try clear kq3 kz3
  try simp only [go_sem, ldS_at hd, stX_at hd, ldS_sv hlt, stX_sv hlt, sv_ext hlt, sv_ext_sv hlt]
  refine W_seq fun kz4 kq4 => ?_
  refine W_seq fun kz5 kq5 => ?_
  refine W_region [0, 1, 2, 3, 4, 10, 11, 12, 25] fun R hR => ?_   -- r3
  simp only [go_sem, ldS_at hd, stX_at hd, ldS_sv hlt, stX_sv hlt, sv_ext hlt, sv_ext_sv hlt]
  refine hR _ _ (kq5 _ _ ?_); clear hR R; try clear kq5 kz5
  try simp only [go_sem, ldS_at hd, stX_at hd, ldS_sv hlt, stX_sv hlt, sv_ext hlt, sv_ext_sv hlt]
  refine W_cond rfl (fun c1 => ?_) (fun c1 => ?_)
  · -- c1 true
    try simp only [nrm] at c1
    refine W_seq fun kz6 kq6 => ?_
    refine W_region [] fun R hR => ?_   -- r4
    simp only [go_sem, ldS_at hd, stX_at hd, ldS_sv hlt, stX_sv hlt, sv_ext hlt, sv_ext_sv hlt]
    refine GCall_of (insSort_pc Y _ id ord l hd hC hol hl) ?_   -- t30
    simp only [go_sem, ldS_at hd, stX_at hd, ldS_sv hlt, stX_sv hlt, sv_ext hlt, sv_ext_sv hlt]
    refine hR _ _ (kq6 _ _ ?_); clear hR R; try clear kq6 kz6
    try simp only [go_sem, ldS_at hd, stX_at hd, ldS_sv hlt, stX_sv hlt, sv_ext hlt, sv_ext_sv hlt]
    refine W_ret ?_
    simp only [go_sem, ldS_at hd, stX_at hd, ldS_sv hlt, stX_sv hlt, sv_ext hlt, sv_ext_sv hlt]
    refine ⟨.inr (by trivial), ?_⟩
    first | refine Fin_set hcl (by simp only [go_sem]) rfl (Wk_eq ?_ (by simp only [go_sem])) | refine Fin_set0 hcl (by simp only [go_sem]) rfl (Wk_eq ?_ (by simp only [go_sem]))
    try simp only [go_sem]
    all_goals
      skip
  · -- c1 false
    try simp only [nrm] at c1
    exfalso
    first | omega | (simp at c1; omega)
set_option maxHeartbeats 2000000 in
theorem sortFunc_pc (Y : YEnv) (σ : Sg) (id : Nat) (ord : List Int) (l : List Stand) (hd : σ.store[id]? = some (some (rowC (l.map sdPV)))) (hC : ∀ a b, a ∈ l → b ∈ l → CmpOk ord a b) (hol : ord.length < 2 ^ 40) (hl : 0 < l.length ∧ l.length ≤ 12) :
    PC Try.prog Y 44 [.gsl id l.length 3, .func (.func 42) [.agg [ints ord]] []] σ (.tuple []) (σ.setVar id (rowC ((sortSd ord l).map sdPV))) := by
  refine PC_of_W Try.func44 rfl (by kernel_rfl) Try.ntmps44 (by simp) fun hcl hca => ?_
  have hlt := lt_of_get hd
  refine W_seq fun kz1 kq1 => ?_
  refine W_region [0, 1, 4] fun R hR => ?_   -- r0
  simp only [go_sem, ldS_at hd, stX_at hd, ldS_sv hlt, stX_sv hlt, sv_ext hlt, sv_ext_sv hlt]
  refine hR _ _ (kq1 _ _ ?_); clear hR R; try clear kq1 kz1
  try simp only [go_sem, ldS_at hd, stX_at hd, ldS_sv hlt, stX_sv hlt, sv_ext hlt, sv_ext_sv hlt]
  refine W_region [] fun R hR => ?_   -- r1
  simp only [go_sem, ldS_at hd, stX_at hd, ldS_sv hlt, stX_sv hlt, sv_ext hlt, sv_ext_sv hlt]
  try simp (disch := omega) only [wrapI, wrapU]
  refine GCall_of (bitsLen_pc Y _ l.length (by omega) (by omega)) ?_   -- t11
  simp only [go_sem, ldS_at hd, stX_at hd, ldS_sv hlt, stX_sv hlt, sv_ext hlt, sv_ext_sv hlt]
  try simp (disch := omega) only [wrapI, wrapU]
  refine GCall_of (pdqSort_pc Y _ id ord l hd hC hol hl _) ?_   -- t13
  simp only [go_sem, ldS_at hd, stX_at hd, ldS_sv hlt, stX_sv hlt, sv_ext hlt, sv_ext_sv hlt]
  try simp (disch := omega) only [wrapI, wrapU]
  refine hR _ _ ?_; clear hR R
  try simp only [go_sem, ldS_at hd, stX_at hd, ldS_sv hlt, stX_sv hlt, sv_ext hlt, sv_ext_sv hlt]
  try simp only [go_sem, ldS_at hd, stX_at hd, ldS_sv hlt, stX_sv hlt, sv_ext hlt, sv_ext_sv hlt]
  refine ⟨.inl (by trivial), ?_⟩
  first | refine Fin_set hcl (by simp only [go_sem]) rfl (Wk_eq ?_ (by simp only [go_sem])) | refine Fin_set0 hcl (by simp only [go_sem]) rfl (Wk_eq ?_ (by simp only [go_sem]))
  try simp only [go_sem]
  all_goals
    skip
end Go.Proofs.Ytgelnjmddabgpaa
namespace Go.Proofs.Ytgelnjmddabgpaa
open Go Go.RowKit
set_option maxRecDepth 100000
/-- Standings that grow in place: nothing yet, or the last of a row of variables (those before it are gone). -/
def glS (n : Nat) (out : List Stand) : PV := match out with
  | [] => .gnil
  | _ :: t => .gsl (n + t.length) (t.length + 1) 3
def gsS (out : List Stand) : List (Option (List PV)) := match out with
  | [] => []
  | _ :: t => List.replicate t.length none ++ [some (rowC (out.map sdPV))]
theorem appendAny_gs {P : Program} {σ : Sg} {t t' : TypeId} {n : Nat} {out : List Stand} {y : PV} : appendAny P σ t t' (glS n out) y = appendG P σ t t' (glS n out) y := by cases out <;> rfl
attribute [go_sem] appendAny_gs
section
variable {σ : Sg} {A : List (Option (List PV))} {rm : List Nat} {ys : List LState} {out : List Stand}
theorem gsS_get {x : Stand} : (A ++ gsS (x :: out))[A.length + out.length]? = some (some (rowC ((x :: out).map sdPV))) := by
  have : A.length + out.length = (A ++ List.replicate out.length (none : Option (List PV))).length := by simp
  rw [this, gsS, ← List.append_assoc]
  exact get_mid
theorem gsS_set {x : Stand} {y : Option (List PV)} : (A ++ gsS (x :: out)).set (A.length + out.length) y = A ++ (List.replicate out.length none ++ [y]) := by
  have : A.length + out.length = (A ++ List.replicate out.length (none : Option (List PV))).length := by simp
  rw [this, gsS, ← List.append_assoc, ← List.append_assoc]
  exact set_mid
theorem appG_gs (b : Nat) (x : Stand) (h : (out.length + 1) * b ≤ 2 ^ 47) : appG 3 b (σ.ext (A ++ gsS out) rm ys) (glS (σ.store.length + A.length) out) [.agg [I x.school, I x.total, ints x.points]] = some (glS (σ.store.length + A.length) (out ++ [x]), σ.ext (A ++ gsS (out ++ [x])) rm ys) := by
  cases out with
  | nil =>
    rw [glS, appG_nil (by rfl) (by simp) (by simpa using h)]
    simp [gsS, glS, rowC, Sg.push_ext, Sg.len_ext, sdPV, sdCells]
  | cons y out =>
    simp only [glS]
    rw [appG_more (cs := rowC ((y :: out).map sdPV)) (by rw [Nat.add_assoc, Sg.get_ext]; exact gsS_get) (by rw [row3_len]; simp) (by rfl) (by simp) (by simpa using h)]
    rw [Nat.add_assoc (Sg.store σ).length, Sg.drop_ext, gsS_set]
    simp only [Sg.push_ext, Sg.len_ext]
    have e : List.replicate (out ++ [x]).length (none : Option (List PV)) = List.replicate out.length none ++ [none] := by simp [List.replicate_succ']
    simp only [List.cons_append, gsS, e, glS]
    have e2 : rowC ((y :: (out ++ [x])).map sdPV) = rowC ((y :: out).map sdPV) ++ rowC [.agg [I x.school, I x.total, ints x.points]] := by
      simp [rowC, sdPV, sdCells]
    rw [e2]
    simp [Nat.add_assoc]
end
theorem sink_len (ord : List Int) : ∀ (j : Nat) (l : List Stand), (sink ord j l).length = l.length := by
  intro j
  induction j with
  | zero => intro l; rfl
  | succ j ih =>
    intro l
    simp only [sink]
    split
    · split
      · rw [ih]; simp
      · rfl
    · rfl
theorem sinkAll_len (ord : List Int) : ∀ (k i : Nat) (l : List Stand), (sinkAll ord k i l).length = l.length := by
  intro k
  induction k with
  | zero => intro i l; rfl
  | succ k ih => intro i l; simp only [sinkAll, ih, sink_len]
theorem sortSd_len (ord : List Int) (l : List Stand) : (sortSd ord l).length = l.length := sinkAll_len _ _ _ _
theorem sort_gs (Y : YEnv) (σ : Sg) (A : List (Option (List PV))) (rm : List Nat) (ord : List Int) (out : List Stand) (hC : ∀ a b, a ∈ out → b ∈ out → CmpOk ord a b) (hol : ord.length < 2 ^ 40) (hl : 0 < out.length ∧ out.length ≤ 12) :
    PC Try.prog Y 44 [glS (σ.store.length + A.length) out, .func (.func 42) [.agg [ints ord]] []] (σ.ext (A ++ gsS out) rm) (.tuple []) (σ.ext (A ++ gsS (sortSd ord out)) rm) := by
  cases out with
  | nil => simp at hl
  | cons x out =>
    have h1 := sortFunc_pc Y (σ.ext (A ++ gsS (x :: out)) rm) (σ.store.length + A.length + out.length) ord (x :: out) (by rw [Nat.add_assoc, Sg.get_ext]; exact gsS_get) hC hol hl
    rw [Nat.add_assoc, Sg.set_ext, gsS_set] at h1
    have e : A ++ (List.replicate out.length none ++ [some (rowC ((sortSd ord (x :: out)).map sdPV))]) = A ++ gsS (sortSd ord (x :: out)) := by
      have hs := sortSd_len ord (x :: out)
      cases hc : sortSd ord (x :: out) with
      | nil => rw [hc] at hs; simp at hs
      | cons y s =>
        rw [hc] at hs
        simp only [List.length_cons] at hs
        simp only [gsS]
        rw [show out.length = s.length by omega]
    rw [e] at h1
    simp only [glS]
    rw [Nat.add_assoc]
    exact h1
theorem glS_sort (n : Nat) (ord : List Int) (out : List Stand) : glS n (sortSd ord out) = glS n out := by
  have hl := sortSd_len ord out
  cases h : sortSd ord out with
  | nil =>
    rw [h] at hl
    cases out with
    | nil => rfl
    | cons x out => simp at hl
  | cons y s =>
    rw [h] at hl
    cases out with
    | nil => simp at hl
    | cons x out => simp only [List.length_cons] at hl; simp only [glS]; rw [show s.length = out.length by omega]
def sdUp (s : Scale) (k : Kn) (g : Night) (i : Nat) : List Stand := (List.range i).map fun (j : Nat) => standK s k g j 0
theorem sdUp_succ (s : Scale) (k : Kn) (g : Night) (i : Nat) : sdUp s k g (i + 1) = sdUp s k g i ++ [standK s k g i 0] := by simp [sdUp, List.range_succ]
/-- The table as the program makes it. -/
def tblP (s : Scale) (k : Kn) (g : Night) : List Stand := sortSd s.order (sdUp s k g s.schools.toNat)
def tableP (s : Scale) (g : Night) : List Stand × Int :=
  if knownE s g ≠ 0 then ([], knownE s g) else if sealedK s (knownK s g) ≠ [] then ([], 11) else (tblP s (knownK s g) g, 0)
set_option maxHeartbeats 2000000 in
theorem plcE_pc (Y : YEnv) (σ : Sg) (s : Scale) (g : Night) (hs : s.Ok) (hg : g.Ok) (sc : Int) (hE : knownE s g ≠ 0) :
    PC Try.prog Y 16 [scPV s, ngPV g, I sc] σ (.tuple [.agg [I 0, I 0], I (knownE s g)]) (σ) := by
  refine PC_of_W Try.func16 rfl (by kernel_rfl) Try.ntmps16 (by simp) fun hcl hca => ?_
  refine W_seq fun kz1 kq1 => ?_
  refine W_region [3, 4, 5, 6] fun R hR => ?_   -- r0
  simp only [go_sem]
  refine hR _ _ (kq1 _ _ ?_); clear hR R; try clear kq1 kz1
  try simp only [go_sem]
  refine W_seq fun kz2 kq2 => ?_
  refine W_region [3, 4, 5, 6, 8, 9] fun R hR => ?_   -- r1
  simp only [go_sem]
  refine GCall_of (knownOf_err Y _ s g hs hg hE) ?_   -- t14
  simp only [go_sem]
  refine hR _ _ (kq2 _ _ ?_); clear hR R; try clear kq2 kz2
  try simp only [go_sem]
  refine W_seq fun kz3 kq3 => ?_
  refine W_seq fun kz4 kq4 => ?_
  refine W_region [3, 4, 5, 6, 8, 9, 18] fun R hR => ?_   -- r2
  simp only [go_sem]
  refine hR _ _ (kq4 _ _ ?_); clear hR R; try clear kq4 kz4
  try simp only [go_sem]
  refine W_cond rfl (fun c1 => ?_) (fun c1 => ?_)
  · -- c1 true
    try simp only [nrm] at c1
    refine W_seq fun kz5 kq5 => ?_
    refine W_region [6, 7] fun R hR => ?_   -- r3
    simp only [go_sem]
    refine hR _ _ (kq5 _ _ ?_); clear hR R; try clear kq5 kz5
    try simp only [go_sem]
    refine W_ret ?_
    simp only [go_sem]
    refine ⟨.inr (by trivial), ?_⟩
    first | refine Fin_same hcl (by show resPV Try.prog _ _ [.cell 6 48, .tmp 7] = some _; simp only [resPV, go_sem]; rfl) (Wk_eq ?_ (by simp only [go_sem])) | refine Fin_same hcl rfl (Wk_eq ?_ (by simp only [go_sem]))
    try simp only [go_sem]
    all_goals
      first | rfl | (simp_all; done) | (simp_all; omega)
  · -- c1 false
    try simp only [nrm] at c1
    exfalso
    first | exact hE (by omega) | (simp at c1; exact hE (by omega))
set_option maxHeartbeats 2000000 in
theorem plcO_pc (Y : YEnv) (σ : Sg) (s : Scale) (g : Night) (hs : s.Ok) (hg : g.Ok) (sc : Int) (hE : knownE s g = 0) :
    PC Try.prog Y 16 [scPV s, ngPV g, I sc] σ (.tuple [.agg [I (placeA s g sc).1.1, I (placeA s g sc).1.2], I (placeA s g sc).2]) (σ) := by
  refine PC_of_W Try.func16 rfl (by kernel_rfl) Try.ntmps16 (by simp) fun hcl hca => ?_
  have hV := known_V hE
  obtain ⟨K, hK⟩ : ∃ z, knownK s g = z := ⟨_, rfl⟩
  rw [hK] at hV
  have hv := hV.v
  have q3 := hv.sc
  have q4 := hv.lo
  have q5 := hv.hi
  obtain ⟨N, hN⟩ : ∃ z : Nat, s.schools = z := ⟨s.schools.toNat, by omega⟩
  have hNi : (s.schools : Int) = (N : Int) := hN
  have hkn := fun Y σ => knownOf_ok Y σ s g hs hg hE
  rw [hK] at hkn
  refine W_seq fun kz1 kq1 => ?_
  refine W_region [3, 4, 5, 6] fun R hR => ?_   -- r0
  simp only [go_sem]
  refine hR _ _ (kq1 _ _ ?_); clear hR R; try clear kq1 kz1
  try simp only [go_sem]
  refine W_seq fun kz2 kq2 => ?_
  refine W_region [3, 4, 5, 6, 8, 9] fun R hR => ?_   -- r1
  simp only [go_sem]
  refine GCall_of (hkn Y _) ?_   -- t14
  simp only [go_sem]
  refine hR _ _ (kq2 _ _ ?_); clear hR R; try clear kq2 kz2
  try simp only [go_sem]
  refine W_seq fun kz3 kq3 => ?_
  refine W_seq fun kz4 kq4 => ?_
  refine W_region [3, 4, 5, 6, 8, 9, 18] fun R hR => ?_   -- r2
  simp only [go_sem]
  refine hR _ _ (kq4 _ _ ?_); clear hR R; try clear kq4 kz4
  try simp only [go_sem]
  refine W_cond_false rfl ?_
  refine W_skip (kq3 _ _ ?_)
  refine W_seq fun kz5 kq5 => ?_
  refine W_seq fun kz6 kq6 => ?_
  refine W_region [3, 4, 5, 6, 8, 26] fun R hR => ?_   -- r4
  simp only [go_sem]
  try simp (disch := omega) only [wrapI, wrapU]
  refine GCall_of (in_pc Y _ sc 0 _) ?_   -- t25
  simp only [go_sem]
  try simp (disch := omega) only [wrapI, wrapU]
  refine hR _ _ (kq6 _ _ ?_); clear hR R; try clear kq6 kz6
  try simp only [go_sem]
  refine W_cond rfl (fun c1 => ?_) (fun c1 => ?_)
  · -- c1 true
    try simp only [nrm] at c1
    refine W_seq fun kz7 kq7 => ?_
    refine W_region [6, 7] fun R hR => ?_   -- r5
    simp only [go_sem]
    refine hR _ _ (kq7 _ _ ?_); clear hR R; try clear kq7 kz7
    try simp only [go_sem]
    refine W_ret ?_
    simp only [go_sem]
    refine ⟨.inr (by trivial), ?_⟩
    first | refine Fin_same hcl (by show resPV Try.prog _ _ [.cell 6 48, .tmp 7] = some _; simp only [resPV, go_sem]; rfl) (Wk_eq ?_ (by simp only [go_sem])) | refine Fin_same hcl rfl (Wk_eq ?_ (by simp only [go_sem]))
    try simp only [go_sem]
    all_goals
      clear hNi hN; simp [placeA, hE, hK, *]
  · -- c1 false
    try simp only [nrm] at c1
    have hin : inR sc 0 (s.schools - 1) = true := c1
    have hin2 := hin
    simp only [inR_true] at hin2
    obtain ⟨n, rfl⟩ : ∃ n : Nat, sc = n := ⟨sc.toNat, by omega⟩
    refine W_skip (kq5 _ _ ?_)
    refine W_seq fun kz8 kq8 => ?_
    refine W_region [3, 6, 10] fun R hR => ?_   -- r6
    simp only [go_sem]
    refine hR _ _ (kq8 _ _ ?_); clear hR R; try clear kq8 kz8
    try simp only [go_sem]
    refine W_seq fun kz9 kq9 => ?_
    refine W_draw [6, 7] [0, 1, 2, 3, 4, 5, 6, 7, 8, 9, 10, 11, 12, 13, 14] [(6, 5), (7, 5), (8, 5), (9, 5), (10, 5)] [[], [], [1], [], [3], [0, 1, 2, 3, 4], [], [], [7], [], [9], [0, 1, 2, 3, 4, 5, 6, 7, 8, 9, 10], [0, 1, 2, 3, 4, 5, 6, 7, 8, 9, 10, 11], [0, 1, 2, 3, 4, 5, 6, 7, 8, 9, 10, 11, 12], [0, 1, 2, 3, 4, 5, 6, 7, 8, 9, 10, 11, 12, 13]] mixed (by kernel_rfl) fun R hR => ?_   -- r7
    simp only [go_sem]
    refine GCall_of (place1_pc Y _ (σ.store.length + 7) (σ.store.length + 6) (σ.store.length) (σ.store.length + 1) (σ.store.length + 2) s K g hV n (by omega) s.high s.low (by omega) (by omega) (Sg.get_ext ..) (Sg.get_ext ..) (Sg.get_ext0 ..) (Sg.get_ext ..) (Sg.get_ext ..)) ?_   -- t34
    simp only [go_sem]
    refine GCall_of (place1_pc Y _ (σ.store.length + 7) (σ.store.length + 6) (σ.store.length) (σ.store.length + 1) (σ.store.length + 2) s K g hV n (by omega) s.low s.high (by omega) (by omega) (Sg.get_ext ..) (Sg.get_ext ..) (Sg.get_ext0 ..) (Sg.get_ext ..) (Sg.get_ext ..)) ?_   -- t40
    simp only [go_sem]
    try refine And.intro (by repeat' (first | refine And.intro ?_ ?_ | exact GOr_right (fun _ => by simp only [go_sem]))) ?_
    refine hR _ _ (kq9 _ _ ?_); clear hR R; try clear kq9 kz9
    try simp only [go_sem]
    refine W_ret ?_
    simp only [go_sem]
    refine ⟨.inr (by trivial), ?_⟩
    first | refine Fin_same hcl (by show resPV Try.prog _ _ [.cell 6 48, .tmp 7] = some _; simp only [resPV, go_sem]; rfl) (Wk_eq ?_ (by simp only [go_sem])) | refine Fin_same hcl rfl (Wk_eq ?_ (by simp only [go_sem]))
    try simp only [go_sem]
    all_goals
      clear hNi hN; simp [placeA, hE, hK, *]
theorem Place_pc (Y : YEnv) (σ : Sg) (s : Scale) (g : Night) (hs : s.Ok) (hg : g.Ok) (sc : Int) : PC Try.prog Y 16 [scPV s, ngPV g, I sc] σ (.tuple [.agg [I (placeA s g sc).1.1, I (placeA s g sc).1.2], I (placeA s g sc).2]) σ := by
  by_cases h : knownE s g = 0
  · exact plcO_pc Y σ s g hs hg sc h
  · have e : placeA s g sc = ((0, 0), knownE s g) := by unfold placeA; rw [if_pos h]
    rw [e]; exact plcE_pc Y σ s g hs hg sc h
set_option maxHeartbeats 2000000 in
theorem tabE_pc (Y : YEnv) (σ : Sg) (s : Scale) (g : Night) (hs : s.Ok) (hg : g.Ok) (hE : knownE s g ≠ 0) :
    PC Try.prog Y 17 [scPV s, ngPV g] σ (.tuple [sds [], I (knownE s g)]) (σ) := by
  refine PC_of_W Try.func17 rfl (by kernel_rfl) Try.ntmps17 (by simp) fun hcl hca => ?_
  refine W_seq fun kz1 kq1 => ?_
  refine W_region [2, 3, 4, 5] fun R hR => ?_   -- r0
  simp only [go_sem]
  refine hR _ _ (kq1 _ _ ?_); clear hR R; try clear kq1 kz1
  try simp only [go_sem]
  refine W_seq fun kz2 kq2 => ?_
  refine W_region [2, 3, 4, 5, 6, 7] fun R hR => ?_   -- r1
  simp only [go_sem]
  refine GCall_of (knownOf_err Y _ s g hs hg hE) ?_   -- t14
  simp only [go_sem]
  refine hR _ _ (kq2 _ _ ?_); clear hR R; try clear kq2 kz2
  try simp only [go_sem]
  refine W_seq fun kz3 kq3 => ?_
  refine W_seq fun kz4 kq4 => ?_
  refine W_region [2, 3, 4, 5, 6, 7, 18] fun R hR => ?_   -- r2
  simp only [go_sem]
  refine hR _ _ (kq4 _ _ ?_); clear hR R; try clear kq4 kz4
  try simp only [go_sem]
  refine W_cond rfl (fun c1 => ?_) (fun c1 => ?_)
  · -- c1 true
    try simp only [nrm] at c1
    refine W_seq fun kz5 kq5 => ?_
    refine W_region [4, 5] fun R hR => ?_   -- r3
    simp only [go_sem]
    refine hR _ _ (kq5 _ _ ?_); clear hR R; try clear kq5 kz5
    try simp only [go_sem]
    refine W_ret ?_
    simp only [go_sem]
    refine ⟨.inr (by trivial), ?_⟩
    refine Fin_same hcl (by show resPV Try.prog _ _ [.cell 4 51, .cell 5 44] = some _; simp only [resPV, go_sem]; rfl) (Wk.ro (by simp only [go_sem]) ?_)
    try simp only [go_sem]
    all_goals
      first | rfl | (simp [PV.ro, PV.roL]; done)
  · -- c1 false
    try simp only [nrm] at c1
    exfalso
    first | exact hE (by omega) | (simp at c1; exact hE (by omega))
set_option maxHeartbeats 2000000 in
theorem tabS_pc (Y : YEnv) (σ : Sg) (s : Scale) (g : Night) (hs : s.Ok) (hg : g.Ok) (hE : knownE s g = 0) (hne0 : sealedK s (knownK s g) ≠ []) :
    PC Try.prog Y 17 [scPV s, ngPV g] σ (.tuple [sds [], I 11]) (σ) := by
  refine PC_of_W Try.func17 rfl (by kernel_rfl) Try.ntmps17 (by simp) fun hcl hca => ?_
  have hV := known_V hE
  obtain ⟨K, hK⟩ : ∃ z, knownK s g = z := ⟨_, rfl⟩
  rw [hK] at hV
  have hv := hV.v
  have q3 := hv.sc
  have q4 := hv.lo
  have q5 := hv.hi
  obtain ⟨N, hN⟩ : ∃ z : Nat, s.schools = z := ⟨s.schools.toNat, by omega⟩
  have hNi : (s.schools : Int) = (N : Int) := hN
  have hkn := fun Y σ => knownOf_ok Y σ s g hs hg hE
  rw [hK] at hkn
  have hne : sealedK s K ≠ [] := by rw [← hK]; exact hne0
  refine W_seq fun kz1 kq1 => ?_
  refine W_region [2, 3, 4, 5] fun R hR => ?_   -- r0
  simp only [go_sem]
  refine hR _ _ (kq1 _ _ ?_); clear hR R; try clear kq1 kz1
  try simp only [go_sem]
  refine W_seq fun kz2 kq2 => ?_
  refine W_region [2, 3, 4, 5, 6, 7] fun R hR => ?_   -- r1
  simp only [go_sem]
  refine GCall_of (hkn Y _) ?_   -- t14
  simp only [go_sem]
  refine hR _ _ (kq2 _ _ ?_); clear hR R; try clear kq2 kz2
  try simp only [go_sem]
  refine W_seq fun kz3 kq3 => ?_
  refine W_seq fun kz4 kq4 => ?_
  refine W_region [2, 3, 4, 5, 6, 7, 18] fun R hR => ?_   -- r2
  simp only [go_sem]
  refine hR _ _ (kq4 _ _ ?_); clear hR R; try clear kq4 kz4
  try simp only [go_sem]
  refine W_cond_false rfl ?_
  refine W_skip (kq3 _ _ ?_)
  refine W_seq fun kz5 kq5 => ?_
  refine W_seq fun kz6 kq6 => ?_
  refine W_region [2, 3, 4, 5, 6, 22] fun R hR => ?_   -- r4
  simp only [go_sem]
  refine GCall_of (sealed_pc Y _ (σ.store.length + 6) (by simp only [go_sem] <;> omega) s) ?_   -- t22
  simp only [go_sem]
  refine hR _ _ (kq6 _ _ ?_); clear hR R; try clear kq6 kz6
  try simp only [go_sem]
  refine W_block ?_
  have hLc : ∀ (z : Int) (n r yy : Nat), σ.store.length + 9 ≤ n → CleanLs n r yy [some (scCells s), some (ngCells g), some [.isl [] .exact], some [I z], some (scCells s), some (ngCells g), some (.mark :: knE K), some [.map (σ.store.length + 6)], some (scCells s)] := fun z n r yy h => by
    have c1 := cleans_ng (a := n) (b := r) (c := yy) g
    have c2 := cleans_sc (a := n) (b := r) (c := yy) s
    have c3 : CleanAll n r yy (knE K) := cA_kn.mpr trivial
    have c1' : CleanAll n r yy (ngCells g) := c1
    have c2' : CleanAll n r yy (scCells s) := c2
    simp only [CleanLs_cons, CleanLs_nil, CleanAll_cons, CleanAll_nil, Cl_map, Cl_mark, Cl_isl, OwnLt_exact, Cl_int, c1', c2', c3, true_and, and_true]
    omega
  refine W_rangeFunc (gf := 66) (v := .tuple []) (s := .done .ret) (σ5 := σ.ext [some (scCells s), some (ngCells g), some [.isl [] .exact], some [I 11], some (scCells s), some (ngCells g), some (.mark :: knE K), some [.map (σ.store.length + 6)], some (scCells s)] [] [.done .ret]) rfl (by simp) (fun args ρ b' ρ' => ∃ m n : Nat, args = [.agg [I m, I n]] ∧ b' = false ∧ ρ = (σ.ext [some (scCells s), some (ngCells g), some [.isl [] .exact], some [I 0], some (scCells s), some (ngCells g), some (.mark :: knE K), some [.map (σ.store.length + 6)], some (scCells s)] [] [.ready]).ext [some [.yield σ.ys.length], some (scCells s), some [I m, I n]] [] [.busy] ∧ ρ' = (σ.ext [some (scCells s), some (ngCells g), some [.isl [] .exact], some [I 11], some (scCells s), some (ngCells g), some (.mark :: knE K), some [.map (σ.store.length + 6)], some (scCells s)] [] [.done .ret]).ext [some [.yield σ.ys.length], some (scCells s), some [I m, I n]] [] [.busy]) ?_ ?_ ?_ ?_ ?_
  · rintro args τ b τ' ⟨m, n, rfl, rfl, rfl, rfl⟩
    refine ⟨rfl, ?_, ?_⟩
    · simp only [go_sem]
    · simp only [go_sem]
      refine W_skip ?_
      simp only [go_sem, putAll]
      skip
      refine W_post_weak ?_
      refine W_block ?_
      refine W_seq fun kz7 kq7 => ?_
      refine W_region [4, 5] fun R hR => ?_   -- r5
      simp only [go_sem, putAll]
      refine hR _ _ (kq7 _ _ ?_); clear hR R; try clear kq7 kz7
      try simp only [go_sem, putAll]
      refine W_ret ?_
      simp only [go_sem, putAll]
      refine ⟨[], _, Weak.keep [], ?_⟩
      simp only [RoundEnd, go_sem]
  · have hst := sealedB_pc (Y.at σ.ys.length (fun args ρ b' ρ' => ∃ m n : Nat, args = [.agg [I m, I n]] ∧ b' = false ∧ ρ = (σ.ext [some (scCells s), some (ngCells g), some [.isl [] .exact], some [I 0], some (scCells s), some (ngCells g), some (.mark :: knE K), some [.map (σ.store.length + 6)], some (scCells s)] [] [.ready]).ext [some [.yield σ.ys.length], some (scCells s), some [I m, I n]] [] [.busy] ∧ ρ' = (σ.ext [some (scCells s), some (ngCells g), some [.isl [] .exact], some [I 11], some (scCells s), some (ngCells g), some (.mark :: knE K), some [.map (σ.store.length + 6)], some (scCells s)] [] [.done .ret]).ext [some [.yield σ.ys.length], some (scCells s), some [I m, I n]] [] [.busy])) σ σ.ys.length (σ.store.length + 8) (σ.store.length + 7) (σ.store.length + 6) s hv K (σ.ext [some (scCells s), some (ngCells g), some [.isl [] .exact], some [I 0], some (scCells s), some (ngCells g), some (.mark :: knE K), some [.map (σ.store.length + 6)], some (scCells s)] [] [.ready]) (σ.ext [some (scCells s), some (ngCells g), some [.isl [] .exact], some [I 11], some (scCells s), some (ngCells g), some (.mark :: knE K), some [.map (σ.store.length + 6)], some (scCells s)] [] [.done .ret])
      (Sg.get_ext ..) (Sg.get_ext ..) (Sg.get_ext ..) (by simp only [go_sem]) (by simp only [go_sem]) (by simp only [go_sem]) (fun _ => CleanSg_ext hcl (hLc 11 _ _ _ (by simp only [go_sem] <;> omega))) hne
      (fun m n _ => by rw [YEnv.at_self]; exact ⟨m, n, rfl, rfl, rfl, rfl⟩)
    simp only [go_sem] at hst ⊢
    exact hst
  · simp only [go_sem]
  · simp only [go_sem]
    exact CleanCut_ext hcl (by first | omega | (simp only [go_sem] <;> omega)) (by first | omega | (simp only [go_sem] <;> omega)) (Nat.le_refl _) (hLc 11 _ _ _ (by first | omega | (simp only [go_sem] <;> omega)))
  · simp only [go_sem]
    simp only [AfterLoop]
    refine W_ret ?_
    simp only [go_sem]
    refine ⟨.inr (by trivial), ?_⟩
    refine Fin_same hcl (by show resPV Try.prog _ _ [.cell 4 51, .cell 5 44] = some _; simp only [resPV, go_sem]; rfl) (Wk.ro (by simp only [go_sem]) ?_)
    rfl
end Go.Proofs.Ytgelnjmddabgpaa
namespace Go.Proofs.Ytgelnjmddabgpaa
open Go Go.RowKit
set_option maxRecDepth 100000
theorem Weak.freezeS {N : Nat} {lo : Nat × Nat} {E : Env} {σ : Sg} {t : Nat} {A : List (Option (List PV))} {rm : List Nat} {ys : List LState} {out : List Stand} (ht : E.get t = glS (σ.store.length + A.length) out) (hne : out ≠ []) :
    Weak N lo E (σ.ext (A ++ gsS out) rm ys) (E.put (some t) (.isl (out.map sdPV) .ro)) (σ.ext (A ++ List.replicate out.length none) rm ys) := by
  cases out with
  | nil => exact absurd rfl hne
  | cons z zs =>
    have h := Weak.freeze (N := N) (lo := lo) (E := E) (σ := σ.ext (A ++ gsS (z :: zs)) rm ys) (t := t) (id := σ.store.length + (A.length + zs.length)) (len := zs.length + 1) (es := 3) (l := (z :: zs).map sdPV) (by rw [ht]; simp only [glS, Nat.add_assoc]) (by rw [Sg.get_ext]; exact gsS_get) (by simp) (fun q hq => by obtain ⟨x, _, rfl⟩ := List.mem_map.1 hq; rfl)
    rw [Sg.drop_ext, gsS_set] at h
    have e : List.replicate (z :: zs).length (none : Option (List PV)) = List.replicate zs.length none ++ [none] := by simp [List.replicate_succ']
    rw [e]
    exact h
set_option maxHeartbeats 4000000 in
theorem tabO_pc (Y : YEnv) (σ : Sg) (s : Scale) (g : Night) (hs : s.Ok) (hg : g.Ok) (hE : knownE s g = 0) (hne0 : sealedK s (knownK s g) = []) :
    PC Try.prog Y 17 [scPV s, ngPV g] σ (.tuple [sds (tblP s (knownK s g) g), I 0]) (σ) := by
  refine PC_of_W Try.func17 rfl (by kernel_rfl) Try.ntmps17 (by simp) fun hcl hca => ?_
  have hV := known_V hE
  obtain ⟨K, hK⟩ : ∃ z, knownK s g = z := ⟨_, rfl⟩
  rw [hK] at hV
  have hv := hV.v
  have q3 := hv.sc
  have q4 := hv.lo
  have q5 := hv.hi
  obtain ⟨N, hN⟩ : ∃ z : Nat, s.schools = z := ⟨s.schools.toNat, by omega⟩
  have hNi : (s.schools : Int) = (N : Int) := hN
  have hkn := fun Y σ => knownOf_ok Y σ s g hs hg hE
  rw [hK] at hkn
  have hne : sealedK s K = [] := by rw [← hK]; exact hne0
  have htb : tblP s (knownK s g) g = sortSd s.order (sdUp s K g N) := by rw [hK, tblP, hN, Int.toNat_natCast]
  rw [htb]
  have hol := hv.ol
  have q1 := hv.mt
  refine W_seq fun kz1 kq1 => ?_
  refine W_region [2, 3, 4, 5] fun R hR => ?_   -- r0
  simp only [go_sem]
  refine hR _ _ (kq1 _ _ ?_); clear hR R; try clear kq1 kz1
  try simp only [go_sem]
  refine W_seq fun kz2 kq2 => ?_
  refine W_region [2, 3, 4, 5, 6, 7] fun R hR => ?_   -- r1
  simp only [go_sem]
  refine GCall_of (hkn Y _) ?_   -- t14
  simp only [go_sem]
  refine hR _ _ (kq2 _ _ ?_); clear hR R; try clear kq2 kz2
  try simp only [go_sem]
  refine W_seq fun kz3 kq3 => ?_
  refine W_seq fun kz4 kq4 => ?_
  refine W_region [2, 3, 4, 5, 6, 7, 18] fun R hR => ?_   -- r2
  simp only [go_sem]
  refine hR _ _ (kq4 _ _ ?_); clear hR R; try clear kq4 kz4
  try simp only [go_sem]
  refine W_cond_false rfl ?_
  refine W_skip (kq3 _ _ ?_)
  refine W_seq fun kz5 kq5 => ?_
  refine W_seq fun kz6 kq6 => ?_
  refine W_region [2, 3, 4, 5, 6, 22] fun R hR => ?_   -- r4
  simp only [go_sem]
  refine GCall_of (sealed_pc Y _ (σ.store.length + 6) (by simp only [go_sem] <;> omega) s) ?_   -- t22
  simp only [go_sem]
  refine hR _ _ (kq6 _ _ ?_); clear hR R; try clear kq6 kz6
  try simp only [go_sem]
  refine W_block ?_
  have hLc : ∀ (z : Int) (n r yy : Nat), σ.store.length + 9 ≤ n → CleanLs n r yy [some (scCells s), some (ngCells g), some [.isl [] .exact], some [I z], some (scCells s), some (ngCells g), some (.mark :: knE K), some [.map (σ.store.length + 6)], some (scCells s)] := fun z n r yy h => by
    have c1 := cleans_ng (a := n) (b := r) (c := yy) g
    have c2 := cleans_sc (a := n) (b := r) (c := yy) s
    have c3 : CleanAll n r yy (knE K) := cA_kn.mpr trivial
    have c1' : CleanAll n r yy (ngCells g) := c1
    have c2' : CleanAll n r yy (scCells s) := c2
    simp only [CleanLs_cons, CleanLs_nil, CleanAll_cons, CleanAll_nil, Cl_map, Cl_mark, Cl_isl, OwnLt_exact, Cl_int, c1', c2', c3, true_and, and_true]
    omega
  refine W_rangeFunc (gf := 66) (v := .tuple []) (s := .ready) (σ5 := σ.ext [some (scCells s), some (ngCells g), some [.isl [] .exact], some [I 0], some (scCells s), some (ngCells g), some (.mark :: knE K), some [.map (σ.store.length + 6)], some (scCells s)] [] [.ready]) rfl (by simp) (fun _ _ _ _ => False) ?_ ?_ ?_ ?_ ?_
  · intro args τ b τ' h; exact h.elim
  · have hst := sealedA_pc (Y.at σ.ys.length (fun _ _ _ _ => False)) σ σ.ys.length (σ.store.length + 8) (σ.store.length + 7) (σ.store.length + 6) s hv K (fun _ => σ.ext [some (scCells s), some (ngCells g), some [.isl [] .exact], some [I 0], some (scCells s), some (ngCells g), some (.mark :: knE K), some [.map (σ.store.length + 6)], some (scCells s)] [] [.ready])
      (fun _ _ => Sg.get_ext ..) (fun _ _ => Sg.get_ext ..) (fun _ _ => Sg.get_ext ..) (fun _ _ => ⟨rfl, rfl, rfl⟩) (fun h _ _ => h)
      (fun c m n h => by rw [hne] at h; simp at h)
    simp only [go_sem] at hst ⊢
    exact hst
  · simp only [go_sem]
  · simp only [go_sem]
    exact CleanCut_ext hcl (by first | omega | (simp only [go_sem] <;> omega)) (by first | omega | (simp only [go_sem] <;> omega)) (Nat.le_refl _) (hLc 0 _ _ _ (by first | omega | (simp only [go_sem] <;> omega)))
  · simp only [AfterLoop, go_sem]
    refine kq5 _ _ ?_
    refine W_seq fun kz7 kq7 => ?_
    refine W_region [2, 3, 4, 5, 6, 8] fun R hR => ?_   -- r6
    simp only [go_sem]
    refine hR _ _ (kq7 _ _ ?_); clear hR R; try clear kq7 kz7
    try simp only [go_sem]
    refine W_seq fun kz8 kq8 => ?_
    refine W_seq fun kz9 kq9 => ?_
    refine W_region [2, 3, 4, 5, 6, 8, 25, 26] fun R hR => ?_   -- r7
    simp only [go_sem]
    refine hR _ _ (kq9 _ _ ?_); clear hR R; try clear kq9 kz9
    try simp only [go_sem]
    refine W_block ?_
    refine W_weak (Weak.gnil (t := 8) rfl) ?_
    refine W_weak (Weak.keep [2, 3, 4, 5, 6, 8, 25, 26]) ?_
    simp only [go_sem]
    refine W_loopT (α := Nat) (fun (i : Nat) => [(8, glS (σ.store.length + 9) (sdUp s K g i)), (26, I i)]) (fun (i : Nat) => σ.ext ([some (scCells s), some (ngCells g), some [.isl [] .exact], some [I 0], some (scCells s), some (ngCells g), some (.mark :: knE K), some [.map (σ.store.length + 6)], some (scCells s)] ++ gsS (sdUp s K g i)) []) (fun (i : Nat) => i ≤ N) (fun (i : Nat) => N - i) (0) rfl (by first | rfl | (simp only [go_sem]; done) | (simp only [go_sem]; rfl)) (Nat.zero_le _) ?_
    rintro i hi
    refine W_seq fun kz10 kq10 => ?_
    refine W_region [2, 3, 4, 5, 6, 8, 25, 26, 27] fun R hR => ?_   -- r8
    simp only [go_sem]
    refine hR _ _ (kq10 _ _ ?_); clear hR R; try clear kq10 kz10
    try simp only [go_sem]
    refine W_seq fun kz11 kq11 => ?_
    refine W_cond rfl (fun c1 => ?_) (fun c1 => ?_)
    · -- c1 true
      try simp only [nrm] at c1
      have hiN : i < N := by first | omega | (simp at c1; omega)
      have hsu := sdUp_succ s K g i
      have hsl : (sdUp s K g i).length = i := by simp [sdUp]
      have happ := appG_gs (σ := σ) (A := [some (scCells s), some (ngCells g), some [.isl [] .exact], some [I 0], some (scCells s), some (ngCells g), some (.mark :: knE K), some [.map (σ.store.length + 6)], some (scCells s)]) (rm := []) (ys := []) (out := sdUp s K g i) 40 (standK s K g i 0) (by omega)
      rw [← hsu] at happ
      simp only [go_sem, List.length_cons, List.length_nil] at happ
      refine W_skip (kq11 _ _ ?_)
      refine W_seq fun kz12 kq12 => ?_
      refine W_block ?_
      refine W_seq fun kz13 kq13 => ?_
      refine W_region [2, 3, 4, 5, 6, 8, 9, 25, 26] fun R hR => ?_   -- r9
      simp only [go_sem, happ]
      refine hR _ _ (kq13 _ _ ?_); clear hR R; try clear kq13 kz13
      try simp only [go_sem, happ]
      refine W_region [2, 3, 4, 5, 6, 8, 25, 26] fun R hR => ?_   -- r10
      simp only [go_sem, happ]
      refine GCall_of (standing_pc Y _ (σ.store.length + 6) K (Sg.get_ext ..) s g hV i (by omega) 0 (by omega)) ?_   -- t34
      simp only [go_sem, happ]
      try simp (disch := first | omega | (simp only [go_sem] <;> omega)) only [wrapI, wrapU, appX_exact, appX_tok]
      try simp only [go_sem, happ]
      refine hR _ _ (kq12 _ _ ?_); clear hR R; try clear kq12 kz12
      try simp only [go_sem, happ]
      refine W_region [2, 3, 4, 5, 6, 8, 25, 26] fun R hR => ?_   -- r11
      simp only [go_sem, happ]
      try simp (disch := omega) only [wrapI, wrapU]
      refine hR _ _ ?_; clear hR R
      try simp only [go_sem, happ]
      refine ⟨i + 1, ?_, by (try simp only []); omega, ?_⟩
      · exact Weak.refl
      · try dsimp only
        omega
    · -- c1 false
      try simp only [nrm] at c1
      have hie : N = i := by first | omega | (simp at c1; omega)
      subst hie
      have hsl : (sdUp s K g N).length = N := by simp [sdUp]
      have hCmp : ∀ a b, a ∈ sdUp s K g N → b ∈ sdUp s K g N → CmpOk s.order a b := fun a b ha hb => by
        obtain ⟨x, hx, rfl⟩ := List.mem_map.1 ha
        obtain ⟨y, hy, rfl⟩ := List.mem_map.1 hb
        have h1 := List.mem_range.1 hx
        have h2 := List.mem_range.1 hy
        exact cmp_ok hV (by omega) (by omega) (by omega) (by omega)
      refine W_exit ?_
      simp only [go_sem]
      refine kq8 _ _ ?_
      refine W_seq fun kz14 kq14 => ?_
      refine W_region [4, 5, 8, 10] fun R hR => ?_   -- r12
      simp only [go_sem]
      refine hR _ _ (kq14 _ _ ?_); clear hR R; try clear kq14 kz14
      try simp only [go_sem]
      refine W_seq fun kz15 kq15 => ?_
      refine W_region [4, 5, 8] fun R hR => ?_   -- r13
      simp only [go_sem]
      refine GCall_of (sort_gs Y σ [_, _, _, _, _, _, _, _, _] [] s.order (sdUp s K g N) hCmp (by omega) (by omega)) ?_   -- t44
      simp only [go_sem]
      refine hR _ _ (kq15 _ _ ?_); clear hR R; try clear kq15 kz15
      try simp only [go_sem]
      refine W_seq fun kz16 kq16 => ?_
      have hne3 : sortSd s.order (sdUp s K g N) ≠ [] := fun e => by
        have := sortSd_len s.order (sdUp s K g N)
        rw [e, hsl] at this
        simp at this; omega
      refine W_weak (Weak.freezeS (t := 8) (A := [_, _, _, _, _, _, _, _, _]) (out := sortSd s.order (sdUp s K g N)) (by rw [glS_sort]; rfl) hne3) ?_
      refine W_weak (Weak.keep [4, 5, 8]) ?_
      simp only [go_sem]
      refine W_region [4, 5] fun R hR => ?_   -- r14
      simp only [go_sem]
      refine hR _ _ (kq16 _ _ ?_); clear hR R; try clear kq16 kz16
      try simp only [go_sem]
      refine W_ret ?_
      simp only [go_sem]
      refine ⟨.inr (by trivial), ?_⟩
      refine Fin_same hcl (by show resPV Try.prog _ _ [.cell 4 51, .cell 5 44] = some _; simp only [resPV, go_sem]; rfl) (Wk.ro (by simp only [go_sem]) ?_)
      try simp only [go_sem]
      all_goals
        first | rfl | simp only [go_sem]
theorem Table_pc (Y : YEnv) (σ : Sg) (s : Scale) (g : Night) (hs : s.Ok) (hg : g.Ok) : PC Try.prog Y 17 [scPV s, ngPV g] σ (.tuple [sds (tableP s g).1, I (tableP s g).2]) σ := by
  unfold tableP
  by_cases h : knownE s g = 0
  · rw [if_neg (by simpa using h)]
    by_cases h2 : sealedK s (knownK s g) = []
    · rw [if_neg (by simpa using h2)]; exact tabO_pc Y σ s g hs hg h h2
    · rw [if_pos h2]; exact tabS_pc Y σ s g hs hg h h2
  · rw [if_pos h]; exact tabE_pc Y σ s g hs hg h
end Go.Proofs.Ytgelnjmddabgpaa
namespace Go.Proofs.Ytgelnjmddabgpaa
open Go Go.RowKit
set_option maxRecDepth 100000
def insI (x : Int) : List Int → List Int
  | [] => [x]
  | y :: l => if x ≤ y then x :: y :: l else y :: insI x l
def isortI : List Int → List Int
  | [] => []
  | x :: l => insI x (isortI l)
theorem sorted_sortI (l : List Int) : (sortI l).Pairwise (· ≤ ·) := by
  have h := List.pairwise_mergeSort (le := fun (a b : Int) => decide (a ≤ b)) (by intro a b c h1 h2; simp at *; omega) (by intro a b; simp; omega) l
  exact h.imp fun h => by simpa using h
theorem perm_sortI (l : List Int) : (sortI l).Perm l := List.mergeSort_perm l _
theorem insI_perm (x : Int) : ∀ l : List Int, (insI x l).Perm (x :: l) := by
  intro l
  induction l with
  | nil => exact .refl _
  | cons y l ih =>
    simp only [insI]
    split
    · exact .refl _
    · exact (ih.cons y).trans (.swap x y l)
theorem insI_sorted (x : Int) : ∀ {l : List Int}, l.Pairwise (· ≤ ·) → (insI x l).Pairwise (· ≤ ·) := by
  intro l
  induction l with
  | nil => intro _; simp [insI]
  | cons y l ih =>
    intro h
    obtain ⟨h1, h2⟩ := List.pairwise_cons.1 h
    simp only [insI]
    split
    · rename_i hxy
      exact List.pairwise_cons.2 ⟨fun z hz => by rcases List.mem_cons.1 hz with rfl | hz; exact hxy; exact Int.le_trans hxy (h1 z hz), h⟩
    · rename_i hxy
      refine List.pairwise_cons.2 ⟨fun z hz => ?_, ih h2⟩
      rcases List.mem_cons.1 ((insI_perm x l).mem_iff.1 hz) with rfl | hz
      · omega
      · exact h1 z hz
theorem isortI_perm : ∀ l : List Int, (isortI l).Perm l := by
  intro l
  induction l with
  | nil => exact .refl _
  | cons x l ih => exact (insI_perm x _).trans (ih.cons x)
theorem isortI_sorted : ∀ l : List Int, (isortI l).Pairwise (· ≤ ·) := by
  intro l
  induction l with
  | nil => exact .nil
  | cons x l ih => exact insI_sorted x ih
theorem sorted_unique : ∀ {l m : List Int}, l.Perm m → l.Pairwise (· ≤ ·) → m.Pairwise (· ≤ ·) → l = m := by
  intro l
  induction l with
  | nil => intro m h _ _; exact h.nil_eq
  | cons x l ih =>
    intro m h h1 h2
    obtain ⟨a1, a2⟩ := List.pairwise_cons.1 h1
    cases m with
    | nil => exact absurd h.length_eq (by simp)
    | cons y m =>
      obtain ⟨b1, b2⟩ := List.pairwise_cons.1 h2
      have e : x = y := by
        have hx : x ∈ y :: m := h.mem_iff.1 (by simp)
        have hy : y ∈ x :: l := h.mem_iff.2 (by simp)
        rcases List.mem_cons.1 hx with e | hx
        · exact e
        · rcases List.mem_cons.1 hy with e | hy
          · exact e.symm
          · have := b1 x hx; have := a1 y hy; omega
      subst e
      rw [ih ((List.perm_cons x).1 h) a2 b2]
theorem sortI_eq : sortI = isortI := by
  funext l
  exact sorted_unique ((perm_sortI l).trans (isortI_perm l).symm) (sorted_sortI l) (isortI_sorted l)
def exScale : Scale := ⟨3, 2, 3, 1, 50, 100, [1, 0]⟩
def exNight : Night := ⟨[⟨0, 0, [100, 90, 80], 633⟩, ⟨0, 1, [90, 100, 80], 655⟩, ⟨0, 2, [95, 95, 95], 707⟩, ⟨1, 0, [80, 90, 100], 774⟩, ⟨1, 1, [100, 70, 90], 736⟩], [(1, 2)], [(2, 5)]⟩
def exBefore : Night := ⟨[⟨0, 0, [100, 90, 80], 633⟩, ⟨0, 1, [90, 100, 80], 655⟩, ⟨0, 2, [95, 95, 95], 707⟩, ⟨1, 0, [80, 90, 100], 774⟩], [(1, 2)], [(2, 5)]⟩
theorem exTable : tableP exScale exNight = ([⟨0, 385, [195, 190]⟩, ⟨2, 365, [175, 195]⟩, ⟨1, 365, [195, 170]⟩], 0) := by
  simp only [tableP, tblP, sdUp, standK, pointsL, pointsK, sortI_eq]
  decide +kernel
theorem exTotals : totalsA exScale exBefore = ([(340, 385), (355, 390), (345, 370)], 0) := by
  simp only [totalsA, standK, pointsL, pointsK, sortI_eq]
  decide +kernel
theorem exPlace : placeA exScale exBefore 0 = ((1, 3), 0) := by
  simp only [placeA, placeK, standK, pointsL, pointsK, sortI_eq]
  decide +kernel
theorem exScale_ok : exScale.Ok := ⟨by decide⟩
theorem exNight_ok : exNight.Ok := ⟨by decide, by decide, by decide, by decide⟩
theorem exBefore_ok : exBefore.Ok := ⟨by decide, by decide, by decide, by decide⟩
set_option maxHeartbeats 2000000 in
theorem EqInts_pc (Y : YEnv) (σ : Sg) (xs ys : List Int) (o o2 : Own) (hx : xs.length < 2 ^ 50) :
    PC Try.prog Y 31 [.isl (xs.map I) o, .isl (ys.map I) o2] σ (.bool (decide (xs = ys))) (σ) := by
  refine PC_of_W Try.func31 rfl (by kernel_rfl) Try.ntmps31 (by simp) fun hcl hca => ?_
  refine W_seq fun kz1 kq1 => ?_
  refine W_region [0, 1] fun R hR => ?_   -- r0
  simp only [go_sem]
  refine hR _ _ (kq1 _ _ ?_); clear hR R; try clear kq1 kz1
  try simp only [go_sem]
  refine W_seq fun kz2 kq2 => ?_
  refine W_seq fun kz3 kq3 => ?_
  refine W_region [0, 1, 10] fun R hR => ?_   -- r1
  simp only [go_sem]
  refine hR _ _ (kq3 _ _ ?_); clear hR R; try clear kq3 kz3
  try simp only [go_sem]
  refine W_cond rfl (fun c1 => ?_) (fun c1 => ?_)
  · -- c1 true
    try simp only [nrm] at c1
    refine W_seq fun kz4 kq4 => ?_
    refine W_region [4] fun R hR => ?_   -- r2
    simp only [go_sem]
    refine hR _ _ (kq4 _ _ ?_); clear hR R; try clear kq4 kz4
    try simp only [go_sem]
    refine W_ret ?_
    simp only [go_sem]
    refine ⟨.inr (by trivial), ?_⟩
    first | refine Fin_same hcl rfl (Wk_eq ?_ (by simp only [go_sem])) | refine Fin_self hcl rfl (Wk_eq ?_ (by simp only [go_sem]))
    try simp only [go_sem]
    all_goals
      simp; intro h; subst h; exact c1 rfl
  · -- c1 false
    try simp only [nrm] at c1
    refine W_skip (kq2 _ _ ?_)
    refine W_seq fun kz5 kq5 => ?_
    refine W_seq fun kz6 kq6 => ?_
    refine W_region [0, 1, 5] fun R hR => ?_   -- r3
    simp only [go_sem]
    refine hR _ _ (kq6 _ _ ?_); clear hR R; try clear kq6 kz6
    try simp only [go_sem]
    refine W_block ?_
    refine W_loopS (α := Nat) (fun (i : Nat) => [(5, I i)]) (fun (i : Nat) => i ≤ xs.length ∧ xs.take i = ys.take i) (fun (i : Nat) => xs.length - i) (0) rfl (⟨Nat.zero_le _, rfl⟩) ?_
    rintro i ⟨hi, ht⟩
    refine W_seq fun kz7 kq7 => ?_
    refine W_seq fun kz8 kq8 => ?_
    refine W_region [0, 1, 5, 14] fun R hR => ?_   -- r4
    simp only [go_sem]
    refine hR _ _ (kq8 _ _ ?_); clear hR R; try clear kq8 kz8
    try simp only [go_sem]
    refine W_cond rfl (fun c2 => ?_) (fun c2 => ?_)
    · -- c2 true
      try simp only [nrm] at c2
      have hi' : i < xs.length := by first | assumption | omega
      obtain ⟨x, hxi⟩ : ∃ x, xs[i]? = some x := ⟨xs[i], by simp⟩
      obtain ⟨y, hyi⟩ : ∃ y, ys[i]? = some y := ⟨ys[i]'(by omega), by simp⟩
      refine W_skip (kq7 _ _ ?_)
      refine W_seq fun kz9 kq9 => ?_
      refine W_block ?_
      refine W_seq fun kz10 kq10 => ?_
      refine W_draw [0, 1, 5, 25] [0, 1, 2, 3, 4, 5, 6, 7, 8] [] [[], [], [0, 1], [0, 1, 2], [], [], [4, 5], [4, 5, 6], [0, 1, 2, 3, 4, 5, 6, 7]] mixed (by kernel_rfl) fun R hR => ?_   -- r6
      simp only [go_sem, hxi, hyi]
      try refine And.intro (by repeat' (first | refine And.intro ?_ ?_ | exact GOr_right (fun _ => by simp only [go_sem, hxi, hyi]))) ?_
      refine hR _ _ (kq10 _ _ ?_); clear hR R; try clear kq10 kz10
      try simp only [go_sem, hxi, hyi]
      refine W_cond rfl (fun c3 => ?_) (fun c3 => ?_)
      · -- c3 true
        try simp only [nrm] at c3
        refine W_seq fun kz11 kq11 => ?_
        refine W_region [4] fun R hR => ?_   -- r7
        simp only [go_sem, hxi, hyi]
        refine hR _ _ (kq11 _ _ ?_); clear hR R; try clear kq11 kz11
        try simp only [go_sem, hxi, hyi]
        refine W_ret ?_
        simp only [go_sem, hxi, hyi]
        refine ⟨.inr (by trivial), ?_⟩
        first | refine Fin_same hcl rfl (Wk_eq ?_ (by simp only [go_sem])) | refine Fin_self hcl rfl (Wk_eq ?_ (by simp only [go_sem]))
        try simp only [go_sem]
        all_goals
          simp; intro h; subst h; rw [hxi] at hyi; injection hyi with h; exact c3 h
      · -- c3 false
        try simp only [nrm] at c3
        refine W_skip (kq9 _ _ ?_)
        refine W_region [0, 1, 5] fun R hR => ?_   -- r5
        simp only [go_sem, hxi, hyi]
        try simp (disch := omega) only [wrapI, wrapU]
        refine hR _ _ ?_; clear hR R
        try simp only [go_sem, hxi, hyi]
        refine ⟨i + 1, ?_, by (try simp only []); omega, ?_⟩
        · first | exact Weak.refl | exact Weak.eq (by first | rfl | (simp only [go_sem]; done) | (simp only [go_sem]; rfl) | (simp [go_sem]; done) | (simp [go_sem] <;> omega)) (by first | rfl | (simp only [go_sem]; done) | (simp [go_sem]; done))
        · try dsimp only
          refine ⟨hi', ?_⟩
          rw [List.take_add_one, List.take_add_one, ht, hxi, hyi, c3]
    · -- c2 false
      try simp only [nrm] at c2
      have hie : i = xs.length := by omega
      subst hie
      have hxy : xs = ys := by rw [List.take_length] at ht; rw [c1, List.take_length] at ht; exact ht
      refine W_exit ?_
      simp only [go_sem]
      refine kq5 _ _ ?_
      refine W_seq fun kz12 kq12 => ?_
      refine W_region [4] fun R hR => ?_   -- r8
      simp only [go_sem]
      refine hR _ _ (kq12 _ _ ?_); clear hR R; try clear kq12 kz12
      try simp only [go_sem]
      refine W_ret ?_
      simp only [go_sem]
      refine ⟨.inr (by trivial), ?_⟩
      first | refine Fin_same hcl rfl (Wk_eq ?_ (by simp only [go_sem])) | refine Fin_self hcl rfl (Wk_eq ?_ (by simp only [go_sem]))
      try simp only [go_sem]
      all_goals
        simp [hxy]
theorem eqSp {a b c d : Int} : eqPV Try.prog 48 (.agg [.int .i64 a, .int .i64 b]) (.agg [.int .i64 c, .int .i64 d]) = some (decide ((a, b) = (c, d))) := by
  rw [eqs48]
  refine congrArg some ?_
  rw [Bool.eq_iff_iff]
  simp
attribute [go_sem high] eqSp
set_option maxHeartbeats 2000000 in
theorem EqSpans_pc (Y : YEnv) (σ : Sg) (xs ys : List (Int × Int)) (o o2 : Own) (hx : xs.length < 2 ^ 50) :
    PC Try.prog Y 18 [.isl (xs.map stPV) o, .isl (ys.map stPV) o2] σ (.bool (decide (xs = ys))) (σ) := by
  refine PC_of_W Try.func18 rfl (by kernel_rfl) Try.ntmps18 (by simp) fun hcl hca => ?_
  refine W_seq fun kz1 kq1 => ?_
  refine W_region [0, 1] fun R hR => ?_   -- r0
  simp only [go_sem]
  refine hR _ _ (kq1 _ _ ?_); clear hR R; try clear kq1 kz1
  try simp only [go_sem]
  refine W_seq fun kz2 kq2 => ?_
  refine W_seq fun kz3 kq3 => ?_
  refine W_region [0, 1, 10] fun R hR => ?_   -- r1
  simp only [go_sem]
  refine hR _ _ (kq3 _ _ ?_); clear hR R; try clear kq3 kz3
  try simp only [go_sem]
  refine W_cond rfl (fun c1 => ?_) (fun c1 => ?_)
  · -- c1 true
    try simp only [nrm] at c1
    refine W_seq fun kz4 kq4 => ?_
    refine W_region [4] fun R hR => ?_   -- r2
    simp only [go_sem]
    refine hR _ _ (kq4 _ _ ?_); clear hR R; try clear kq4 kz4
    try simp only [go_sem]
    refine W_ret ?_
    simp only [go_sem]
    refine ⟨.inr (by trivial), ?_⟩
    first | refine Fin_same hcl rfl (Wk_eq ?_ (by simp only [go_sem])) | refine Fin_self hcl rfl (Wk_eq ?_ (by simp only [go_sem]))
    try simp only [go_sem]
    all_goals
      simp; intro h; subst h; exact c1 rfl
  · -- c1 false
    try simp only [nrm] at c1
    refine W_skip (kq2 _ _ ?_)
    refine W_seq fun kz5 kq5 => ?_
    refine W_seq fun kz6 kq6 => ?_
    refine W_region [0, 1, 5] fun R hR => ?_   -- r3
    simp only [go_sem]
    refine hR _ _ (kq6 _ _ ?_); clear hR R; try clear kq6 kz6
    try simp only [go_sem]
    refine W_block ?_
    refine W_loopS (α := Nat) (fun (i : Nat) => [(5, I i)]) (fun (i : Nat) => i ≤ xs.length ∧ xs.take i = ys.take i) (fun (i : Nat) => xs.length - i) (0) rfl (⟨Nat.zero_le _, rfl⟩) ?_
    rintro i ⟨hi, ht⟩
    refine W_seq fun kz7 kq7 => ?_
    refine W_seq fun kz8 kq8 => ?_
    refine W_region [0, 1, 5, 14] fun R hR => ?_   -- r4
    simp only [go_sem]
    refine hR _ _ (kq8 _ _ ?_); clear hR R; try clear kq8 kz8
    try simp only [go_sem]
    refine W_cond rfl (fun c2 => ?_) (fun c2 => ?_)
    · -- c2 true
      try simp only [nrm] at c2
      have hi' : i < xs.length := by first | assumption | omega
      obtain ⟨x, hxi⟩ : ∃ x, xs[i]? = some x := ⟨xs[i], by simp⟩
      obtain ⟨y, hyi⟩ : ∃ y, ys[i]? = some y := ⟨ys[i]'(by omega), by simp⟩
      refine W_skip (kq7 _ _ ?_)
      refine W_seq fun kz9 kq9 => ?_
      refine W_block ?_
      refine W_seq fun kz10 kq10 => ?_
      refine W_draw [0, 1, 5, 25] [0, 1, 2, 3, 4, 5, 6, 7, 8] [] [[], [], [0, 1], [0, 1, 2], [], [], [4, 5], [4, 5, 6], [0, 1, 2, 3, 4, 5, 6, 7]] mixed (by kernel_rfl) fun R hR => ?_   -- r6
      simp only [go_sem, hxi, hyi]
      try refine And.intro (by repeat' (first | refine And.intro ?_ ?_ | exact GOr_right (fun _ => by simp only [go_sem, hxi, hyi]))) ?_
      refine hR _ _ (kq10 _ _ ?_); clear hR R; try clear kq10 kz10
      try simp only [go_sem, hxi, hyi]
      refine W_cond rfl (fun c3 => ?_) (fun c3 => ?_)
      · -- c3 true
        try simp only [nrm] at c3
        refine W_seq fun kz11 kq11 => ?_
        refine W_region [4] fun R hR => ?_   -- r7
        simp only [go_sem, hxi, hyi]
        refine hR _ _ (kq11 _ _ ?_); clear hR R; try clear kq11 kz11
        try simp only [go_sem, hxi, hyi]
        refine W_ret ?_
        simp only [go_sem, hxi, hyi]
        refine ⟨.inr (by trivial), ?_⟩
        first | refine Fin_same hcl rfl (Wk_eq ?_ (by simp only [go_sem])) | refine Fin_self hcl rfl (Wk_eq ?_ (by simp only [go_sem]))
        try simp only [go_sem]
        all_goals
          simp; intro h; subst h; rw [hxi] at hyi; injection hyi with h; subst h; simp at c3
      · -- c3 false
        try simp only [nrm] at c3
        refine W_skip (kq9 _ _ ?_)
        refine W_region [0, 1, 5] fun R hR => ?_   -- r5
        simp only [go_sem, hxi, hyi]
        try simp (disch := omega) only [wrapI, wrapU]
        refine hR _ _ ?_; clear hR R
        try simp only [go_sem, hxi, hyi]
        refine ⟨i + 1, ?_, by (try simp only []); omega, ?_⟩
        · first | exact Weak.refl | exact Weak.eq (by first | rfl | (simp only [go_sem]; done) | (simp only [go_sem]; rfl) | (simp [go_sem]; done) | (simp [go_sem] <;> omega)) (by first | rfl | (simp only [go_sem]; done) | (simp [go_sem]; done))
        · try dsimp only
          refine ⟨hi', ?_⟩
          rw [List.take_add_one, List.take_add_one, ht, hxi, hyi, show x = y by obtain ⟨a, b⟩ := x; obtain ⟨c, d⟩ := y; simpa using c3]
    · -- c2 false
      try simp only [nrm] at c2
      have hie : i = xs.length := by omega
      subst hie
      have hxy : xs = ys := by rw [List.take_length] at ht; rw [c1, List.take_length] at ht; exact ht
      refine W_exit ?_
      simp only [go_sem]
      refine kq5 _ _ ?_
      refine W_seq fun kz12 kq12 => ?_
      refine W_region [4] fun R hR => ?_   -- r8
      simp only [go_sem]
      refine hR _ _ (kq12 _ _ ?_); clear hR R; try clear kq12 kz12
      try simp only [go_sem]
      refine W_ret ?_
      simp only [go_sem]
      refine ⟨.inr (by trivial), ?_⟩
      first | refine Fin_same hcl rfl (Wk_eq ?_ (by simp only [go_sem])) | refine Fin_self hcl rfl (Wk_eq ?_ (by simp only [go_sem]))
      try simp only [go_sem]
      all_goals
        simp [hxy]
set_option maxHeartbeats 2000000 in
theorem EqTables_pc (Y : YEnv) (σ : Sg) (xs ys : List Stand) (o o2 : Own) (hx : xs.length < 2 ^ 50) (hy : ∀ x, x ∈ xs → x.points.length < 2 ^ 40) :
    PC Try.prog Y 19 [.isl (xs.map sdPV) o, .isl (ys.map sdPV) o2] σ (.bool (decide (xs = ys))) (σ) := by
  refine PC_of_W Try.func19 rfl (by kernel_rfl) Try.ntmps19 (by simp) fun hcl hca => ?_
  refine W_seq fun kz1 kq1 => ?_
  refine W_region [0, 1] fun R hR => ?_   -- r0
  simp only [go_sem]
  refine hR _ _ (kq1 _ _ ?_); clear hR R; try clear kq1 kz1
  try simp only [go_sem]
  refine W_seq fun kz2 kq2 => ?_
  refine W_seq fun kz3 kq3 => ?_
  refine W_region [0, 1, 10] fun R hR => ?_   -- r1
  simp only [go_sem]
  refine hR _ _ (kq3 _ _ ?_); clear hR R; try clear kq3 kz3
  try simp only [go_sem]
  refine W_cond rfl (fun c1 => ?_) (fun c1 => ?_)
  · -- c1 true
    try simp only [nrm] at c1
    refine W_seq fun kz4 kq4 => ?_
    refine W_region [4] fun R hR => ?_   -- r2
    simp only [go_sem]
    refine hR _ _ (kq4 _ _ ?_); clear hR R; try clear kq4 kz4
    try simp only [go_sem]
    refine W_ret ?_
    simp only [go_sem]
    refine ⟨.inr (by trivial), ?_⟩
    first | refine Fin_same hcl rfl (Wk_eq ?_ (by simp only [go_sem])) | refine Fin_self hcl rfl (Wk_eq ?_ (by simp only [go_sem]))
    try simp only [go_sem]
    all_goals
      simp; intro h; subst h; exact c1 rfl
  · -- c1 false
    try simp only [nrm] at c1
    refine W_skip (kq2 _ _ ?_)
    refine W_seq fun kz5 kq5 => ?_
    refine W_seq fun kz6 kq6 => ?_
    refine W_region [0, 1, 5] fun R hR => ?_   -- r3
    simp only [go_sem]
    refine hR _ _ (kq6 _ _ ?_); clear hR R; try clear kq6 kz6
    try simp only [go_sem]
    refine W_block ?_
    refine W_loopS (α := Nat) (fun (i : Nat) => [(5, I i)]) (fun (i : Nat) => i ≤ xs.length ∧ xs.take i = ys.take i) (fun (i : Nat) => xs.length - i) (0) rfl (⟨Nat.zero_le _, rfl⟩) ?_
    rintro i ⟨hi, ht⟩
    refine W_seq fun kz7 kq7 => ?_
    refine W_seq fun kz8 kq8 => ?_
    refine W_region [0, 1, 5, 14] fun R hR => ?_   -- r4
    simp only [go_sem]
    refine hR _ _ (kq8 _ _ ?_); clear hR R; try clear kq8 kz8
    try simp only [go_sem]
    refine W_cond rfl (fun c2 => ?_) (fun c2 => ?_)
    · -- c2 true
      try simp only [nrm] at c2
      have hi' : i < xs.length := by first | assumption | omega
      obtain ⟨x, hxi⟩ : ∃ x, xs[i]? = some x := ⟨xs[i], by simp⟩
      obtain ⟨y, hyi⟩ : ∃ y, ys[i]? = some y := ⟨ys[i]'(by omega), by simp⟩
      refine W_skip (kq7 _ _ ?_)
      refine W_seq fun kz9 kq9 => ?_
      refine W_block ?_
      refine W_seq fun kz10 kq10 => ?_
      refine W_draw [0, 1, 5, 54] [0, 1, 2, 3, 4, 5, 6, 7, 8, 9, 10, 11, 12, 13, 14, 15, 16, 17, 18, 19, 20, 21, 22, 23, 24, 25, 26, 27, 28, 29, 30, 31, 32, 33, 34, 35, 36, 37] [] [[], [], [0, 1], [0, 1, 2], [0, 1, 2, 3], [], [], [5, 6], [5, 6, 7], [5, 6, 7, 8], [0, 1, 2, 3, 4, 5, 6, 7, 8, 9], [0, 1, 2, 3, 4, 5, 6, 7, 8, 9, 10], [0, 1, 2, 3, 4, 5, 6, 7, 8, 9, 10, 11], [0, 1, 2, 3, 4, 5, 6, 7, 8, 9, 10, 11], [0, 1, 2, 3, 4, 5, 6, 7, 8, 9, 10, 11, 12, 13], [0, 1, 2, 3, 4, 5, 6, 7, 8, 9, 10, 11, 12, 13, 14], [0, 1, 2, 3, 4, 5, 6, 7, 8, 9, 10, 11, 12, 13, 14, 15], [0, 1, 2, 3, 4, 5, 6, 7, 8, 9, 10, 11], [0, 1, 2, 3, 4, 5, 6, 7, 8, 9, 10, 11], [0, 1, 2, 3, 4, 5, 6, 7, 8, 9, 10, 11, 17, 18], [0, 1, 2, 3, 4, 5, 6, 7, 8, 9, 10, 11, 17, 18, 19], [0, 1, 2, 3, 4, 5, 6, 7, 8, 9, 10, 11, 17, 18, 19, 20], [0, 1, 2, 3, 4, 5, 6, 7, 8, 9, 10, 11, 12, 13, 14, 15, 16, 17, 18, 19, 20, 21], [0, 1, 2, 3, 4, 5, 6, 7, 8, 9, 10, 11, 12, 13, 14, 15, 16, 17, 18, 19, 20, 21, 22], [0, 1, 2, 3, 4, 5, 6, 7, 8, 9, 10, 11, 12, 13, 14, 15, 16, 17, 18, 19, 20, 21, 22, 23], [0, 1, 2, 3, 4, 5, 6, 7, 8, 9, 10, 11, 12, 13, 14, 15, 16, 17, 18, 19, 20, 21, 22, 23, 24], [0, 1, 2, 3, 4, 5, 6, 7, 8, 9, 10, 11, 12, 13, 14, 15, 16, 17, 18, 19, 20, 21, 22, 23, 24], [0, 1, 2, 3, 4, 5, 6, 7, 8, 9, 10, 11, 12, 13, 14, 15, 16, 17, 18, 19, 20, 21, 22, 23, 24, 25, 26], [0, 1, 2, 3, 4, 5, 6, 7, 8, 9, 10, 11, 12, 13, 14, 15, 16, 17, 18, 19, 20, 21, 22, 23, 24, 25, 26, 27], [0, 1, 2, 3, 4, 5, 6, 7, 8, 9, 10, 11, 12, 13, 14, 15, 16, 17, 18, 19, 20, 21, 22, 23, 24, 25, 26, 27, 28], [0, 1, 2, 3, 4, 5, 6, 7, 8, 9, 10, 11, 12, 13, 14, 15, 16, 17, 18, 19, 20, 21, 22, 23, 24], [0, 1, 2, 3, 4, 5, 6, 7, 8, 9, 10, 11, 12, 13, 14, 15, 16, 17, 18, 19, 20, 21, 22, 23, 24], [0, 1, 2, 3, 4, 5, 6, 7, 8, 9, 10, 11, 12, 13, 14, 15, 16, 17, 18, 19, 20, 21, 22, 23, 24, 30, 31], [0, 1, 2, 3, 4, 5, 6, 7, 8, 9, 10, 11, 12, 13, 14, 15, 16, 17, 18, 19, 20, 21, 22, 23, 24, 30, 31, 32], [0, 1, 2, 3, 4, 5, 6, 7, 8, 9, 10, 11, 12, 13, 14, 15, 16, 17, 18, 19, 20, 21, 22, 23, 24, 30, 31, 32, 33], [0, 1, 2, 3, 4, 5, 6, 7, 8, 9, 10, 11, 12, 13, 14, 15, 16, 17, 18, 19, 20, 21, 22, 23, 24, 25, 26, 27, 28, 29, 30, 31, 32, 33, 34], [0, 1, 2, 3, 4, 5, 6, 7, 8, 9, 10, 11, 12, 13, 14, 15, 16, 17, 18, 19, 20, 21, 22, 23, 24, 25, 26, 27, 28, 29, 30, 31, 32, 33, 34, 35], [0, 1, 2, 3, 4, 5, 6, 7, 8, 9, 10, 11, 12, 13, 14, 15, 16, 17, 18, 19, 20, 21, 22, 23, 24, 25, 26, 27, 28, 29, 30, 31, 32, 33, 34, 35, 36]] mixed (by kernel_rfl) fun R hR => ?_   -- r6
      simp only [go_sem, hxi, hyi]
      refine GWant_split (fun g1 => ?_) (fun g1 => ?_)
      · try simp only [Bool.not_eq_true', Bool.not_eq_false'] at g1
        have n1 := g1; try simp only [nrm] at n1
        simp only [go_sem, hxi, hyi, g1]
        refine GWant_split (fun g2 => ?_) (fun g2 => ?_)
        · try simp only [Bool.not_eq_true', Bool.not_eq_false'] at g2
          have n2 := g2; try simp only [nrm] at n2
          simp only [go_sem, hxi, hyi, g1, g2]
          refine GCall_of (EqInts_pc Y _ x.points y.points .ro .ro (by have := hy x (List.mem_of_getElem? hxi); omega)) ?_   -- t52
          simp only [go_sem, hxi, hyi, g1, g2]
          try refine And.intro (by repeat' (first | refine And.intro ?_ ?_ | exact GOr_right (fun _ => by simp only [go_sem, hxi, hyi]))) ?_
          refine hR _ _ (kq10 _ _ ?_); clear hR R; try clear kq10 kz10
          try simp only [go_sem, hxi, hyi]
          refine W_cond rfl (fun c3 => ?_) (fun c3 => ?_)
          · -- c3 true
            try simp only [nrm] at c3
            refine W_seq fun kz11 kq11 => ?_
            refine W_region [4] fun R hR => ?_   -- r7
            simp only [go_sem, hxi, hyi]
            refine hR _ _ (kq11 _ _ ?_); clear hR R; try clear kq11 kz11
            try simp only [go_sem, hxi, hyi]
            refine W_ret ?_
            simp only [go_sem, hxi, hyi]
            refine ⟨.inr (by trivial), ?_⟩
            first | refine Fin_same hcl rfl (Wk_eq ?_ (by simp only [go_sem])) | refine Fin_self hcl rfl (Wk_eq ?_ (by simp only [go_sem]))
            try simp only [go_sem]
            all_goals
              simp; intro h; subst h; rw [hxi] at hyi; injection hyi with h; subst h; simp_all
          · -- c3 false
            try simp only [nrm] at c3
            refine W_skip (kq9 _ _ ?_)
            refine W_region [0, 1, 5] fun R hR => ?_   -- r5
            simp only [go_sem, hxi, hyi]
            try simp (disch := omega) only [wrapI, wrapU]
            refine hR _ _ ?_; clear hR R
            try simp only [go_sem, hxi, hyi]
            refine ⟨i + 1, ?_, by (try simp only []); omega, ?_⟩
            · first | exact Weak.refl | exact Weak.eq (by first | rfl | (simp only [go_sem]; done) | (simp only [go_sem]; rfl) | (simp [go_sem]; done) | (simp [go_sem] <;> omega)) (by first | rfl | (simp only [go_sem]; done) | (simp [go_sem]; done))
            · try dsimp only
              refine ⟨hi', ?_⟩
              rw [List.take_add_one, List.take_add_one, ht, hxi, hyi, show x = y by obtain ⟨a, b, c⟩ := x; obtain ⟨a2, b2, c2⟩ := y; simp_all]
        · try simp only [Bool.not_eq_true', Bool.not_eq_false'] at g2
          have n2 := g2; try simp only [nrm] at n2
          simp only [go_sem, hxi, hyi, g1, g2]
          try refine And.intro (by repeat' (first | refine And.intro ?_ ?_ | exact GOr_right (fun _ => by simp only [go_sem, hxi, hyi]))) ?_
          refine hR _ _ (kq10 _ _ ?_); clear hR R; try clear kq10 kz10
          try simp only [go_sem, hxi, hyi]
          refine W_cond_true rfl ?_
          refine W_seq fun kz12 kq12 => ?_
          refine W_region [4] fun R hR => ?_   -- r7
          simp only [go_sem, hxi, hyi]
          refine hR _ _ (kq12 _ _ ?_); clear hR R; try clear kq12 kz12
          try simp only [go_sem, hxi, hyi]
          refine W_ret ?_
          simp only [go_sem, hxi, hyi]
          refine ⟨.inr (by trivial), ?_⟩
          first | refine Fin_same hcl rfl (Wk_eq ?_ (by simp only [go_sem])) | refine Fin_self hcl rfl (Wk_eq ?_ (by simp only [go_sem]))
          try simp only [go_sem]
          all_goals
            simp; intro h; subst h; rw [hxi] at hyi; injection hyi with h; subst h; simp_all
      · try simp only [Bool.not_eq_true', Bool.not_eq_false'] at g1
        have n1 := g1; try simp only [nrm] at n1
        simp only [go_sem, hxi, hyi, g1]
        try refine And.intro (by repeat' (first | refine And.intro ?_ ?_ | exact GOr_right (fun _ => by simp only [go_sem, hxi, hyi]))) ?_
        refine hR _ _ (kq10 _ _ ?_); clear hR R; try clear kq10 kz10
        try simp only [go_sem, hxi, hyi]
        refine W_cond_true rfl ?_
        refine W_seq fun kz13 kq13 => ?_
        refine W_region [4] fun R hR => ?_   -- r7
        simp only [go_sem, hxi, hyi]
        refine hR _ _ (kq13 _ _ ?_); clear hR R; try clear kq13 kz13
        try simp only [go_sem, hxi, hyi]
        refine W_ret ?_
        simp only [go_sem, hxi, hyi]
        refine ⟨.inr (by trivial), ?_⟩
        first | refine Fin_same hcl rfl (Wk_eq ?_ (by simp only [go_sem])) | refine Fin_self hcl rfl (Wk_eq ?_ (by simp only [go_sem]))
        try simp only [go_sem]
        all_goals
          simp; intro h; subst h; rw [hxi] at hyi; injection hyi with h; subst h; simp_all
    · -- c2 false
      try simp only [nrm] at c2
      have hie : i = xs.length := by omega
      subst hie
      have hxy : xs = ys := by rw [List.take_length] at ht; rw [c1, List.take_length] at ht; exact ht
      refine W_exit ?_
      simp only [go_sem]
      refine kq5 _ _ ?_
      refine W_seq fun kz14 kq14 => ?_
      refine W_region [4] fun R hR => ?_   -- r8
      simp only [go_sem]
      refine hR _ _ (kq14 _ _ ?_); clear hR R; try clear kq14 kz14
      try simp only [go_sem]
      refine W_ret ?_
      simp only [go_sem]
      refine ⟨.inr (by trivial), ?_⟩
      first | refine Fin_same hcl rfl (Wk_eq ?_ (by simp only [go_sem])) | refine Fin_self hcl rfl (Wk_eq ?_ (by simp only [go_sem]))
      try simp only [go_sem]
      all_goals
        simp [hxy]
set_option maxHeartbeats 2000000 in
theorem Has_pc (Y : YEnv) (σ : Sg) (l : List Int) (v : Int) (o : Own) (hl : l.length < 2 ^ 62) :
    PC Try.prog Y 21 [intsO o l, I v] σ (.bool (has l v)) (σ) := by
  refine PC_of_W Try.func21 rfl (by kernel_rfl) Try.ntmps21 (by simp) fun hcl hca => ?_
  obtain ⟨res, hres⟩ : ∃ r, has l v = r := ⟨_, rfl⟩
  rw [hres]
  refine W_seq fun kz1 kq1 => ?_
  refine W_region [0, 1] fun R hR => ?_   -- r0
  simp only [go_sem]
  refine hR _ _ (kq1 _ _ ?_); clear hR R; try clear kq1 kz1
  try simp only [go_sem]
  refine W_seq fun kz2 kq2 => ?_
  refine W_seq fun kz3 kq3 => ?_
  refine W_region [0, 1, 5] fun R hR => ?_   -- r1
  simp only [go_sem]
  refine hR _ _ (kq3 _ _ ?_); clear hR R; try clear kq3 kz3
  try simp only [go_sem]
  refine W_block ?_
  refine W_loopS (α := Nat) (fun (i : Nat) => [(5, I i)]) (fun (i : Nat) => i ≤ l.length ∧ res = has (l.drop i) v) (fun (i : Nat) => l.length - i) (0) rfl (⟨Nat.zero_le _, hres.symm⟩) ?_
  rintro i ⟨hi, hinv⟩
  refine W_seq fun kz4 kq4 => ?_
  refine W_seq fun kz5 kq5 => ?_
  refine W_region [0, 1, 5, 9] fun R hR => ?_   -- r2
  simp only [go_sem]
  refine hR _ _ (kq5 _ _ ?_); clear hR R; try clear kq5 kz5
  try simp only [go_sem]
  refine W_cond rfl (fun c1 => ?_) (fun c1 => ?_)
  · -- c1 true
    try simp only [nrm] at c1
    have hi' : i < l.length := by first | assumption | omega
    obtain ⟨x, hx⟩ : ∃ x, l[i]? = some x := ⟨l[i], by simp [hi']⟩
    have hdrop : l.drop i = x :: l.drop (i + 1) := by
      rw [List.drop_eq_getElem_cons hi']; congr 1; exact (List.getElem?_eq_some_iff.1 hx).2
    rw [hdrop, has_cons] at hinv
    refine W_skip (kq4 _ _ ?_)
    refine W_seq fun kz6 kq6 => ?_
    refine W_block ?_
    refine W_seq fun kz7 kq7 => ?_
    refine W_region [0, 1, 5, 17] fun R hR => ?_   -- r4
    simp only [go_sem, hx]
    refine hR _ _ (kq7 _ _ ?_); clear hR R; try clear kq7 kz7
    try simp only [go_sem, hx]
    refine W_cond rfl (fun c2 => ?_) (fun c2 => ?_)
    · -- c2 true
      try simp only [nrm] at c2
      refine W_seq fun kz8 kq8 => ?_
      refine W_region [4] fun R hR => ?_   -- r5
      simp only [go_sem, hx]
      refine hR _ _ (kq8 _ _ ?_); clear hR R; try clear kq8 kz8
      try simp only [go_sem, hx]
      refine W_ret ?_
      simp only [go_sem, hx]
      refine ⟨.inr (by trivial), ?_⟩
      first | refine Fin_same hcl rfl (Wk_eq ?_ (by simp only [go_sem])) | refine Fin_self hcl rfl (Wk_eq ?_ (by simp only [go_sem]))
      try simp only [go_sem]
      all_goals
        first | rfl | (simp_all; done) | (simp_all; omega)
    · -- c2 false
      try simp only [nrm] at c2
      refine W_skip (kq6 _ _ ?_)
      refine W_region [0, 1, 5] fun R hR => ?_   -- r3
      simp only [go_sem, hx]
      try simp (disch := omega) only [wrapI, wrapU]
      refine hR _ _ ?_; clear hR R
      try simp only [go_sem, hx]
      refine ⟨i + 1, ?_, by (try simp only []); omega, ?_⟩
      · first | exact Weak.refl | exact Weak.eq (by first | rfl | (simp only [go_sem]; done) | (simp only [go_sem]; rfl) | (simp [go_sem]; done) | (simp [go_sem] <;> omega)) (by first | rfl | (simp only [go_sem]; done) | (simp [go_sem]; done))
      · try dsimp only
        exact ⟨hi', by simp_all⟩
  · -- c1 false
    try simp only [nrm] at c1
    have hdrop : l.drop i = [] := List.drop_eq_nil_of_le (by omega)
    rw [hdrop, has_nil] at hinv
    refine W_exit ?_
    simp only [go_sem]
    refine kq2 _ _ ?_
    refine W_seq fun kz9 kq9 => ?_
    refine W_region [4] fun R hR => ?_   -- r6
    simp only [go_sem]
    refine hR _ _ (kq9 _ _ ?_); clear hR R; try clear kq9 kz9
    try simp only [go_sem]
    refine W_ret ?_
    simp only [go_sem]
    refine ⟨.inr (by trivial), ?_⟩
    first | refine Fin_same hcl rfl (Wk_eq ?_ (by simp only [go_sem])) | refine Fin_self hcl rfl (Wk_eq ?_ (by simp only [go_sem]))
    try simp only [go_sem]
    all_goals
      first | rfl | (simp_all; done) | (simp_all; omega)
set_option maxHeartbeats 2000000 in
theorem span_pc (Y : YEnv) (σ : Sg) (a b : Int) :
    PC Try.prog Y 48 [I a, I b] σ (.agg [I a, I b]) (σ) := by
  refine PC_of_W Try.func48 rfl (by kernel_rfl) Try.ntmps48 (by simp) fun hcl hca => ?_
  refine W_seq fun kz1 kq1 => ?_
  refine W_region [0, 1, 4] fun R hR => ?_   -- r0
  simp only [go_sem]
  refine hR _ _ (kq1 _ _ ?_); clear hR R; try clear kq1 kz1
  try simp only [go_sem]
  refine W_seq fun kz2 kq2 => ?_
  refine W_region [4] fun R hR => ?_   -- r1
  simp only [go_sem]
  refine hR _ _ (kq2 _ _ ?_); clear hR R; try clear kq2 kz2
  try simp only [go_sem]
  refine W_ret ?_
  simp only [go_sem]
  refine ⟨.inr (by trivial), ?_⟩
  first | refine Fin_same hcl (by show resPV Try.prog _ _ [.cell 4 48] = some _; simp only [resPV, go_sem]; rfl) (Wk_eq ?_ (by simp only [go_sem])) | refine Fin_same hcl rfl (Wk_eq ?_ (by simp only [go_sem]))
  try simp only [go_sem]
  all_goals
    first | rfl | (simp_all; done) | (simp_all; omega)
set_option maxHeartbeats 2000000 in
theorem scale_pc (Y : YEnv) (σ : Sg)  :
    PC Try.prog Y 45 [] σ (scPV exScale) (σ) := by
  refine PC_of_W Try.func45 rfl (by kernel_rfl) Try.ntmps45 (by simp) fun hcl hca => ?_
  refine W_seq fun kz1 kq1 => ?_
  refine W_region [0] fun R hR => ?_   -- r0
  simp only [go_sem]
  refine hR _ _ (kq1 _ _ ?_); clear hR R; try clear kq1 kz1
  try simp only [go_sem]
  refine W_seq fun kz2 kq2 => ?_
  refine W_region [0] fun R hR => ?_   -- r1
  simp only [go_sem]
  refine hR _ _ (kq2 _ _ ?_); clear hR R; try clear kq2 kz2
  try simp only [go_sem]
  refine W_ret ?_
  simp only [go_sem]
  refine ⟨.inr (by trivial), ?_⟩
  refine Fin_same hcl (by show resPV Try.prog _ _ [.cell 0 26] = some _; simp only [resPV, go_sem]; rfl) (Wk.ro (by simp only [go_sem]) ?_)
  try simp only [go_sem]
  all_goals
    rfl
set_option maxHeartbeats 2000000 in
theorem night_pc (Y : YEnv) (σ : Sg)  :
    PC Try.prog Y 46 [] σ (ngPV exNight) (σ) := by
  refine PC_of_W Try.func46 rfl (by kernel_rfl) Try.ntmps46 (by simp) fun hcl hca => ?_
  refine W_seq fun kz1 kq1 => ?_
  refine W_region [0] fun R hR => ?_   -- r0
  simp only [go_sem]
  refine hR _ _ (kq1 _ _ ?_); clear hR R; try clear kq1 kz1
  try simp only [go_sem]
  refine W_seq fun kz2 kq2 => ?_
  refine W_region [0] fun R hR => ?_   -- r1
  simp only [go_sem]
  refine hR _ _ (kq2 _ _ ?_); clear hR R; try clear kq2 kz2
  try simp only [go_sem]
  refine W_ret ?_
  simp only [go_sem]
  refine ⟨.inr (by trivial), ?_⟩
  refine Fin_same hcl (by show resPV Try.prog _ _ [.cell 0 32] = some _; simp only [resPV, go_sem]; rfl) (Wk.ro (by simp only [go_sem]) ?_)
  try simp only [go_sem]
  all_goals
    rfl
set_option maxHeartbeats 2000000 in
theorem before_pc (Y : YEnv) (σ : Sg)  :
    PC Try.prog Y 47 [] σ (ngPV exBefore) (σ) := by
  refine PC_of_W Try.func47 rfl (by kernel_rfl) Try.ntmps47 (by simp) fun hcl hca => ?_
  refine W_seq fun kz1 kq1 => ?_
  refine W_region [0] fun R hR => ?_   -- r0
  simp only [go_sem]
  refine hR _ _ (kq1 _ _ ?_); clear hR R; try clear kq1 kz1
  try simp only [go_sem]
  refine W_seq fun kz2 kq2 => ?_
  refine W_region [0, 1] fun R hR => ?_   -- r1
  simp only [go_sem]
  refine GCall_of (night_pc Y _) ?_   -- t2
  simp only [go_sem]
  refine hR _ _ (kq2 _ _ ?_); clear hR R; try clear kq2 kz2
  try simp only [go_sem]
  refine W_seq fun kz3 kq3 => ?_
  have hz4 : ((0 : Int) ≤ 4) = True := by decide
  have hb4 : (Int.toNat 4 ≤ exNight.opened.length) = True := by decide
  refine W_region [0, 1] fun R hR => ?_   -- r2
  simp only [go_sem, hz4, hb4]
  refine hR _ _ (kq3 _ _ ?_); clear hR R; try clear kq3 kz3
  try simp only [go_sem]
  refine W_seq fun kz4 kq4 => ?_
  refine W_region [0] fun R hR => ?_   -- r3
  simp only [go_sem]
  refine hR _ _ (kq4 _ _ ?_); clear hR R; try clear kq4 kz4
  try simp only [go_sem]
  refine W_ret ?_
  simp only [go_sem]
  refine ⟨.inr (by trivial), ?_⟩
  refine Fin_same hcl (by show resPV Try.prog _ _ [.cell 0 32] = some _; simp only [resPV, go_sem]; rfl) (Wk.ro (by simp only [go_sem]) ?_)
  try simp only [go_sem]
  all_goals
    rfl
end Go.Proofs.Ytgelnjmddabgpaa
namespace Go.Proofs.Ytgelnjmddabgpaa
open Go Go.RowKit
set_option maxRecDepth 100000
end Go.Proofs.Ytgelnjmddabgpaa
namespace Go.Proofs.Ytgelnjmddabgpaa
open Go Go.RowKit
set_option maxRecDepth 100000
def nb (L i : Nat) : Int := (if 0 < i then 1 else 0) + (if i + 1 < L then 1 else 0)
def dupL : List Int → List Int → Bool
  | _, [] => false
  | met, x :: l => has met x || dupL (met ++ [x]) l
def chkL (L : Nat) (n : Int) : Nat → List Int → List (List Int) → Int
  | _, _, [] => 0
  | i, met, l :: r => if 8 < (l.length : Int) then 5 else if dupL met l = true then 8 else if (l.length : Int) < n * nb L i then 4 else chkL L n (i + 1) (met ++ l) r
def lgAt (ls : List (List Int)) (i : Nat) : List Int := (ls[i]?).getD []
def nextL (ls : List (List Int)) (n i : Nat) : List Int :=
  (if 0 < i then (lgAt ls (i - 1)).drop ((lgAt ls (i - 1)).length - n) else []) ++ (((lgAt ls i).drop (if 0 < i then n else 0)).take (((lgAt ls i).length - (if i + 1 < ls.length then n else 0)) - (if 0 < i then n else 0)) ++ (if i + 1 < ls.length then (lgAt ls (i + 1)).take n else []))
def nextA (ls : List (List Int)) (n i : Nat) : List (List Int) := (List.range i).map (nextL ls n)
def moveA (ls : List (List Int)) (n : Int) : List (List Int) × Int :=
  if 6 < (ls.length : Int) then ([], 5) else if !(inR n 0 8) then ([], 2) else if chkL ls.length n 0 [] ls ≠ 0 then ([], chkL ls.length n 0 [] ls) else (nextA ls n.toNat ls.length, 0)
theorem nextA_succ (ls : List (List Int)) (n i : Nat) : nextA ls n (i + 1) = nextA ls n i ++ [nextL ls n i] := by simp [nextA, List.range_succ]
theorem nextA_len (ls : List (List Int)) (n i : Nat) : (nextA ls n i).length = i := by simp [nextA]
def metM (l : List Int) : List (Int × Bool) := l.foldl (fun m x => aput x true m) []
theorem metM_snoc (l : List Int) (x : Int) : aput x true (metM l) = metM (l ++ [x]) := by simp [metM, List.foldl_append]
theorem metM_has (l : List Int) : ∀ v, (aget v (metM l)).getD false = has l v := by
  suffices h : ∀ (l : List Int) (m : List (Int × Bool)) (v : Int), (aget v (l.foldl (fun m x => aput x true m) m)).getD false = ((aget v m).getD false || has l v) by
    intro v
    have := h l [] v
    simpa [metM, aget] using this
  intro l
  induction l with
  | nil => intro m v; simp [has_nil]
  | cons x l ih =>
    intro m v
    rw [List.foldl_cons, ih, aget_put, has_cons]
    by_cases e : v = x
    · subst e; simp
    · rw [if_neg e]
      have : decide (x = v) = false := by simp; exact fun h => e h.symm
      rw [this, Bool.false_or]
theorem nb_bd (L i : Nat) : 0 ≤ nb L i ∧ nb L i ≤ 2 := by unfold nb; split <;> split <;> omega
theorem chkL_ok {L : Nat} {n : Int} : ∀ {r : List (List Int)} {i : Nat} {met : List Int}, chkL L n i met r = 0 → ∀ (j : Nat) (x : List Int), r[j]? = some x → (x.length : Int) ≤ 8 ∧ n * nb L (i + j) ≤ x.length := by
  intro r
  induction r with
  | nil => intro i met _ j x hx; simp at hx
  | cons l r ih =>
    intro i met h j x hx
    simp only [chkL] at h
    split at h
    · omega
    · split at h
      · omega
      · split at h
        · omega
        · cases j with
          | zero => simp at hx; subst hx; exact ⟨by omega, by rw [Nat.add_zero]; omega⟩
          | succ j =>
            have := ih h j x (by simpa using hx)
            rw [show i + (j + 1) = i + 1 + j by omega]
            exact this
theorem nb_lo {n : Int} (hn : 0 ≤ n) {L i : Nat} {k : Int} (h : n * nb L i ≤ k) : (0 < i → n ≤ k) ∧ (i + 1 < L → n ≤ k) ∧ (0 < i → i + 1 < L → 2 * n ≤ k) := by
  unfold nb at h
  refine ⟨fun a => ?_, fun a => ?_, fun a b => ?_⟩
  · rw [if_pos a] at h
    split at h <;> simp [Int.mul_add] at h <;> omega
  · rw [if_pos a] at h
    split at h <;> simp [Int.mul_add] at h <;> omega
  · rw [if_pos a, if_pos b] at h
    simp [Int.mul_add] at h; omega
set_option maxHeartbeats 2000000 in
theorem neighb_pc (Y : YEnv) (σ : Sg) (ls : List (List Int)) (i : Nat) (hl : ls.length < 2 ^ 40) (hi : i < ls.length) :
    PC Try.prog Y 53 [lls ls, I i] σ (I (nb ls.length i)) (σ) := by
  refine PC_of_W Try.func53 rfl (by kernel_rfl) Try.ntmps53 (by simp) fun hcl hca => ?_
  refine W_seq fun kz1 kq1 => ?_
  refine W_region [0, 1] fun R hR => ?_   -- r0
  simp only [go_sem]
  refine hR _ _ (kq1 _ _ ?_); clear hR R; try clear kq1 kz1
  try simp only [go_sem]
  refine W_seq fun kz2 kq2 => ?_
  refine W_region [0, 1, 5] fun R hR => ?_   -- r1
  simp only [go_sem]
  refine hR _ _ (kq2 _ _ ?_); clear hR R; try clear kq2 kz2
  try simp only [go_sem]
  refine W_seq fun kz3 kq3 => ?_
  refine W_seq fun kz4 kq4 => ?_
  refine W_region [0, 1, 5, 7] fun R hR => ?_   -- r2
  simp only [go_sem]
  refine hR _ _ (kq4 _ _ ?_); clear hR R; try clear kq4 kz4
  try simp only [go_sem]
  refine W_cond rfl (fun c1 => ?_) (fun c1 => ?_)
  · -- c1 true
    try simp only [nrm] at c1
    refine W_region [0, 1, 5] fun R hR => ?_   -- r3
    simp only [go_sem]
    try simp (disch := omega) only [wrapI, wrapU]
    refine hR _ _ (kq3 _ _ ?_); clear hR R; try clear kq3 kz3
    try simp only [go_sem]
    refine W_seq fun kz5 kq5 => ?_
    refine W_seq fun kz6 kq6 => ?_
    refine W_region [5, 14] fun R hR => ?_   -- r4
    simp only [go_sem]
    try simp (disch := omega) only [wrapI, wrapU]
    refine hR _ _ (kq6 _ _ ?_); clear hR R; try clear kq6 kz6
    try simp only [go_sem]
    refine W_cond rfl (fun c2 => ?_) (fun c2 => ?_)
    · -- c2 true
      try simp only [nrm] at c2
      refine W_region [5] fun R hR => ?_   -- r5
      simp only [go_sem]
      try simp (disch := omega) only [wrapI, wrapU]
      refine hR _ _ (kq5 _ _ ?_); clear hR R; try clear kq5 kz5
      try simp only [go_sem]
      refine W_seq fun kz7 kq7 => ?_
      refine W_region [4] fun R hR => ?_   -- r6
      simp only [go_sem]
      refine hR _ _ (kq7 _ _ ?_); clear hR R; try clear kq7 kz7
      try simp only [go_sem]
      refine W_ret ?_
      simp only [go_sem]
      refine ⟨.inr (by trivial), ?_⟩
      first | refine Fin_same hcl rfl (Wk_eq ?_ (by simp only [go_sem])) | refine Fin_self hcl rfl (Wk_eq ?_ (by simp only [go_sem]))
      try simp only [go_sem]
      all_goals
        congr 1; simp only [nb]; (repeat' split) <;> omega
    · -- c2 false
      try simp only [nrm] at c2
      refine W_skip (kq5 _ _ ?_)
      refine W_seq fun kz8 kq8 => ?_
      refine W_region [4] fun R hR => ?_   -- r6
      simp only [go_sem]
      refine hR _ _ (kq8 _ _ ?_); clear hR R; try clear kq8 kz8
      try simp only [go_sem]
      refine W_ret ?_
      simp only [go_sem]
      refine ⟨.inr (by trivial), ?_⟩
      first | refine Fin_same hcl rfl (Wk_eq ?_ (by simp only [go_sem])) | refine Fin_self hcl rfl (Wk_eq ?_ (by simp only [go_sem]))
      try simp only [go_sem]
      all_goals
        congr 1; simp only [nb]; (repeat' split) <;> omega
  · -- c1 false
    try simp only [nrm] at c1
    refine W_skip (kq3 _ _ ?_)
    refine W_seq fun kz9 kq9 => ?_
    refine W_seq fun kz10 kq10 => ?_
    refine W_region [5, 14] fun R hR => ?_   -- r4
    simp only [go_sem]
    try simp (disch := omega) only [wrapI, wrapU]
    refine hR _ _ (kq10 _ _ ?_); clear hR R; try clear kq10 kz10
    try simp only [go_sem]
    refine W_cond rfl (fun c3 => ?_) (fun c3 => ?_)
    · -- c3 true
      try simp only [nrm] at c3
      refine W_region [5] fun R hR => ?_   -- r5
      simp only [go_sem]
      try simp (disch := omega) only [wrapI, wrapU]
      refine hR _ _ (kq9 _ _ ?_); clear hR R; try clear kq9 kz9
      try simp only [go_sem]
      refine W_seq fun kz11 kq11 => ?_
      refine W_region [4] fun R hR => ?_   -- r6
      simp only [go_sem]
      refine hR _ _ (kq11 _ _ ?_); clear hR R; try clear kq11 kz11
      try simp only [go_sem]
      refine W_ret ?_
      simp only [go_sem]
      refine ⟨.inr (by trivial), ?_⟩
      first | refine Fin_same hcl rfl (Wk_eq ?_ (by simp only [go_sem])) | refine Fin_self hcl rfl (Wk_eq ?_ (by simp only [go_sem]))
      try simp only [go_sem]
      all_goals
        congr 1; simp only [nb]; (repeat' split) <;> omega
    · -- c3 false
      try simp only [nrm] at c3
      refine W_skip (kq9 _ _ ?_)
      refine W_seq fun kz12 kq12 => ?_
      refine W_region [4] fun R hR => ?_   -- r6
      simp only [go_sem]
      refine hR _ _ (kq12 _ _ ?_); clear hR R; try clear kq12 kz12
      try simp only [go_sem]
      refine W_ret ?_
      simp only [go_sem]
      refine ⟨.inr (by trivial), ?_⟩
      first | refine Fin_same hcl rfl (Wk_eq ?_ (by simp only [go_sem])) | refine Fin_self hcl rfl (Wk_eq ?_ (by simp only [go_sem]))
      try simp only [go_sem]
      all_goals
        congr 1; simp only [nb]; (repeat' split) <;> omega
set_option maxHeartbeats 16000000 in
theorem Move_pc (Y : YEnv) (σ : Sg) (ls : List (List Int)) (n : Int) (hl : ls.length < 2 ^ 40) (hx8 : ∀ x, x ∈ ls → x.length < 2 ^ 40) :
    PC Try.prog Y 34 [lls ls, I n] σ (.tuple [lls (moveA ls n).1, I (moveA ls n).2]) (σ) := by
  refine PC_of_W Try.func34 rfl (by kernel_rfl) Try.ntmps34 (by simp) fun hcl hca => ?_
  obtain ⟨res, hres⟩ : ∃ r, moveA ls n = r := ⟨_, rfl⟩
  rw [hres]
  refine W_seq fun kz1 kq1 => ?_
  refine W_region [0, 1] fun R hR => ?_   -- r0
  simp only [go_sem, llPV]
  refine hR _ _ (kq1 _ _ ?_); clear hR R; try clear kq1 kz1
  try simp only [go_sem, llPV]
  refine W_seq fun kz2 kq2 => ?_
  refine W_block ?_
  refine W_seq fun kz3 kq3 => ?_
  refine W_region [0, 1, 18] fun R hR => ?_   -- r1
  simp only [go_sem, llPV]
  refine hR _ _ (kq3 _ _ ?_); clear hR R; try clear kq3 kz3
  try simp only [go_sem, llPV]
  refine W_cond rfl (fun c1 => ?_) (fun c1 => ?_)
  · -- c1 true
    try simp only [nrm] at c1
    refine W_seq fun kz4 kq4 => ?_
    refine W_region [4, 5] fun R hR => ?_   -- r2
    simp only [go_sem, llPV]
    refine hR _ _ (kq4 _ _ ?_); clear hR R; try clear kq4 kz4
    try simp only [go_sem, llPV]
    refine W_ret ?_
    simp only [go_sem, llPV]
    refine ⟨.inr (by trivial), ?_⟩
    first | refine Fin_same hcl rfl (Wk.ro (by simp only [go_sem]) ?_) | refine Fin_self hcl rfl (Wk.ro (by simp only [go_sem]) ?_)
    try simp only [go_sem]
    all_goals
      rw [← hres]; clear hres; simp [moveA, *]
  · -- c1 false
    try simp only [nrm] at c1
    refine W_seq fun kz5 kq5 => ?_
    refine W_region [0, 1, 22] fun R hR => ?_   -- r3
    simp only [go_sem, llPV]
    refine GCall_of (in_pc Y _ n 0 8) ?_   -- t24
    simp only [go_sem, llPV]
    refine hR _ _ (kq5 _ _ ?_); clear hR R; try clear kq5 kz5
    try simp only [go_sem, llPV]
    refine W_cond rfl (fun c2 => ?_) (fun c2 => ?_)
    · -- c2 true
      try simp only [nrm] at c2
      refine W_seq fun kz6 kq6 => ?_
      refine W_region [4, 5] fun R hR => ?_   -- r4
      simp only [go_sem, llPV]
      refine hR _ _ (kq6 _ _ ?_); clear hR R; try clear kq6 kz6
      try simp only [go_sem, llPV]
      refine W_ret ?_
      simp only [go_sem, llPV]
      refine ⟨.inr (by trivial), ?_⟩
      first | refine Fin_same hcl rfl (Wk.ro (by simp only [go_sem]) ?_) | refine Fin_self hcl rfl (Wk.ro (by simp only [go_sem]) ?_)
      try simp only [go_sem]
      all_goals
        rw [← hres]; clear hres; simp [moveA, *]
    · -- c2 false
      try simp only [nrm] at c2
      have hin : inR n 0 8 = true := by simpa using c2
      have hin2 := hin
      simp only [inR_true] at hin2
      refine W_skip (kq2 _ _ ?_)
      refine W_seq fun kz7 kq7 => ?_
      refine W_region [0, 1, 6] fun R hR => ?_   -- r5
      simp only [go_sem, llPV]
      refine hR _ _ (kq7 _ _ ?_); clear hR R; try clear kq7 kz7
      try simp only [go_sem, llPV]
      refine W_seq fun kz8 kq8 => ?_
      refine W_seq fun kz9 kq9 => ?_
      refine W_region [0, 1, 6, 27, 28, 29] fun R hR => ?_   -- r6
      simp only [go_sem, llPV]
      refine hR _ _ (kq9 _ _ ?_); clear hR R; try clear kq9 kz9
      try simp only [go_sem, llPV]
      refine W_block ?_
      refine W_loopT (α := Nat × (List Int)) (fun ⟨i, met⟩ => [(29, I i)]) (fun ⟨i, met⟩ => σ.ext [some (.mark :: mapE I PV.bool (metM met))] []) (fun ⟨i, met⟩ => i ≤ ls.length ∧ chkL ls.length n 0 [] ls = chkL ls.length n i met (ls.drop i)) (fun ⟨i, met⟩ => ls.length - i) ((0, [])) rfl (by first | rfl | (simp only [go_sem]; done) | (simp only [go_sem]; rfl)) (⟨Nat.zero_le _, rfl⟩) ?_
      rintro ⟨i, met⟩ ⟨hi, hinv⟩
      refine W_seq fun kz10 kq10 => ?_
      refine W_region [0, 1, 6, 27, 28, 29, 30] fun R hR => ?_   -- r7
      simp only [go_sem, llPV]
      refine hR _ _ (kq10 _ _ ?_); clear hR R; try clear kq10 kz10
      try simp only [go_sem, llPV]
      refine W_seq fun kz11 kq11 => ?_
      refine W_cond rfl (fun c3 => ?_) (fun c3 => ?_)
      · -- c3 true
        try simp only [nrm] at c3
        have hi' : i < ls.length := by first | assumption | omega
        obtain ⟨l, hx⟩ : ∃ l, ls[i]? = some l := ⟨ls[i], by simp [hi']⟩
        have hdrop : ls.drop i = l :: ls.drop (i + 1) := by
          rw [List.drop_eq_getElem_cons hi']; congr 1; exact (List.getElem?_eq_some_iff.1 hx).2
        rw [hdrop] at hinv
        simp only [chkL] at hinv
        have hl40 := hx8 l (List.mem_of_getElem? hx)
        have hnb := nb_bd ls.length i
        have hm1 : 0 ≤ n * nb ls.length i := Int.mul_nonneg hin2.1 hnb.1
        have hm2 : n * nb ls.length i ≤ 8 * nb ls.length i := Int.mul_le_mul_of_nonneg_right hin2.2 hnb.1
        refine W_skip (kq11 _ _ ?_)
        refine W_seq fun kz12 kq12 => ?_
        refine W_block ?_
        refine W_seq fun kz13 kq13 => ?_
        refine W_region [0, 1, 6, 7, 8, 27, 28, 29] fun R hR => ?_   -- r8
        simp only [go_sem, llPV, hx]
        refine hR _ _ (kq13 _ _ ?_); clear hR R; try clear kq13 kz13
        try simp only [go_sem, llPV, hx]
        refine W_seq fun kz14 kq14 => ?_
        refine W_seq fun kz15 kq15 => ?_
        refine W_region [0, 1, 6, 7, 8, 27, 28, 29, 36] fun R hR => ?_   -- r9
        simp only [go_sem, llPV, hx]
        refine hR _ _ (kq15 _ _ ?_); clear hR R; try clear kq15 kz15
        try simp only [go_sem, llPV, hx]
        refine W_cond rfl (fun c4 => ?_) (fun c4 => ?_)
        · -- c4 true
          try simp only [nrm] at c4
          refine W_seq fun kz16 kq16 => ?_
          refine W_region [4, 5] fun R hR => ?_   -- r10
          simp only [go_sem, llPV, hx]
          refine hR _ _ (kq16 _ _ ?_); clear hR R; try clear kq16 kz16
          try simp only [go_sem, llPV, hx]
          refine W_ret ?_
          simp only [go_sem, llPV, hx]
          refine ⟨.inr (by trivial), ?_⟩
          first | refine Fin_same hcl rfl (Wk.ro (by simp only [go_sem]) ?_) | refine Fin_self hcl rfl (Wk.ro (by simp only [go_sem]) ?_)
          try simp only [go_sem]
          all_goals
            rw [← hres]; clear hres; simp [moveA, *]
        · -- c4 false
          try simp only [nrm] at c4
          refine W_skip (kq14 _ _ ?_)
          refine W_seq fun kz17 kq17 => ?_
          refine W_seq fun kz18 kq18 => ?_
          refine W_region [0, 1, 6, 7, 8, 27, 28, 29, 37, 38, 39] fun R hR => ?_   -- r11
          simp only [go_sem, llPV, hx]
          refine hR _ _ (kq18 _ _ ?_); clear hR R; try clear kq18 kz18
          try simp only [go_sem, llPV, hx]
          refine W_block ?_
          refine W_loopT (α := Nat × (List Int)) (fun ⟨j, met2⟩ => [(39, I j)]) (fun ⟨j, met2⟩ => σ.ext [some (.mark :: mapE I PV.bool (metM met2))] []) (fun ⟨j, met2⟩ => j ≤ l.length ∧ met2 = met ++ l.take j ∧ dupL met l = dupL met2 (l.drop j)) (fun ⟨j, met2⟩ => l.length - j) ((0, met)) rfl (by first | rfl | (simp only [go_sem]; done) | (simp only [go_sem]; rfl)) (⟨Nat.zero_le _, by simp, rfl⟩) ?_
          rintro ⟨j, met2⟩ ⟨hj, hmet, hdup⟩
          refine W_seq fun kz19 kq19 => ?_
          refine W_region [0, 1, 6, 7, 8, 27, 28, 29, 37, 38, 39, 40] fun R hR => ?_   -- r12
          simp only [go_sem, llPV, hx, metM_snoc]
          refine hR _ _ (kq19 _ _ ?_); clear hR R; try clear kq19 kz19
          try simp only [go_sem, llPV, hx, metM_snoc]
          refine W_seq fun kz20 kq20 => ?_
          refine W_cond rfl (fun c5 => ?_) (fun c5 => ?_)
          · -- c5 true
            try simp only [nrm] at c5
            have hj' : j < l.length := by first | assumption | omega
            obtain ⟨x, hx2⟩ : ∃ x, l[j]? = some x := ⟨l[j], by simp [hj']⟩
            have hdrop2 : l.drop j = x :: l.drop (j + 1) := by
              rw [List.drop_eq_getElem_cons hj']; congr 1; exact (List.getElem?_eq_some_iff.1 hx2).2
            rw [hdrop2] at hdup
            simp only [dupL] at hdup
            refine W_skip (kq20 _ _ ?_)
            refine W_seq fun kz21 kq21 => ?_
            refine W_block ?_
            refine W_seq fun kz22 kq22 => ?_
            refine W_region [0, 1, 6, 7, 8, 10, 27, 28, 29, 37, 38, 39] fun R hR => ?_   -- r13
            simp only [go_sem, llPV, hx, metM_snoc, hx2, metM_has]
            refine hR _ _ (kq22 _ _ ?_); clear hR R; try clear kq22 kz22
            try simp only [go_sem, llPV, hx, metM_snoc, hx2, metM_has]
            refine W_seq fun kz23 kq23 => ?_
            refine W_seq fun kz24 kq24 => ?_
            refine W_region [0, 1, 6, 7, 8, 10, 27, 28, 29, 37, 38, 39, 45] fun R hR => ?_   -- r14
            simp only [go_sem, llPV, hx, metM_snoc, hx2, metM_has]
            refine hR _ _ (kq24 _ _ ?_); clear hR R; try clear kq24 kz24
            try simp only [go_sem, llPV, hx, metM_snoc, hx2, metM_has]
            refine W_cond rfl (fun c6 => ?_) (fun c6 => ?_)
            · -- c6 true
              try simp only [nrm] at c6
              refine W_seq fun kz25 kq25 => ?_
              refine W_region [4, 5] fun R hR => ?_   -- r15
              simp only [go_sem, llPV, hx, metM_snoc, hx2, metM_has]
              refine hR _ _ (kq25 _ _ ?_); clear hR R; try clear kq25 kz25
              try simp only [go_sem, llPV, hx, metM_snoc, hx2, metM_has]
              refine W_ret ?_
              simp only [go_sem, llPV, hx, metM_snoc, hx2, metM_has]
              refine ⟨.inr (by trivial), ?_⟩
              first | refine Fin_same hcl rfl (Wk.ro (by simp only [go_sem]) ?_) | refine Fin_self hcl rfl (Wk.ro (by simp only [go_sem]) ?_)
              try simp only [go_sem]
              all_goals
                have hd : dupL met l = true := by rw [hdup, c6]; rfl
                rw [← hres]; simp [moveA, c1, hin, hinv, hd, c4]
            · -- c6 false
              try simp only [nrm] at c6
              refine W_skip (kq23 _ _ ?_)
              refine W_region [0, 1, 6, 7, 8, 27, 28, 29, 37, 38, 39] fun R hR => ?_   -- r16
              simp only [go_sem, llPV, hx, metM_snoc, hx2, metM_has]
              refine hR _ _ (kq21 _ _ ?_); clear hR R; try clear kq21 kz21
              try simp only [go_sem, llPV, hx, metM_snoc, hx2, metM_has]
              refine W_region [0, 1, 6, 7, 8, 27, 28, 29, 37, 38, 39] fun R hR => ?_   -- r17
              simp only [go_sem, llPV, hx, metM_snoc, hx2, metM_has]
              try simp (disch := omega) only [wrapI, wrapU]
              refine hR _ _ ?_; clear hR R
              try simp only [go_sem, llPV, hx, metM_snoc, hx2, metM_has]
              refine ⟨(j + 1, met2 ++ [x]), ?_, by (try simp only []); omega, ?_⟩
              · first | exact Weak.refl | exact Weak.eq (by first | rfl | (simp only [go_sem]; done) | (simp only [go_sem]; rfl) | (simp [go_sem]; done) | (simp [go_sem]; omega)) (by first | rfl | (simp only [go_sem]; done) | (simp [go_sem]; done))
              · try dsimp only
                refine ⟨hj', ?_, ?_⟩
                · rw [hmet, List.take_add_one, hx2, ← List.append_assoc]; rfl
                · rw [hdup, c6]; rfl
          · -- c5 false
            try simp only [nrm] at c5
            have hdrop2 : l.drop j = [] := List.drop_eq_nil_of_le (by omega)
            rw [hdrop2] at hdup
            simp only [dupL] at hdup
            have hje : l.length = j := by first | omega | (simp at c5; omega)
            have hmetl : met2 = met ++ l := by rw [hmet, ← hje, List.take_length]
            refine W_exit ?_
            simp only [go_sem, llPV, hx, metM_snoc]
            refine kq17 _ _ ?_
            refine W_seq fun kz26 kq26 => ?_
            refine W_region [0, 1, 6, 27, 28, 29, 56] fun R hR => ?_   -- r18
            simp only [go_sem, llPV, hx, metM_snoc]
            refine GCall_of (neighb_pc Y _ ls i hl (by omega)) ?_   -- t54
            simp only [go_sem, llPV, hx, metM_snoc]
            try simp (disch := omega) only [wrapI, wrapU]
            refine hR _ _ (kq26 _ _ ?_); clear hR R; try clear kq26 kz26
            try simp only [go_sem, llPV, hx, metM_snoc]
            refine W_cond rfl (fun c7 => ?_) (fun c7 => ?_)
            · -- c7 true
              try simp only [nrm] at c7
              refine W_seq fun kz27 kq27 => ?_
              refine W_region [4, 5] fun R hR => ?_   -- r19
              simp only [go_sem, llPV, hx, metM_snoc]
              refine hR _ _ (kq27 _ _ ?_); clear hR R; try clear kq27 kz27
              try simp only [go_sem, llPV, hx, metM_snoc]
              refine W_ret ?_
              simp only [go_sem, llPV, hx, metM_snoc]
              refine ⟨.inr (by trivial), ?_⟩
              first | refine Fin_same hcl rfl (Wk.ro (by simp only [go_sem]) ?_) | refine Fin_self hcl rfl (Wk.ro (by simp only [go_sem]) ?_)
              try simp only [go_sem]
              all_goals
                rw [← hres]; simp [moveA, c1, hin, hinv, hdup, c4, c7]
            · -- c7 false
              try simp only [nrm] at c7
              refine W_skip (kq12 _ _ ?_)
              refine W_region [0, 1, 6, 27, 28, 29] fun R hR => ?_   -- r20
              simp only [go_sem, llPV, hx, metM_snoc]
              try simp (disch := omega) only [wrapI, wrapU]
              refine hR _ _ ?_; clear hR R
              try simp only [go_sem, llPV, hx, metM_snoc]
              refine ⟨(i + 1, met2), ?_, by (try simp only []); omega, ?_⟩
              · first | exact Weak.refl | exact Weak.eq (by first | rfl | (simp only [go_sem]; done) | (simp only [go_sem]; rfl) | (simp [go_sem]; done) | (simp [go_sem]; omega)) (by first | rfl | (simp only [go_sem]; done) | (simp [go_sem]; done))
              · try dsimp only
                refine ⟨hi', ?_⟩
                rw [hinv, if_neg (by omega), if_neg (by rw [hdup]; simp), if_neg (by omega), hmetl]
      · -- c3 false
        try simp only [nrm] at c3
        have hdrop : ls.drop i = [] := List.drop_eq_nil_of_le (by omega)
        rw [hdrop] at hinv
        simp only [chkL] at hinv
        refine W_exit ?_
        simp only [go_sem, llPV]
        refine kq8 _ _ ?_
        refine W_seq fun kz28 kq28 => ?_
        refine W_region [0, 1, 11] fun R hR => ?_   -- r21
        simp only [go_sem, llPV]
        refine hR _ _ (kq28 _ _ ?_); clear hR R; try clear kq28 kz28
        try simp only [go_sem, llPV]
        refine W_seq fun kz29 kq29 => ?_
        refine W_seq fun kz30 kq30 => ?_
        refine W_region [0, 1, 11, 58, 59, 60] fun R hR => ?_   -- r22
        simp only [go_sem, llPV]
        refine hR _ _ (kq30 _ _ ?_); clear hR R; try clear kq30 kz30
        try simp only [go_sem, llPV]
        refine W_block ?_
        have hok0 := chkL_ok hinv
        obtain ⟨N, hN⟩ : ∃ z : Nat, n = z := ⟨n.toNat, by omega⟩
        subst hN
        have hok : ∀ (j : Nat) (x : List Int), ls[j]? = some x → (x.length : Int) ≤ 8 ∧ (N : Int) * nb ls.length j ≤ x.length := fun j x hx => by have := hok0 j x hx; rw [Nat.zero_add] at this; exact this
        have hz : ∀ k : Nat, ((0 : Int) ≤ (k : Int)) = True := fun k => by simp
        refine W_weak (Weak.room (t := 11) (es := 1) rfl (by simp)) ?_
        refine W_weak (Weak.keep [0, 1, 11, 58, 59, 60]) ?_
        simp only [go_sem, llPV]
        refine W_loopT (α := Nat) (fun (i : Nat) => [(11, .isl ((nextA ls N i).map llPV) (.tok σ.rooms.length i 1)), (60, I i)]) (fun (i : Nat) => σ.ext [some (.mark :: mapE I PV.bool (metM met))] [i]) (fun (i : Nat) => i ≤ ls.length) (fun (i : Nat) => ls.length - i) (0) rfl (by first | rfl | (simp only [go_sem]; done) | (simp only [go_sem]; rfl)) (Nat.zero_le _) ?_
        rintro i hi
        refine W_seq fun kz31 kq31 => ?_
        refine W_region [0, 1, 11, 58, 59, 60, 61] fun R hR => ?_   -- r23
        simp only [go_sem, llPV, hz, Int.toNat_natCast, Int.toNat_zero, List.drop_zero, Nat.sub_zero, nextA_len, Int.le_refl, Nat.le_refl, Nat.zero_le]
        refine hR _ _ (kq31 _ _ ?_); clear hR R; try clear kq31 kz31
        try simp only [go_sem, llPV, hz, Int.toNat_natCast, Int.toNat_zero, List.drop_zero, Nat.sub_zero, nextA_len, Int.le_refl, Nat.le_refl, Nat.zero_le]
        refine W_seq fun kz32 kq32 => ?_
        refine W_cond rfl (fun c8 => ?_) (fun c8 => ?_)
        · -- c8 true
          try simp only [nrm] at c8
          have hi' : i < ls.length := by first | assumption | omega
          obtain ⟨l, hx⟩ : ∃ l, ls[i]? = some l := ⟨ls[i], by simp [hi']⟩
          have hdrop : ls.drop i = l :: ls.drop (i + 1) := by
            rw [List.drop_eq_getElem_cons hi']; congr 1; exact (List.getElem?_eq_some_iff.1 hx).2
          have hnl := nextA_len ls N i
          refine W_skip (kq32 _ _ ?_)
          refine W_seq fun kz33 kq33 => ?_
          refine W_block ?_
          refine W_seq fun kz34 kq34 => ?_
          refine W_region [0, 1, 11, 12, 13, 58, 59, 60] fun R hR => ?_   -- r24
          simp only [go_sem, llPV, hz, Int.toNat_natCast, Int.toNat_zero, List.drop_zero, Nat.sub_zero, nextA_len, Int.le_refl, Nat.le_refl, Nat.zero_le, hx]
          refine hR _ _ (kq34 _ _ ?_); clear hR R; try clear kq34 kz34
          try simp only [go_sem, llPV, hz, Int.toNat_natCast, Int.toNat_zero, List.drop_zero, Nat.sub_zero, nextA_len, Int.le_refl, Nat.le_refl, Nat.zero_le, hx]
          refine W_seq fun kz35 kq35 => ?_
          refine W_region [0, 1, 11, 12, 13, 14, 58, 59, 60] fun R hR => ?_   -- r25
          simp only [go_sem, llPV, hz, Int.toNat_natCast, Int.toNat_zero, List.drop_zero, Nat.sub_zero, nextA_len, Int.le_refl, Nat.le_refl, Nat.zero_le, hx]
          refine hR _ _ (kq35 _ _ ?_); clear hR R; try clear kq35 kz35
          try simp only [go_sem, llPV, hz, Int.toNat_natCast, Int.toNat_zero, List.drop_zero, Nat.sub_zero, nextA_len, Int.le_refl, Nat.le_refl, Nat.zero_le, hx]
          refine W_seq fun kz36 kq36 => ?_
          refine W_region [0, 1, 11, 12, 13, 14, 15, 16, 58, 59, 60] fun R hR => ?_   -- r26
          simp only [go_sem, llPV, hz, Int.toNat_natCast, Int.toNat_zero, List.drop_zero, Nat.sub_zero, nextA_len, Int.le_refl, Nat.le_refl, Nat.zero_le, hx]
          refine hR _ _ (kq36 _ _ ?_); clear hR R; try clear kq36 kz36
          try simp only [go_sem, llPV, hz, Int.toNat_natCast, Int.toNat_zero, List.drop_zero, Nat.sub_zero, nextA_len, Int.le_refl, Nat.le_refl, Nat.zero_le, hx]
          refine W_seq fun kz37 kq37 => ?_
          refine W_seq fun kz38 kq38 => ?_
          refine W_weak (Weak.room (t := 14) (es := 1) rfl (by simp)) ?_
          refine W_weak (Weak.keep [0, 1, 11, 12, 13, 14, 15, 16, 58, 59, 60]) ?_
          simp only [go_sem]
          refine W_region [0, 1, 11, 12, 13, 14, 15, 16, 58, 59, 60, 68] fun R hR => ?_   -- r27
          simp only [go_sem, llPV, hz, Int.toNat_natCast, Int.toNat_zero, List.drop_zero, Nat.sub_zero, nextA_len, Int.le_refl, Nat.le_refl, Nat.zero_le, hx]
          refine hR _ _ (kq38 _ _ ?_); clear hR R; try clear kq38 kz38
          try simp only [go_sem, llPV, hz, Int.toNat_natCast, Int.toNat_zero, List.drop_zero, Nat.sub_zero, nextA_len, Int.le_refl, Nat.le_refl, Nat.zero_le, hx]
          refine W_cond rfl (fun c9 => ?_) (fun c9 => ?_)
          · -- c9 true
            try simp only [nrm] at c9
            have hi0 : 0 < i := by first | omega | (simp at c9; omega)
            obtain ⟨ab, hab⟩ : ∃ z, ls[i - 1]? = some z := ⟨ls[i - 1]'(by omega), by simp⟩
            have hab8 := (hok (i - 1) ab hab).1
            have hNa : N ≤ ab.length := by have := (nb_lo (by omega) (hok (i - 1) ab hab).2).2.1 (by omega); omega
            have hw1 : IntKind.i64.wrap ((i : Int) - 1) = ((i - 1 : Nat) : Int) := by rw [wrapI (by omega) (by omega)]; omega
            have hw2 : IntKind.i64.wrap ((ab.length : Int) - (N : Int)) = ((ab.length - N : Nat) : Int) := by rw [wrapI (by omega) (by omega)]; omega
            have hle : ab.length - N ≤ ab.length := by omega
            have hpla : (ab.drop (ab.length - N)).length ≤ 8 := by simp only [List.length_drop] <;> omega
            refine W_seq fun kz39 kq39 => ?_
            refine W_region [0, 1, 11, 12, 13, 14, 16, 17, 58, 59, 60] fun R hR => ?_   -- r28
            simp only [go_sem, llPV, hz, Int.toNat_natCast, Int.toNat_zero, List.drop_zero, Nat.sub_zero, nextA_len, Int.le_refl, Nat.le_refl, Nat.zero_le, hx, hab, hw1, hw2, hle]
            try simp (disch := omega) only [wrapI, wrapU]
            refine hR _ _ (kq39 _ _ ?_); clear hR R; try clear kq39 kz39
            try simp only [go_sem, llPV, hz, Int.toNat_natCast, Int.toNat_zero, List.drop_zero, Nat.sub_zero, nextA_len, Int.le_refl, Nat.le_refl, Nat.zero_le, hx, hab, hw1, hw2, hle]
            refine W_region [0, 1, 11, 12, 13, 14, 15, 16, 58, 59, 60] fun R hR => ?_   -- r29
            simp only [go_sem, llPV, hz, Int.toNat_natCast, Int.toNat_zero, List.drop_zero, Nat.sub_zero, nextA_len, Int.le_refl, Nat.le_refl, Nat.zero_le, hx, hab, hw1, hw2, hle]
            try simp (disch := first | omega | (simp only [go_sem] <;> omega)) only [wrapI, wrapU, appX_exact, appX_tok]
            try simp only [go_sem, llPV, hz, Int.toNat_natCast, Int.toNat_zero, List.drop_zero, Nat.sub_zero, nextA_len, Int.le_refl, Nat.le_refl, Nat.zero_le, hx, hab, hw1, hw2, hle]
            refine hR _ _ (kq37 _ _ ?_); clear hR R; try clear kq37 kz37
            try simp only [go_sem, llPV, hz, Int.toNat_natCast, Int.toNat_zero, List.drop_zero, Nat.sub_zero, nextA_len, Int.le_refl, Nat.le_refl, Nat.zero_le, hx, hab, hw1, hw2, hle]
            refine W_seq fun kz40 kq40 => ?_
            refine W_seq fun kz41 kq41 => ?_
            refine W_region [0, 1, 11, 12, 13, 14, 15, 16, 58, 59, 60, 87] fun R hR => ?_   -- r30
            simp only [go_sem, llPV, hz, Int.toNat_natCast, Int.toNat_zero, List.drop_zero, Nat.sub_zero, nextA_len, Int.le_refl, Nat.le_refl, Nat.zero_le, hx, hab, hw1, hw2, hle]
            try simp (disch := omega) only [wrapI, wrapU]
            refine hR _ _ (kq41 _ _ ?_); clear hR R; try clear kq41 kz41
            try simp only [go_sem, llPV, hz, Int.toNat_natCast, Int.toNat_zero, List.drop_zero, Nat.sub_zero, nextA_len, Int.le_refl, Nat.le_refl, Nat.zero_le, hx, hab, hw1, hw2, hle]
            refine W_cond rfl (fun c10 => ?_) (fun c10 => ?_)
            · -- c10 true
              try simp only [nrm] at c10
              have hok3 := nb_lo (by omega) (hok i l hx).2
              have hl8 := (hok i l hx).1
              have hi1 : i + 1 < ls.length := by first | omega | (simp at c10; omega)
              have hNl : N ≤ l.length := by have := hok3.2.1 hi1; omega
              obtain ⟨be, hbe⟩ : ∃ z, ls[i + 1]? = some z := ⟨ls[i + 1]'hi1, by simp⟩
              have hbe8 := (hok (i + 1) be hbe).1
              have hNb : N ≤ be.length := by have := (nb_lo (by omega) (hok (i + 1) be hbe).2).1 (by omega); omega
              have hw3 : IntKind.i64.wrap ((l.length : Int) - (N : Int)) = ((l.length - N : Nat) : Int) := by rw [wrapI (by omega) (by omega)]; omega
              have hw4 : IntKind.i64.wrap ((i : Int) + 1) = ((i + 1 : Nat) : Int) := by rw [wrapI (by omega) (by omega)]; omega
              have hr1 : l.length - N ≤ l.length := by omega
              have hNN : 2 * N ≤ l.length := by have := hok3.2.2 hi0 hi1; omega
              have hpl0 : ((ab.drop (ab.length - N))).length ≤ 8 := by simp only [List.length_drop, List.length_take] <;> omega
              have hpl1 : (((l.drop N).take (l.length - N - N))).length ≤ 8 := by simp only [List.length_drop, List.length_take] <;> omega
              have hpl2 : ((be.take N)).length ≤ 8 := by simp only [List.length_drop, List.length_take] <;> omega
              have hr2 : N ≤ l.length - N := by omega
              have hfold : (ab.drop (ab.length - N)).map I ++ ((l.drop N).take (l.length - N - N)).map I ++ (be.take N).map I = (nextL ls N i).map I := by
                simp only [nextL, lgAt, hx, hab, hbe, Option.getD_some, hi0, hi1, if_true, if_false]
                simp
              refine W_region [0, 1, 11, 12, 13, 14, 15, 16, 58, 59, 60] fun R hR => ?_   -- r31
              simp only [go_sem, llPV, hz, Int.toNat_natCast, Int.toNat_zero, List.drop_zero, Nat.sub_zero, nextA_len, Int.le_refl, Nat.le_refl, Nat.zero_le, hx, hab, hw1, hw2, hle, hr1, hr2, hbe, hw3, hw4, hNb]
              try simp (disch := omega) only [wrapI, wrapU]
              refine hR _ _ (kq40 _ _ ?_); clear hR R; try clear kq40 kz40
              try simp only [go_sem, llPV, hz, Int.toNat_natCast, Int.toNat_zero, List.drop_zero, Nat.sub_zero, nextA_len, Int.le_refl, Nat.le_refl, Nat.zero_le, hx, hab, hw1, hw2, hle, hr1, hr2, hbe, hw3, hw4, hNb]
              refine W_seq fun kz42 kq42 => ?_
              refine W_region [0, 1, 11, 12, 14, 58, 59, 60] fun R hR => ?_   -- r32
              simp only [go_sem, llPV, hz, Int.toNat_natCast, Int.toNat_zero, List.drop_zero, Nat.sub_zero, nextA_len, Int.le_refl, Nat.le_refl, Nat.zero_le, hx, hab, hw1, hw2, hle, hr1, hr2, hbe, hw3, hw4, hNb]
              try simp (disch := first | omega | (simp only [go_sem] <;> omega)) only [wrapI, wrapU, appX_exact, appX_tok]
              try simp only [go_sem, llPV, hz, Int.toNat_natCast, Int.toNat_zero, List.drop_zero, Nat.sub_zero, nextA_len, Int.le_refl, Nat.le_refl, Nat.zero_le, hx, hab, hw1, hw2, hle, hr1, hr2, hbe, hw3, hw4, hNb]
              refine hR _ _ (kq42 _ _ ?_); clear hR R; try clear kq42 kz42
              try simp only [go_sem, llPV, hz, Int.toNat_natCast, Int.toNat_zero, List.drop_zero, Nat.sub_zero, nextA_len, Int.le_refl, Nat.le_refl, Nat.zero_le, hx, hab, hw1, hw2, hle, hr1, hr2, hbe, hw3, hw4, hNb]
              refine W_seq fun kz43 kq43 => ?_
              refine W_seq fun kz44 kq44 => ?_
              refine W_region [0, 1, 11, 12, 14, 58, 59, 60, 101] fun R hR => ?_   -- r33
              simp only [go_sem, llPV, hz, Int.toNat_natCast, Int.toNat_zero, List.drop_zero, Nat.sub_zero, nextA_len, Int.le_refl, Nat.le_refl, Nat.zero_le, hx, hab, hw1, hw2, hle, hr1, hr2, hbe, hw3, hw4, hNb]
              try simp (disch := omega) only [wrapI, wrapU]
              refine hR _ _ (kq44 _ _ ?_); clear hR R; try clear kq44 kz44
              try simp only [go_sem, llPV, hz, Int.toNat_natCast, Int.toNat_zero, List.drop_zero, Nat.sub_zero, nextA_len, Int.le_refl, Nat.le_refl, Nat.zero_le, hx, hab, hw1, hw2, hle, hr1, hr2, hbe, hw3, hw4, hNb]
              refine W_cond rfl (fun c11 => ?_) (fun c11 => ?_)
              · -- c11 true
                try simp only [nrm] at c11
                refine W_region [0, 1, 11, 14, 58, 59, 60] fun R hR => ?_   -- r34
                simp only [go_sem, llPV, hz, Int.toNat_natCast, Int.toNat_zero, List.drop_zero, Nat.sub_zero, nextA_len, Int.le_refl, Nat.le_refl, Nat.zero_le, hx, hab, hw1, hw2, hle, hr1, hr2, hbe, hw3, hw4, hNb, ← List.map_take]
                try simp (disch := first | omega | (simp only [go_sem] <;> omega)) only [wrapI, wrapU, appX_exact, appX_tok]
                try simp only [go_sem, llPV, hz, Int.toNat_natCast, Int.toNat_zero, List.drop_zero, Nat.sub_zero, nextA_len, Int.le_refl, Nat.le_refl, Nat.zero_le, hx, hab, hw1, hw2, hle, hr1, hr2, hbe, hw3, hw4, hNb, ← List.map_take]
                refine hR _ _ (kq43 _ _ ?_); clear hR R; try clear kq43 kz43
                try simp only [go_sem, llPV, hz, Int.toNat_natCast, Int.toNat_zero, List.drop_zero, Nat.sub_zero, nextA_len, Int.le_refl, Nat.le_refl, Nat.zero_le, hx, hab, hw1, hw2, hle, hr1, hr2, hbe, hw3, hw4, hNb]
                try simp only [List.append_assoc] at hfold ⊢
                simp only [hfold]
                refine W_weak (Weak.ro 14) ?_
                refine W_weak (Weak.keep [0, 1, 11, 14, 58, 59, 60]) ?_
                simp only [go_sem]
                refine W_region [0, 1, 11, 58, 59, 60] fun R hR => ?_   -- r35
                simp only [go_sem, llPV, hz, Int.toNat_natCast, Int.toNat_zero, List.drop_zero, Nat.sub_zero, nextA_len, Int.le_refl, Nat.le_refl, Nat.zero_le, hx, hab, hw1, hw2, hle, hr1, hr2, hbe, hw3, hw4, hNb]
                try simp (disch := first | omega | (simp only [go_sem] <;> omega)) only [wrapI, wrapU, appX_exact, appX_tok]
                try simp only [go_sem, llPV, hz, Int.toNat_natCast, Int.toNat_zero, List.drop_zero, Nat.sub_zero, nextA_len, Int.le_refl, Nat.le_refl, Nat.zero_le, hx, hab, hw1, hw2, hle, hr1, hr2, hbe, hw3, hw4, hNb]
                refine hR _ _ (kq33 _ _ ?_); clear hR R; try clear kq33 kz33
                try simp only [go_sem, llPV, hz, Int.toNat_natCast, Int.toNat_zero, List.drop_zero, Nat.sub_zero, nextA_len, Int.le_refl, Nat.le_refl, Nat.zero_le, hx, hab, hw1, hw2, hle, hr1, hr2, hbe, hw3, hw4, hNb]
                refine W_region [0, 1, 11, 58, 59, 60] fun R hR => ?_   -- r36
                simp only [go_sem, llPV, hz, Int.toNat_natCast, Int.toNat_zero, List.drop_zero, Nat.sub_zero, nextA_len, Int.le_refl, Nat.le_refl, Nat.zero_le, hx, hab, hw1, hw2, hle, hr1, hr2, hbe, hw3, hw4, hNb]
                try simp (disch := omega) only [wrapI, wrapU]
                refine hR _ _ ?_; clear hR R
                try simp only [go_sem, llPV, hz, Int.toNat_natCast, Int.toNat_zero, List.drop_zero, Nat.sub_zero, nextA_len, Int.le_refl, Nat.le_refl, Nat.zero_le, hx, hab, hw1, hw2, hle, hr1, hr2, hbe, hw3, hw4, hNb]
                refine ⟨i + 1, ?_, by (try simp only []); omega, ?_⟩
                · refine Weak.trans (Weak.cutX 1 1 (by omega) (by omega) hcl (by simp only [go_sem] <;> omega) (by simp only [go_sem] <;> omega)) ?_
                  simp only [go_sem]
                  refine Weak.eq ?_ ?_
                  · simp only [go_sem, nextA_succ, List.map_append, List.map_cons, List.map_nil, llPV, ints]
                    first | done | rfl
                  · simp only [go_sem]
                · try dsimp only
                  omega
              · -- c11 false
                try simp only [nrm] at c11
                exfalso
                first | omega | (simp at c11; omega)
            · -- c10 false
              try simp only [nrm] at c10
              have hok3 := nb_lo (by omega) (hok i l hx).2
              have hl8 := (hok i l hx).1
              have hi1 : ¬ i + 1 < ls.length := by first | omega | (simp at c10; omega)
              have hr1 : l.length ≤ l.length := Nat.le_refl _
              have hNN : N ≤ l.length := by have := hok3.1 hi0; omega
              have hpl0 : ((ab.drop (ab.length - N))).length ≤ 8 := by simp only [List.length_drop, List.length_take] <;> omega
              have hpl1 : (((l.drop N).take (l.length - N))).length ≤ 8 := by simp only [List.length_drop, List.length_take] <;> omega
              have hr2 : N ≤ l.length := by omega
              have hfold : (ab.drop (ab.length - N)).map I ++ ((l.drop N).take (l.length - N)).map I = (nextL ls N i).map I := by
                simp only [nextL, lgAt, hx, hab, Option.getD_some, hi0, hi1, if_true, if_false]
                simp
              refine W_skip (kq40 _ _ ?_)
              refine W_seq fun kz45 kq45 => ?_
              refine W_region [0, 1, 11, 12, 14, 58, 59, 60] fun R hR => ?_   -- r32
              simp only [go_sem, llPV, hz, Int.toNat_natCast, Int.toNat_zero, List.drop_zero, Nat.sub_zero, nextA_len, Int.le_refl, Nat.le_refl, Nat.zero_le, hx, hab, hw1, hw2, hle, hr1, hr2]
              try simp (disch := first | omega | (simp only [go_sem] <;> omega)) only [wrapI, wrapU, appX_exact, appX_tok]
              try simp only [go_sem, llPV, hz, Int.toNat_natCast, Int.toNat_zero, List.drop_zero, Nat.sub_zero, nextA_len, Int.le_refl, Nat.le_refl, Nat.zero_le, hx, hab, hw1, hw2, hle, hr1, hr2]
              refine hR _ _ (kq45 _ _ ?_); clear hR R; try clear kq45 kz45
              try simp only [go_sem, llPV, hz, Int.toNat_natCast, Int.toNat_zero, List.drop_zero, Nat.sub_zero, nextA_len, Int.le_refl, Nat.le_refl, Nat.zero_le, hx, hab, hw1, hw2, hle, hr1, hr2]
              refine W_seq fun kz46 kq46 => ?_
              refine W_seq fun kz47 kq47 => ?_
              refine W_region [0, 1, 11, 12, 14, 58, 59, 60, 101] fun R hR => ?_   -- r33
              simp only [go_sem, llPV, hz, Int.toNat_natCast, Int.toNat_zero, List.drop_zero, Nat.sub_zero, nextA_len, Int.le_refl, Nat.le_refl, Nat.zero_le, hx, hab, hw1, hw2, hle, hr1, hr2]
              try simp (disch := omega) only [wrapI, wrapU]
              refine hR _ _ (kq47 _ _ ?_); clear hR R; try clear kq47 kz47
              try simp only [go_sem, llPV, hz, Int.toNat_natCast, Int.toNat_zero, List.drop_zero, Nat.sub_zero, nextA_len, Int.le_refl, Nat.le_refl, Nat.zero_le, hx, hab, hw1, hw2, hle, hr1, hr2]
              refine W_cond rfl (fun c12 => ?_) (fun c12 => ?_)
              · -- c12 true
                try simp only [nrm] at c12
                exfalso
                first | omega | (simp at c12; omega)
              · -- c12 false
                try simp only [nrm] at c12
                refine W_skip (kq46 _ _ ?_)
                try simp only [List.append_assoc] at hfold ⊢
                simp only [hfold]
                refine W_weak (Weak.ro 14) ?_
                refine W_weak (Weak.keep [0, 1, 11, 14, 58, 59, 60]) ?_
                simp only [go_sem]
                refine W_region [0, 1, 11, 58, 59, 60] fun R hR => ?_   -- r35
                simp only [go_sem, llPV, hz, Int.toNat_natCast, Int.toNat_zero, List.drop_zero, Nat.sub_zero, nextA_len, Int.le_refl, Nat.le_refl, Nat.zero_le, hx, hab, hw1, hw2, hle, hr1, hr2]
                try simp (disch := first | omega | (simp only [go_sem] <;> omega)) only [wrapI, wrapU, appX_exact, appX_tok]
                try simp only [go_sem, llPV, hz, Int.toNat_natCast, Int.toNat_zero, List.drop_zero, Nat.sub_zero, nextA_len, Int.le_refl, Nat.le_refl, Nat.zero_le, hx, hab, hw1, hw2, hle, hr1, hr2]
                refine hR _ _ (kq33 _ _ ?_); clear hR R; try clear kq33 kz33
                try simp only [go_sem, llPV, hz, Int.toNat_natCast, Int.toNat_zero, List.drop_zero, Nat.sub_zero, nextA_len, Int.le_refl, Nat.le_refl, Nat.zero_le, hx, hab, hw1, hw2, hle, hr1, hr2]
                refine W_region [0, 1, 11, 58, 59, 60] fun R hR => ?_   -- r36
                simp only [go_sem, llPV, hz, Int.toNat_natCast, Int.toNat_zero, List.drop_zero, Nat.sub_zero, nextA_len, Int.le_refl, Nat.le_refl, Nat.zero_le, hx, hab, hw1, hw2, hle, hr1, hr2]
                try simp (disch := omega) only [wrapI, wrapU]
                refine hR _ _ ?_; clear hR R
                try simp only [go_sem, llPV, hz, Int.toNat_natCast, Int.toNat_zero, List.drop_zero, Nat.sub_zero, nextA_len, Int.le_refl, Nat.le_refl, Nat.zero_le, hx, hab, hw1, hw2, hle, hr1, hr2]
                refine ⟨i + 1, ?_, by (try simp only []); omega, ?_⟩
                · refine Weak.trans (Weak.cutX 1 1 (by omega) (by omega) hcl (by simp only [go_sem] <;> omega) (by simp only [go_sem] <;> omega)) ?_
                  simp only [go_sem]
                  refine Weak.eq ?_ ?_
                  · simp only [go_sem, nextA_succ, List.map_append, List.map_cons, List.map_nil, llPV, ints]
                    first | done | rfl
                  · simp only [go_sem]
                · try dsimp only
                  omega
          · -- c9 false
            try simp only [nrm] at c9
            have hi0 : ¬ 0 < i := by first | omega | (simp at c9; omega)
            refine W_skip (kq37 _ _ ?_)
            refine W_seq fun kz48 kq48 => ?_
            refine W_seq fun kz49 kq49 => ?_
            refine W_region [0, 1, 11, 12, 13, 14, 15, 16, 58, 59, 60, 87] fun R hR => ?_   -- r30
            simp only [go_sem, llPV, hz, Int.toNat_natCast, Int.toNat_zero, List.drop_zero, Nat.sub_zero, nextA_len, Int.le_refl, Nat.le_refl, Nat.zero_le, hx]
            try simp (disch := omega) only [wrapI, wrapU]
            refine hR _ _ (kq49 _ _ ?_); clear hR R; try clear kq49 kz49
            try simp only [go_sem, llPV, hz, Int.toNat_natCast, Int.toNat_zero, List.drop_zero, Nat.sub_zero, nextA_len, Int.le_refl, Nat.le_refl, Nat.zero_le, hx]
            refine W_cond rfl (fun c13 => ?_) (fun c13 => ?_)
            · -- c13 true
              try simp only [nrm] at c13
              have hok3 := nb_lo (by omega) (hok i l hx).2
              have hl8 := (hok i l hx).1
              have hi1 : i + 1 < ls.length := by first | omega | (simp at c13; omega)
              have hNl : N ≤ l.length := by have := hok3.2.1 hi1; omega
              obtain ⟨be, hbe⟩ : ∃ z, ls[i + 1]? = some z := ⟨ls[i + 1]'hi1, by simp⟩
              have hbe8 := (hok (i + 1) be hbe).1
              have hNb : N ≤ be.length := by have := (nb_lo (by omega) (hok (i + 1) be hbe).2).1 (by omega); omega
              have hw3 : IntKind.i64.wrap ((l.length : Int) - (N : Int)) = ((l.length - N : Nat) : Int) := by rw [wrapI (by omega) (by omega)]; omega
              have hw4 : IntKind.i64.wrap ((i : Int) + 1) = ((i + 1 : Nat) : Int) := by rw [wrapI (by omega) (by omega)]; omega
              have hr1 : l.length - N ≤ l.length := by omega
              have hpl0 : ((l.take (l.length - N))).length ≤ 8 := by simp only [List.length_drop, List.length_take] <;> omega
              have hpl1 : ((be.take N)).length ≤ 8 := by simp only [List.length_drop, List.length_take] <;> omega
              have hr2 : 0 ≤ l.length - N := by omega
              have hfold : (l.take (l.length - N)).map I ++ (be.take N).map I = (nextL ls N i).map I := by
                simp only [nextL, lgAt, hx, hbe, Option.getD_some, hi0, hi1, if_true, if_false]
                simp
              refine W_region [0, 1, 11, 12, 13, 14, 15, 16, 58, 59, 60] fun R hR => ?_   -- r31
              simp only [go_sem, llPV, hz, Int.toNat_natCast, Int.toNat_zero, List.drop_zero, Nat.sub_zero, nextA_len, Int.le_refl, Nat.le_refl, Nat.zero_le, hx, hr1, hr2, hbe, hw3, hw4, hNb]
              try simp (disch := omega) only [wrapI, wrapU]
              refine hR _ _ (kq48 _ _ ?_); clear hR R; try clear kq48 kz48
              try simp only [go_sem, llPV, hz, Int.toNat_natCast, Int.toNat_zero, List.drop_zero, Nat.sub_zero, nextA_len, Int.le_refl, Nat.le_refl, Nat.zero_le, hx, hr1, hr2, hbe, hw3, hw4, hNb]
              refine W_seq fun kz50 kq50 => ?_
              refine W_region [0, 1, 11, 12, 14, 58, 59, 60] fun R hR => ?_   -- r32
              simp only [go_sem, llPV, hz, Int.toNat_natCast, Int.toNat_zero, List.drop_zero, Nat.sub_zero, nextA_len, Int.le_refl, Nat.le_refl, Nat.zero_le, hx, hr1, hr2, hbe, hw3, hw4, hNb]
              try simp (disch := first | omega | (simp only [go_sem] <;> omega)) only [wrapI, wrapU, appX_exact, appX_tok]
              try simp only [go_sem, llPV, hz, Int.toNat_natCast, Int.toNat_zero, List.drop_zero, Nat.sub_zero, nextA_len, Int.le_refl, Nat.le_refl, Nat.zero_le, hx, hr1, hr2, hbe, hw3, hw4, hNb]
              refine hR _ _ (kq50 _ _ ?_); clear hR R; try clear kq50 kz50
              try simp only [go_sem, llPV, hz, Int.toNat_natCast, Int.toNat_zero, List.drop_zero, Nat.sub_zero, nextA_len, Int.le_refl, Nat.le_refl, Nat.zero_le, hx, hr1, hr2, hbe, hw3, hw4, hNb]
              refine W_seq fun kz51 kq51 => ?_
              refine W_seq fun kz52 kq52 => ?_
              refine W_region [0, 1, 11, 12, 14, 58, 59, 60, 101] fun R hR => ?_   -- r33
              simp only [go_sem, llPV, hz, Int.toNat_natCast, Int.toNat_zero, List.drop_zero, Nat.sub_zero, nextA_len, Int.le_refl, Nat.le_refl, Nat.zero_le, hx, hr1, hr2, hbe, hw3, hw4, hNb]
              try simp (disch := omega) only [wrapI, wrapU]
              refine hR _ _ (kq52 _ _ ?_); clear hR R; try clear kq52 kz52
              try simp only [go_sem, llPV, hz, Int.toNat_natCast, Int.toNat_zero, List.drop_zero, Nat.sub_zero, nextA_len, Int.le_refl, Nat.le_refl, Nat.zero_le, hx, hr1, hr2, hbe, hw3, hw4, hNb]
              refine W_cond rfl (fun c14 => ?_) (fun c14 => ?_)
              · -- c14 true
                try simp only [nrm] at c14
                refine W_region [0, 1, 11, 14, 58, 59, 60] fun R hR => ?_   -- r34
                simp only [go_sem, llPV, hz, Int.toNat_natCast, Int.toNat_zero, List.drop_zero, Nat.sub_zero, nextA_len, Int.le_refl, Nat.le_refl, Nat.zero_le, hx, hr1, hr2, hbe, hw3, hw4, hNb, ← List.map_take]
                try simp (disch := first | omega | (simp only [go_sem] <;> omega)) only [wrapI, wrapU, appX_exact, appX_tok]
                try simp only [go_sem, llPV, hz, Int.toNat_natCast, Int.toNat_zero, List.drop_zero, Nat.sub_zero, nextA_len, Int.le_refl, Nat.le_refl, Nat.zero_le, hx, hr1, hr2, hbe, hw3, hw4, hNb, ← List.map_take]
                refine hR _ _ (kq51 _ _ ?_); clear hR R; try clear kq51 kz51
                try simp only [go_sem, llPV, hz, Int.toNat_natCast, Int.toNat_zero, List.drop_zero, Nat.sub_zero, nextA_len, Int.le_refl, Nat.le_refl, Nat.zero_le, hx, hr1, hr2, hbe, hw3, hw4, hNb]
                try simp only [List.append_assoc] at hfold ⊢
                simp only [hfold]
                refine W_weak (Weak.ro 14) ?_
                refine W_weak (Weak.keep [0, 1, 11, 14, 58, 59, 60]) ?_
                simp only [go_sem]
                refine W_region [0, 1, 11, 58, 59, 60] fun R hR => ?_   -- r35
                simp only [go_sem, llPV, hz, Int.toNat_natCast, Int.toNat_zero, List.drop_zero, Nat.sub_zero, nextA_len, Int.le_refl, Nat.le_refl, Nat.zero_le, hx, hr1, hr2, hbe, hw3, hw4, hNb]
                try simp (disch := first | omega | (simp only [go_sem] <;> omega)) only [wrapI, wrapU, appX_exact, appX_tok]
                try simp only [go_sem, llPV, hz, Int.toNat_natCast, Int.toNat_zero, List.drop_zero, Nat.sub_zero, nextA_len, Int.le_refl, Nat.le_refl, Nat.zero_le, hx, hr1, hr2, hbe, hw3, hw4, hNb]
                refine hR _ _ (kq33 _ _ ?_); clear hR R; try clear kq33 kz33
                try simp only [go_sem, llPV, hz, Int.toNat_natCast, Int.toNat_zero, List.drop_zero, Nat.sub_zero, nextA_len, Int.le_refl, Nat.le_refl, Nat.zero_le, hx, hr1, hr2, hbe, hw3, hw4, hNb]
                refine W_region [0, 1, 11, 58, 59, 60] fun R hR => ?_   -- r36
                simp only [go_sem, llPV, hz, Int.toNat_natCast, Int.toNat_zero, List.drop_zero, Nat.sub_zero, nextA_len, Int.le_refl, Nat.le_refl, Nat.zero_le, hx, hr1, hr2, hbe, hw3, hw4, hNb]
                try simp (disch := omega) only [wrapI, wrapU]
                refine hR _ _ ?_; clear hR R
                try simp only [go_sem, llPV, hz, Int.toNat_natCast, Int.toNat_zero, List.drop_zero, Nat.sub_zero, nextA_len, Int.le_refl, Nat.le_refl, Nat.zero_le, hx, hr1, hr2, hbe, hw3, hw4, hNb]
                refine ⟨i + 1, ?_, by (try simp only []); omega, ?_⟩
                · refine Weak.trans (Weak.cutX 1 1 (by omega) (by omega) hcl (by simp only [go_sem] <;> omega) (by simp only [go_sem] <;> omega)) ?_
                  simp only [go_sem]
                  refine Weak.eq ?_ ?_
                  · simp only [go_sem, nextA_succ, List.map_append, List.map_cons, List.map_nil, llPV, ints]
                    first | done | rfl
                  · simp only [go_sem]
                · try dsimp only
                  omega
              · -- c14 false
                try simp only [nrm] at c14
                exfalso
                first | omega | (simp at c14; omega)
            · -- c13 false
              try simp only [nrm] at c13
              have hok3 := nb_lo (by omega) (hok i l hx).2
              have hl8 := (hok i l hx).1
              have hi1 : ¬ i + 1 < ls.length := by first | omega | (simp at c13; omega)
              have hr1 : l.length ≤ l.length := Nat.le_refl _
              have hpl0 : ((l.take l.length)).length ≤ 8 := by simp only [List.length_drop, List.length_take] <;> omega
              have hr2 : 0 ≤ l.length := by omega
              have hfold : (l.take l.length).map I = (nextL ls N i).map I := by
                simp only [nextL, lgAt, hx, Option.getD_some, hi0, hi1, if_true, if_false]
                simp
              refine W_skip (kq48 _ _ ?_)
              refine W_seq fun kz53 kq53 => ?_
              refine W_region [0, 1, 11, 12, 14, 58, 59, 60] fun R hR => ?_   -- r32
              simp only [go_sem, llPV, hz, Int.toNat_natCast, Int.toNat_zero, List.drop_zero, Nat.sub_zero, nextA_len, Int.le_refl, Nat.le_refl, Nat.zero_le, hx, hr1, hr2]
              try simp (disch := first | omega | (simp only [go_sem] <;> omega)) only [wrapI, wrapU, appX_exact, appX_tok]
              try simp only [go_sem, llPV, hz, Int.toNat_natCast, Int.toNat_zero, List.drop_zero, Nat.sub_zero, nextA_len, Int.le_refl, Nat.le_refl, Nat.zero_le, hx, hr1, hr2]
              refine hR _ _ (kq53 _ _ ?_); clear hR R; try clear kq53 kz53
              try simp only [go_sem, llPV, hz, Int.toNat_natCast, Int.toNat_zero, List.drop_zero, Nat.sub_zero, nextA_len, Int.le_refl, Nat.le_refl, Nat.zero_le, hx, hr1, hr2]
              refine W_seq fun kz54 kq54 => ?_
              refine W_seq fun kz55 kq55 => ?_
              refine W_region [0, 1, 11, 12, 14, 58, 59, 60, 101] fun R hR => ?_   -- r33
              simp only [go_sem, llPV, hz, Int.toNat_natCast, Int.toNat_zero, List.drop_zero, Nat.sub_zero, nextA_len, Int.le_refl, Nat.le_refl, Nat.zero_le, hx, hr1, hr2]
              try simp (disch := omega) only [wrapI, wrapU]
              refine hR _ _ (kq55 _ _ ?_); clear hR R; try clear kq55 kz55
              try simp only [go_sem, llPV, hz, Int.toNat_natCast, Int.toNat_zero, List.drop_zero, Nat.sub_zero, nextA_len, Int.le_refl, Nat.le_refl, Nat.zero_le, hx, hr1, hr2]
              refine W_cond rfl (fun c15 => ?_) (fun c15 => ?_)
              · -- c15 true
                try simp only [nrm] at c15
                exfalso
                first | omega | (simp at c15; omega)
              · -- c15 false
                try simp only [nrm] at c15
                refine W_skip (kq54 _ _ ?_)
                try simp only [List.append_assoc] at hfold ⊢
                simp only [hfold]
                refine W_weak (Weak.ro 14) ?_
                refine W_weak (Weak.keep [0, 1, 11, 14, 58, 59, 60]) ?_
                simp only [go_sem]
                refine W_region [0, 1, 11, 58, 59, 60] fun R hR => ?_   -- r35
                simp only [go_sem, llPV, hz, Int.toNat_natCast, Int.toNat_zero, List.drop_zero, Nat.sub_zero, nextA_len, Int.le_refl, Nat.le_refl, Nat.zero_le, hx, hr1, hr2]
                try simp (disch := first | omega | (simp only [go_sem] <;> omega)) only [wrapI, wrapU, appX_exact, appX_tok]
                try simp only [go_sem, llPV, hz, Int.toNat_natCast, Int.toNat_zero, List.drop_zero, Nat.sub_zero, nextA_len, Int.le_refl, Nat.le_refl, Nat.zero_le, hx, hr1, hr2]
                refine hR _ _ (kq33 _ _ ?_); clear hR R; try clear kq33 kz33
                try simp only [go_sem, llPV, hz, Int.toNat_natCast, Int.toNat_zero, List.drop_zero, Nat.sub_zero, nextA_len, Int.le_refl, Nat.le_refl, Nat.zero_le, hx, hr1, hr2]
                refine W_region [0, 1, 11, 58, 59, 60] fun R hR => ?_   -- r36
                simp only [go_sem, llPV, hz, Int.toNat_natCast, Int.toNat_zero, List.drop_zero, Nat.sub_zero, nextA_len, Int.le_refl, Nat.le_refl, Nat.zero_le, hx, hr1, hr2]
                try simp (disch := omega) only [wrapI, wrapU]
                refine hR _ _ ?_; clear hR R
                try simp only [go_sem, llPV, hz, Int.toNat_natCast, Int.toNat_zero, List.drop_zero, Nat.sub_zero, nextA_len, Int.le_refl, Nat.le_refl, Nat.zero_le, hx, hr1, hr2]
                refine ⟨i + 1, ?_, by (try simp only []); omega, ?_⟩
                · refine Weak.trans (Weak.cutX 1 1 (by omega) (by omega) hcl (by simp only [go_sem] <;> omega) (by simp only [go_sem] <;> omega)) ?_
                  simp only [go_sem]
                  refine Weak.eq ?_ ?_
                  · simp only [go_sem, nextA_succ, List.map_append, List.map_cons, List.map_nil, llPV, ints]
                    first | done | rfl
                  · simp only [go_sem]
                · try dsimp only
                  omega
        · -- c8 false
          try simp only [nrm] at c8
          have hdrop : ls.drop i = [] := List.drop_eq_nil_of_le (by omega)
          have hie : i = ls.length := by first | omega | (simp at c8; omega)
          subst hie
          refine W_exit ?_
          simp only [go_sem, llPV, hz, Int.toNat_natCast, Int.toNat_zero, List.drop_zero, Nat.sub_zero, nextA_len, Int.le_refl, Nat.le_refl, Nat.zero_le]
          refine kq29 _ _ ?_
          refine W_seq fun kz56 kq56 => ?_
          refine W_region [4, 5] fun R hR => ?_   -- r37
          simp only [go_sem, llPV, hz, Int.toNat_natCast, Int.toNat_zero, List.drop_zero, Nat.sub_zero, nextA_len, Int.le_refl, Nat.le_refl, Nat.zero_le]
          refine hR _ _ (kq56 _ _ ?_); clear hR R; try clear kq56 kz56
          try simp only [go_sem, llPV, hz, Int.toNat_natCast, Int.toNat_zero, List.drop_zero, Nat.sub_zero, nextA_len, Int.le_refl, Nat.le_refl, Nat.zero_le]
          refine W_ret ?_
          simp only [go_sem, llPV, hz, Int.toNat_natCast, Int.toNat_zero, List.drop_zero, Nat.sub_zero, nextA_len, Int.le_refl, Nat.le_refl, Nat.zero_le]
          refine ⟨.inr (by trivial), ?_⟩
          first | refine Fin_same hcl rfl (Wk.ro (by simp only [go_sem]) ?_) | refine Fin_self hcl rfl (Wk.ro (by simp only [go_sem]) ?_)
          try simp only [go_sem]
          all_goals
            rw [← hres]; clear hres; simp [moveA, *]
end Go.Proofs.Ytgelnjmddabgpaa
namespace Go.Proofs.Ytgelnjmddabgpaa
open Go Go.RowKit
set_option maxRecDepth 100000
/-- What depends on the drum's beat, and the beat behind it. -/
abbrev D (α : Type) := Int → α × Int
def dret {α : Type} (a : α) : D α := fun b => (a, b)
def dbind {α β : Type} (m : D α) (f : α → D β) : D β := fun b => f (m b).1 (m b).2
def Holds {α : Type} (m : D α) (R : α → Prop) : Prop := ∀ b, R (m b).1
theorem Holds.ret {α : Type} {a : α} {R : α → Prop} (h : R a) : Holds (dret a) R := fun _ => h
theorem Holds.bind {α β : Type} {m : D α} {f : α → D β} {R : α → Prop} {S : β → Prop} (h : Holds m R) (k : ∀ a, R a → Holds (f a) S) : Holds (dbind m f) S := fun b => k _ (h b) _
theorem Holds.mono {α : Type} {m : D α} {R S : α → Prop} (h : Holds m R) (k : ∀ a, R a → S a) : Holds m S := fun b => k _ (h b)
def xorU (a b : Int) : Int := match arith .xor .u64 a b with | some (.int _ n) => n | _ => 0
def hitB (b : Int) : Int := IntKind.u64.wrap (IntKind.u64.wrap (b * 15074714826142052245) + 11400714819323198485)
def hitM (x : Int) : Int := IntKind.u64.wrap (xorU x (x.fdiv 4294967296) * 15760922415973212899)
def hitX (b : Int) : Int := xorU (hitM (hitM (hitB b))) ((hitM (hitM (hitB b))).fdiv 4294967296)
theorem wrapU_bd (n : Int) : 0 ≤ IntKind.u64.wrap n ∧ IntKind.u64.wrap n ≤ 18446744073709551615 := by
  have h : IntKind.u64.wrap n = n % 18446744073709551616 := rfl
  rw [h]; omega
theorem hitX_bd (b : Int) : 0 ≤ hitX b ∧ hitX b ≤ 18446744073709551615 := wrapU_bd _
def roll0 (n : Int) : D Int := fun b => if n < 2 then (0, b) else ((hitX b / 2) % n, hitB b)
/-- A number drawn: sealed, so that nobody computes with it. -/
noncomputable def roll : Int → D Int := Classical.choose (⟨roll0, rfl⟩ : ∃ f, f = roll0)
theorem roll_eq : roll = fun n b => if n < 2 then (0, b) else ((hitX b / 2) % n, hitB b) := Classical.choose_spec (⟨roll0, rfl⟩ : ∃ f, f = roll0)
noncomputable def mid (lo hi : Int) : D Int := fun b => (lo + (roll (hi - lo + 1) b).1, (roll (hi - lo + 1) b).2)
theorem roll_bd (n : Int) : Holds (roll n) fun r => 0 ≤ r ∧ r < max n 1 := by
  intro b
  rw [roll_eq]
  dsimp only
  have := hitX_bd b
  by_cases h : n < 2
  · rw [if_pos h]; simp only []; omega
  · rw [if_neg h]
    have h1 := Int.emod_nonneg (hitX b / 2) (show n ≠ 0 by omega)
    have h2 := Int.emod_lt_of_pos (hitX b / 2) (show 0 < n by omega)
    simp only []; omega
theorem mid_bd (lo hi : Int) (h : lo ≤ hi) : Holds (mid lo hi) fun r => lo ≤ r ∧ r ≤ hi := by
  intro b
  have := roll_bd (hi - lo + 1) b
  simp only [mid] at *
  omega
set_option maxHeartbeats 2000000 in
theorem hit_pc (Y : YEnv) (σ : Sg) (d : Nat) (b : Int) (hd : σ.store[d]? = some (some [.int .u64 b])) :
    PC Try.prog Y 37 [.ptr d 0] σ (.int .u64 (hitX b)) (σ.setVar d [.int .u64 (hitB b)]) := by
  refine PC_of_W Try.func37 rfl (by kernel_rfl) Try.ntmps37 (by simp) fun hcl hca => ?_
  have hlt := lt_of_get hd
  refine W_seq fun kz1 kq1 => ?_
  refine W_region [0] fun R hR => ?_   -- r0
  simp only [go_sem, ldS_at hd, stX_at hd, ldS_sv hlt, stX_sv hlt, sv_ext hlt, sv_ext_sv hlt]
  refine hR _ _ (kq1 _ _ ?_); clear hR R; try clear kq1 kz1
  try simp only [go_sem, ldS_at hd, stX_at hd, ldS_sv hlt, stX_sv hlt, sv_ext hlt, sv_ext_sv hlt]
  refine W_seq fun kz2 kq2 => ?_
  refine W_region [0] fun R hR => ?_   -- r1
  simp only [go_sem, ldS_at hd, stX_at hd, ldS_sv hlt, stX_sv hlt, sv_ext hlt, sv_ext_sv hlt]
  try simp (disch := omega) only [wrapI, wrapU]
  refine hR _ _ (kq2 _ _ ?_); clear hR R; try clear kq2 kz2
  try simp only [go_sem, ldS_at hd, stX_at hd, ldS_sv hlt, stX_sv hlt, sv_ext hlt, sv_ext_sv hlt]
  refine W_seq fun kz3 kq3 => ?_
  refine W_region [3] fun R hR => ?_   -- r2
  simp only [go_sem, ldS_at hd, stX_at hd, ldS_sv hlt, stX_sv hlt, sv_ext hlt, sv_ext_sv hlt]
  refine hR _ _ (kq3 _ _ ?_); clear hR R; try clear kq3 kz3
  try simp only [go_sem, ldS_at hd, stX_at hd, ldS_sv hlt, stX_sv hlt, sv_ext hlt, sv_ext_sv hlt]
  refine W_seq fun kz4 kq4 => ?_
  refine W_region [3] fun R hR => ?_   -- r3
  simp only [go_sem, ldS_at hd, stX_at hd, ldS_sv hlt, stX_sv hlt, sv_ext hlt, sv_ext_sv hlt]
  try simp (disch := omega) only [wrapI, wrapU]
  refine hR _ _ (kq4 _ _ ?_); clear hR R; try clear kq4 kz4
  try simp only [go_sem, ldS_at hd, stX_at hd, ldS_sv hlt, stX_sv hlt, sv_ext hlt, sv_ext_sv hlt]
  refine W_seq fun kz5 kq5 => ?_
  refine W_region [3] fun R hR => ?_   -- r4
  simp only [go_sem, ldS_at hd, stX_at hd, ldS_sv hlt, stX_sv hlt, sv_ext hlt, sv_ext_sv hlt]
  try simp (disch := omega) only [wrapI, wrapU]
  refine hR _ _ (kq5 _ _ ?_); clear hR R; try clear kq5 kz5
  try simp only [go_sem, ldS_at hd, stX_at hd, ldS_sv hlt, stX_sv hlt, sv_ext hlt, sv_ext_sv hlt]
  refine W_seq fun kz6 kq6 => ?_
  refine W_region [2] fun R hR => ?_   -- r5
  simp only [go_sem, ldS_at hd, stX_at hd, ldS_sv hlt, stX_sv hlt, sv_ext hlt, sv_ext_sv hlt]
  refine hR _ _ (kq6 _ _ ?_); clear hR R; try clear kq6 kz6
  try simp only [go_sem, ldS_at hd, stX_at hd, ldS_sv hlt, stX_sv hlt, sv_ext hlt, sv_ext_sv hlt]
  refine W_ret ?_
  simp only [go_sem, ldS_at hd, stX_at hd, ldS_sv hlt, stX_sv hlt, sv_ext hlt, sv_ext_sv hlt]
  refine ⟨.inr (by trivial), ?_⟩
  first | refine Fin_set hcl (by simp only [go_sem]) rfl (Wk_eq ?_ (by simp only [go_sem])) | refine Fin_set0 hcl (by simp only [go_sem]) rfl (Wk_eq ?_ (by simp only [go_sem]))
  try simp only [go_sem]
  all_goals
    simp only [hitX, hitM, hitB, xorU, go_sem]; simp (disch := omega) only [wrapU]
set_option maxHeartbeats 2000000 in
theorem Roll_lo (Y : YEnv) (σ : Sg) (d : Nat) (n : Int) (hn : n < 2) :
    PC Try.prog Y 14 [.ptr d 0, I n] σ (I 0) (σ) := by
  refine PC_of_W Try.func14 rfl (by kernel_rfl) Try.ntmps14 (by simp) fun hcl hca => ?_
  refine W_seq fun kz1 kq1 => ?_
  refine W_region [0, 1] fun R hR => ?_   -- r0
  simp only [go_sem]
  refine hR _ _ (kq1 _ _ ?_); clear hR R; try clear kq1 kz1
  try simp only [go_sem]
  refine W_seq fun kz2 kq2 => ?_
  refine W_seq fun kz3 kq3 => ?_
  refine W_region [0, 1, 6] fun R hR => ?_   -- r1
  simp only [go_sem]
  refine hR _ _ (kq3 _ _ ?_); clear hR R; try clear kq3 kz3
  try simp only [go_sem]
  refine W_cond rfl (fun c1 => ?_) (fun c1 => ?_)
  · -- c1 true
    try simp only [nrm] at c1
    refine W_seq fun kz4 kq4 => ?_
    refine W_region [4] fun R hR => ?_   -- r2
    simp only [go_sem]
    refine hR _ _ (kq4 _ _ ?_); clear hR R; try clear kq4 kz4
    try simp only [go_sem]
    refine W_ret ?_
    simp only [go_sem]
    refine ⟨.inr (by trivial), ?_⟩
    first | refine Fin_same hcl rfl (Wk_eq ?_ (by simp only [go_sem])) | refine Fin_self hcl rfl (Wk_eq ?_ (by simp only [go_sem]))
    try simp only [go_sem]
    all_goals
      first | rfl | (simp_all; done) | (simp_all; omega)
  · -- c1 false
    try simp only [nrm] at c1
    exfalso
    omega
set_option maxHeartbeats 2000000 in
theorem Roll_hi (Y : YEnv) (σ : Sg) (d : Nat) (b : Int) (hd : σ.store[d]? = some (some [.int .u64 b])) (n : Int) (hn : 2 ≤ n) (hn2 : n < 2 ^ 62) :
    PC Try.prog Y 14 [.ptr d 0, I n] σ (I ((hitX b / 2) % n)) (σ.setVar d [.int .u64 (hitB b)]) := by
  refine PC_of_W Try.func14 rfl (by kernel_rfl) Try.ntmps14 (by simp) fun hcl hca => ?_
  have hlt := lt_of_get hd
  have hb := hitX_bd b
  have e1 : (hitX b).fdiv 2 = hitX b / 2 := Int.fdiv_eq_ediv_of_nonneg _ (by omega)
  have e2 : (hitX b / 2).tmod n = (hitX b / 2) % n := Int.tmod_eq_emod_of_nonneg (by omega)
  have h1 := Int.emod_nonneg (hitX b / 2) (show n ≠ 0 by omega)
  have h2 := Int.emod_lt_of_pos (hitX b / 2) (show 0 < n by omega)
  have e3 : ¬ n = 0 := by omega
  have e4 : IntKind.u64.wrap n = n := wrapU (by omega) (by omega)
  refine W_seq fun kz1 kq1 => ?_
  refine W_region [0, 1] fun R hR => ?_   -- r0
  simp only [go_sem, ldS_at hd, stX_at hd, ldS_sv hlt, stX_sv hlt, sv_ext hlt, sv_ext_sv hlt]
  refine hR _ _ (kq1 _ _ ?_); clear hR R; try clear kq1 kz1
  try simp only [go_sem, ldS_at hd, stX_at hd, ldS_sv hlt, stX_sv hlt, sv_ext hlt, sv_ext_sv hlt]
  refine W_seq fun kz2 kq2 => ?_
  refine W_seq fun kz3 kq3 => ?_
  refine W_region [0, 1, 6] fun R hR => ?_   -- r1
  simp only [go_sem, ldS_at hd, stX_at hd, ldS_sv hlt, stX_sv hlt, sv_ext hlt, sv_ext_sv hlt]
  refine hR _ _ (kq3 _ _ ?_); clear hR R; try clear kq3 kz3
  try simp only [go_sem, ldS_at hd, stX_at hd, ldS_sv hlt, stX_sv hlt, sv_ext hlt, sv_ext_sv hlt]
  refine W_cond rfl (fun c1 => ?_) (fun c1 => ?_)
  · -- c1 true
    try simp only [nrm] at c1
    exfalso
    omega
  · -- c1 false
    try simp only [nrm] at c1
    refine W_skip (kq2 _ _ ?_)
    refine W_seq fun kz4 kq4 => ?_
    refine W_region [4] fun R hR => ?_   -- r3
    simp only [go_sem, ldS_at hd, stX_at hd, ldS_sv hlt, stX_sv hlt, sv_ext hlt, sv_ext_sv hlt, e4, e1, e2, e3]
    refine GCall_of (hit_pc Y _ d b hd) ?_   -- t8
    simp only [go_sem, ldS_at hd, stX_at hd, ldS_sv hlt, stX_sv hlt, sv_ext hlt, sv_ext_sv hlt, e4, e1, e2, e3]
    try simp (disch := omega) only [wrapI, wrapU]
    refine hR _ _ (kq4 _ _ ?_); clear hR R; try clear kq4 kz4
    try simp only [go_sem, ldS_at hd, stX_at hd, ldS_sv hlt, stX_sv hlt, sv_ext hlt, sv_ext_sv hlt]
    refine W_ret ?_
    simp only [go_sem, ldS_at hd, stX_at hd, ldS_sv hlt, stX_sv hlt, sv_ext hlt, sv_ext_sv hlt]
    refine ⟨.inr (by trivial), ?_⟩
    first | refine Fin_set hcl (by simp only [go_sem]) rfl (Wk_eq ?_ (by simp only [go_sem])) | refine Fin_set0 hcl (by simp only [go_sem]) rfl (Wk_eq ?_ (by simp only [go_sem]))
    try simp only [go_sem]
    all_goals
      first | rfl | (simp_all; done) | (simp_all; omega)
theorem Roll_pc (Y : YEnv) (σ : Sg) (d : Nat) (b : Int) (hd : σ.store[d]? = some (some [.int .u64 b])) (n : Int) (hn2 : n < 2 ^ 62) : PC Try.prog Y 14 [.ptr d 0, I n] σ (I (roll n b).1) (σ.setVar d [.int .u64 (roll n b).2]) := by
  rw [roll_eq]
  dsimp only
  by_cases h : n < 2
  · rw [if_pos h]; simp only []; rw [sv_self hd]; exact Roll_lo Y σ d n h
  · rw [if_neg h]; exact Roll_hi Y σ d b hd n (by omega) hn2
set_option maxHeartbeats 2000000 in
theorem Mid_pc (Y : YEnv) (σ : Sg) (d : Nat) (b : Int) (hd : σ.store[d]? = some (some [.int .u64 b])) (lo hi : Int) (h1 : -2 ^ 60 ≤ lo) (h2 : lo ≤ 2 ^ 60) (h3 : -2 ^ 60 ≤ hi) (h4 : hi ≤ 2 ^ 60) :
    PC Try.prog Y 30 [.ptr d 0, I lo, I hi] σ (I (mid lo hi b).1) (σ.setVar d [.int .u64 (mid lo hi b).2]) := by
  refine PC_of_W Try.func30 rfl (by kernel_rfl) Try.ntmps30 (by simp) fun hcl hca => ?_
  have hlt := lt_of_get hd
  have hr := roll_bd (hi - lo + 1) b
  simp only [] at hr
  refine W_seq fun kz1 kq1 => ?_
  refine W_region [0, 1, 2] fun R hR => ?_   -- r0
  simp only [go_sem, ldS_at hd, stX_at hd, ldS_sv hlt, stX_sv hlt, sv_ext hlt, sv_ext_sv hlt]
  refine hR _ _ (kq1 _ _ ?_); clear hR R; try clear kq1 kz1
  try simp only [go_sem, ldS_at hd, stX_at hd, ldS_sv hlt, stX_sv hlt, sv_ext hlt, sv_ext_sv hlt]
  refine W_seq fun kz2 kq2 => ?_
  refine W_region [6] fun R hR => ?_   -- r1
  simp only [go_sem, ldS_at hd, stX_at hd, ldS_sv hlt, stX_sv hlt, sv_ext hlt, sv_ext_sv hlt]
  try simp (disch := omega) only [wrapI, wrapU]
  refine GCall_of (Roll_pc Y _ d b (by first | exact hd | exact sv_get hlt | exact get_svx hlt | exact get_extx hd) _ (by omega)) ?_   -- t13
  simp only [go_sem, ldS_at hd, stX_at hd, ldS_sv hlt, stX_sv hlt, sv_ext hlt, sv_ext_sv hlt]
  try simp (disch := omega) only [wrapI, wrapU]
  refine hR _ _ (kq2 _ _ ?_); clear hR R; try clear kq2 kz2
  try simp only [go_sem, ldS_at hd, stX_at hd, ldS_sv hlt, stX_sv hlt, sv_ext hlt, sv_ext_sv hlt]
  refine W_ret ?_
  simp only [go_sem, ldS_at hd, stX_at hd, ldS_sv hlt, stX_sv hlt, sv_ext hlt, sv_ext_sv hlt]
  refine ⟨.inr (by trivial), ?_⟩
  first | refine Fin_set hcl (by simp only [go_sem]) rfl (Wk_eq ?_ (by simp only [go_sem])) | refine Fin_set0 hcl (by simp only [go_sem]) rfl (Wk_eq ?_ (by simp only [go_sem]))
  try simp only [go_sem]
  all_goals
    first | rfl | (simp_all; done) | (simp_all; omega)
end Go.Proofs.Ytgelnjmddabgpaa
namespace Go.Proofs.Ytgelnjmddabgpaa
open Go Go.RowKit
set_option maxRecDepth 100000
def drumB : List Int → Int → Int
  | [], b => b
  | x :: r, b => drumB r (hitB (xorU b (IntKind.u64.wrap x)))
set_option maxHeartbeats 2000000 in
theorem DrumOf_pc (Y : YEnv) (σ : Sg) (nums : List Int) (hl : nums.length < 2 ^ 60) :
    PC Try.prog Y 9 [ints nums] σ (.ptr σ.store.length 0) (σ.ext [some [.int .u64 (drumB nums 2685821657736338717)]] []) := by
  refine PC_of_W Try.func9 rfl (by kernel_rfl) Try.ntmps9 (by simp) fun hcl hca => ?_
  refine W_seq fun kz1 kq1 => ?_
  refine W_region [0] fun R hR => ?_   -- r0
  simp only [go_sem]
  refine hR _ _ (kq1 _ _ ?_); clear hR R; try clear kq1 kz1
  try simp only [go_sem]
  refine W_seq fun kz2 kq2 => ?_
  refine W_region [0, 3] fun R hR => ?_   -- r1
  simp only [go_sem]
  refine hR _ _ (kq2 _ _ ?_); clear hR R; try clear kq2 kz2
  try simp only [go_sem]
  refine W_seq fun kz3 kq3 => ?_
  refine W_seq fun kz4 kq4 => ?_
  refine W_region [0, 3, 4] fun R hR => ?_   -- r2
  simp only [go_sem]
  refine hR _ _ (kq4 _ _ ?_); clear hR R; try clear kq4 kz4
  try simp only [go_sem]
  refine W_block ?_
  refine W_loopT (α := Nat × Int) (fun ⟨i, b⟩ => [(4, I i)]) (fun ⟨i, b⟩ => σ.ext [some [.int .u64 b]] []) (fun ⟨i, b⟩ => i ≤ nums.length ∧ drumB nums 2685821657736338717 = drumB (nums.drop i) b) (fun ⟨i, b⟩ => nums.length - i) ((0, 2685821657736338717)) rfl (by first | rfl | (simp only [go_sem]; done) | (simp only [go_sem]; rfl)) (⟨Nat.zero_le _, rfl⟩) ?_
  rintro ⟨i, b⟩ ⟨hi, hb⟩
  refine W_seq fun kz5 kq5 => ?_
  refine W_seq fun kz6 kq6 => ?_
  refine W_region [0, 3, 4, 10] fun R hR => ?_   -- r3
  simp only [go_sem]
  refine hR _ _ (kq6 _ _ ?_); clear hR R; try clear kq6 kz6
  try simp only [go_sem]
  refine W_cond rfl (fun c1 => ?_) (fun c1 => ?_)
  · -- c1 true
    try simp only [nrm] at c1
    have hi' : i < nums.length := by first | assumption | omega
    obtain ⟨x, hx⟩ : ∃ x, nums[i]? = some x := ⟨nums[i], by simp [hi']⟩
    have hdrop : nums.drop i = x :: nums.drop (i + 1) := by
      rw [List.drop_eq_getElem_cons hi']; congr 1; exact (List.getElem?_eq_some_iff.1 hx).2
    rw [hdrop] at hb
    simp only [drumB] at hb
    refine W_skip (kq5 _ _ ?_)
    refine W_seq fun kz7 kq7 => ?_
    refine W_block ?_
    refine W_seq fun kz8 kq8 => ?_
    refine W_draw [0, 3, 4] [0, 1, 2, 3, 4, 5, 6, 7, 8, 9, 10, 11, 12, 13] [] [[], [], [1], [1, 2], [1, 2, 3], [], [], [5, 6], [5, 6, 7], [5, 6, 7, 8], [1, 2, 3, 4, 5, 6, 7, 8, 9], [0, 1, 2, 3, 4, 5, 6, 7, 8, 9, 10], [0, 1, 2, 3, 4, 5, 6, 7, 8, 9, 10, 11], [0, 1, 2, 3, 4, 5, 6, 7, 8, 9, 10, 11, 12]] mixed (by kernel_rfl) fun R hR => ?_   -- r5
    simp only [go_sem, hx]
    try simp (disch := omega) only [wrapI, wrapU]
    try refine And.intro (by repeat' (first | refine And.intro ?_ ?_ | exact GOr_right (fun _ => by simp only [go_sem, hx]))) ?_
    refine hR _ _ (kq8 _ _ ?_); clear hR R; try clear kq8 kz8
    try simp only [go_sem, hx]
    refine W_region [0, 3, 4] fun R hR => ?_   -- r6
    simp only [go_sem, hx]
    refine GCall_of (hit_pc Y _ _ _ (Sg.get_ext0 _ _ _ _)) ?_   -- t27
    simp only [go_sem, hx]
    refine hR _ _ (kq7 _ _ ?_); clear hR R; try clear kq7 kz7
    try simp only [go_sem, hx]
    refine W_region [0, 3, 4] fun R hR => ?_   -- r4
    simp only [go_sem, hx]
    try simp (disch := omega) only [wrapI, wrapU]
    refine hR _ _ ?_; clear hR R
    try simp only [go_sem, hx]
    refine ⟨(i + 1, hitB (xorU b (IntKind.u64.wrap x))), ?_, by (try simp only []); omega, ?_⟩
    · exact Weak.eq (by rfl) (by simp only [xorU, go_sem]; simp (disch := omega) only [wrapU])
    · try dsimp only
      exact ⟨hi', hb⟩
  · -- c1 false
    try simp only [nrm] at c1
    have hdrop : nums.drop i = [] := List.drop_eq_nil_of_le (by omega)
    rw [hdrop] at hb
    simp only [drumB] at hb
    refine W_exit ?_
    simp only [go_sem]
    refine kq3 _ _ ?_
    refine W_seq fun kz9 kq9 => ?_
    refine W_region [2] fun R hR => ?_   -- r7
    simp only [go_sem]
    refine hR _ _ (kq9 _ _ ?_); clear hR R; try clear kq9 kz9
    try simp only [go_sem]
    refine W_ret ?_
    simp only [go_sem]
    refine ⟨.inr (by trivial), ?_⟩
    rw [hb]; exact Fin_ext 1 0 hcl rfl (Wk_eq rfl (by simp only [go_sem] <;> omega)) (by show CleanLs _ _ _ _; simp only [go_sem])
    try simp only [go_sem]
    all_goals
      skip
end Go.Proofs.Ytgelnjmddabgpaa
namespace Go.Proofs.Ytgelnjmddabgpaa
open Go Go.RowKit
set_option maxRecDepth 100000
end Go.Proofs.Ytgelnjmddabgpaa
namespace Go.Proofs.Ytgelnjmddabgpaa
open Go Go.RowKit
set_option maxRecDepth 100000
end Go.Proofs.Ytgelnjmddabgpaa
namespace Go.Proofs.Ytgelnjmddabgpaa
open Go Go.RowKit
set_option maxRecDepth 100000
end Go.Proofs.Ytgelnjmddabgpaa
namespace Go.Proofs.Ytgelnjmddabgpaa
open Go Go.RowKit
set_option maxRecDepth 100000
noncomputable def lgA : Nat → Int → List Int → D (List Int × Int)
  | 0, nx, acc => dret (acc, nx)
  | k + 1, nx, acc => dbind (mid 1 3) fun m => lgA k (nx + m) (acc ++ [nx])
noncomputable def lgB (n : Int) : Nat → Int → List (List Int) → D (List (List Int))
  | 0, _, out => dret out
  | k + 1, nx, out => dbind (roll 4) fun q => dbind (lgA (2 * n + q).toNat nx []) fun p => lgB n k p.2 (out ++ [p.1])
noncomputable def leaguesD : D (List (List Int) × Int) := dbind (roll 3) fun n => dbind (roll 5) fun nx => dbind (roll 5) fun k => dbind (lgB n k.toNat nx []) fun out => dret (out, n)
/-- Numbers that grow, all below a bound. -/
def Grow (l : List Int) (hi : Int) : Prop := l.Pairwise (· < ·) ∧ ∀ x, x ∈ l → x < hi
theorem Grow.snoc {l : List Int} {hi m : Int} (h : Grow l hi) (hm : 1 ≤ m) : Grow (l ++ [hi]) (hi + m) := by
  refine ⟨List.pairwise_append.2 ⟨h.1, by simp, fun a ha b hb => by simp at hb; subst hb; exact h.2 a ha⟩, fun x hx => ?_⟩
  rcases List.mem_append.1 hx with hx | hx
  · have := h.2 x hx; omega
  · simp at hx; subst hx; omega
theorem lgA_ok (pre : List Int) : ∀ (k : Nat) (nx : Int) (acc : List Int), Grow (pre ++ acc) nx → Holds (lgA k nx acc) fun p => p.1.length = acc.length + k ∧ Grow (pre ++ p.1) p.2 := by
  intro k
  induction k with
  | zero => intro nx acc h; exact .ret ⟨rfl, h⟩
  | succ k ih =>
    intro nx acc h
    refine (mid_bd 1 3 (by omega)).bind fun m hm => (ih (nx + m) (acc ++ [nx]) ?_).mono fun p hp => ⟨by rw [hp.1]; simp; omega, hp.2⟩
    rw [← List.append_assoc]
    exact h.snoc hm.1
structure LgOk (ls : List (List Int)) (n : Int) : Prop where
  nn : 0 ≤ n ∧ n ≤ 2
  ln : ls.length ≤ 4
  li : ∀ l, l ∈ ls → 2 * n ≤ l.length ∧ l.length ≤ 7
  gr : ls.flatten.Pairwise (· < ·)
theorem lgB_ok (n : Int) (hn : 0 ≤ n ∧ n ≤ 2) : ∀ (k : Nat) (nx : Int) (out : List (List Int)), out.length + k ≤ 4 → Grow out.flatten nx → (∀ l, l ∈ out → 2 * n ≤ l.length ∧ l.length ≤ 7) → Holds (lgB n k nx out) fun ls => LgOk ls n := by
  intro k
  induction k with
  | zero => intro nx out hl hg ho; exact .ret ⟨hn, by omega, ho, hg.1⟩
  | succ k ih =>
    intro nx out hl hg ho
    refine (roll_bd 4).bind fun q hq => (lgA_ok out.flatten (2 * n + q).toNat nx [] (by simpa using hg)).bind fun p hp => ih p.2 (out ++ [p.1]) (by simp; omega) (by simpa using hp.2) ?_
    intro l hl'
    rcases List.mem_append.1 hl' with h | h
    · exact ho l h
    · simp at h
      subst h
      have := hp.1
      simp at this
      omega
theorem leaguesD_ok : Holds leaguesD fun p => LgOk p.1 p.2 := by
  unfold leaguesD
  refine (roll_bd 3).bind fun n hn => (roll_bd 5).bind fun nx hnx => (roll_bd 5).bind fun k hk => (lgB_ok n (by omega) k.toNat nx [] (by simp; omega) ⟨by simp, fun x hx => by simp at hx⟩ (fun l h => by cases h)).bind fun out ho => .ret ho
set_option maxHeartbeats 8000000 in
theorem LeaguesOf_pc (Y : YEnv) (σ : Sg) (d : Nat) (b : Int) (hd : σ.store[d]? = some (some [.int .u64 b])) :
    PC Try.prog Y 32 [.ptr d 0] σ (.tuple [lls (leaguesD b).1.1, I (leaguesD b).1.2]) (σ.setVar d [.int .u64 (leaguesD b).2]) := by
  refine PC_of_W Try.func32 rfl (by kernel_rfl) Try.ntmps32 (by simp) fun hcl hca => ?_
  have hlt := lt_of_get hd
  obtain ⟨res, hres⟩ : ∃ r, leaguesD b = r := ⟨_, rfl⟩
  rw [hres]
  simp only [leaguesD, dbind] at hres
  obtain ⟨n, hn⟩ : ∃ zz, (roll 3 b).1 = zz := ⟨_, rfl⟩
  obtain ⟨b1, hb1⟩ : ∃ zz, (roll 3 b).2 = zz := ⟨_, rfl⟩
  have dn := roll_bd 3 b
  simp only [hn] at dn
  obtain ⟨nx0, hnx0⟩ : ∃ zz, (roll 5 b1).1 = zz := ⟨_, rfl⟩
  obtain ⟨b2, hb2⟩ : ∃ zz, (roll 5 b1).2 = zz := ⟨_, rfl⟩
  have dnx0 := roll_bd 5 b1
  simp only [hnx0] at dnx0
  obtain ⟨kz, hkz⟩ : ∃ zz, (roll 5 b2).1 = zz := ⟨_, rfl⟩
  obtain ⟨b3, hb3⟩ : ∃ zz, (roll 5 b2).2 = zz := ⟨_, rfl⟩
  have dkz := roll_bd 5 b2
  simp only [hkz] at dkz
  simp only [hn, hb1, hnx0, hb2, hkz, hb3] at hres
  have dn2 : 0 ≤ n ∧ n ≤ 2 := by omega
  have dx2 : 0 ≤ nx0 ∧ nx0 ≤ 4 := by omega
  obtain ⟨K, hK⟩ : ∃ z : Nat, kz = z := ⟨kz.toNat, by omega⟩
  subst hK
  have dk2 : K ≤ 4 := by omega
  simp only [Int.toNat_natCast] at hres
  obtain ⟨R0, hR0⟩ : ∃ z, lgB n K nx0 [] b3 = z := ⟨_, rfl⟩
  rw [hR0] at hres
  refine W_seq fun kz1 kq1 => ?_
  refine W_region [0] fun R hR => ?_   -- r0
  simp only [go_sem, ldS_at hd, stX_at hd, ldS_sv hlt, stX_sv hlt, sv_ext hlt, sv_ext_sv hlt, hn, hb1, hnx0, hb2, hkz, hb3, llPV]
  refine hR _ _ (kq1 _ _ ?_); clear hR R; try clear kq1 kz1
  try simp only [go_sem, ldS_at hd, stX_at hd, ldS_sv hlt, stX_sv hlt, sv_ext hlt, sv_ext_sv hlt, hn, hb1, hnx0, hb2, hkz, hb3, llPV]
  refine W_seq fun kz2 kq2 => ?_
  refine W_region [0, 4] fun R hR => ?_   -- r1
  simp only [go_sem, ldS_at hd, stX_at hd, ldS_sv hlt, stX_sv hlt, sv_ext hlt, sv_ext_sv hlt, hn, hb1, hnx0, hb2, hkz, hb3, llPV]
  refine GCall_of (Roll_pc Y _ d b (by first | exact hd | exact sv_get hlt | exact get_svx hlt | exact get_extx hd) 3 (by omega)) ?_   -- t11
  simp only [go_sem, ldS_at hd, stX_at hd, ldS_sv hlt, stX_sv hlt, sv_ext hlt, sv_ext_sv hlt, hn, hb1, hnx0, hb2, hkz, hb3, llPV]
  refine hR _ _ (kq2 _ _ ?_); clear hR R; try clear kq2 kz2
  try simp only [go_sem, ldS_at hd, stX_at hd, ldS_sv hlt, stX_sv hlt, sv_ext hlt, sv_ext_sv hlt, hn, hb1, hnx0, hb2, hkz, hb3, llPV]
  refine W_seq fun kz3 kq3 => ?_
  refine W_region [0, 4, 5] fun R hR => ?_   -- r2
  simp only [go_sem, ldS_at hd, stX_at hd, ldS_sv hlt, stX_sv hlt, sv_ext hlt, sv_ext_sv hlt, hn, hb1, hnx0, hb2, hkz, hb3, llPV]
  refine hR _ _ (kq3 _ _ ?_); clear hR R; try clear kq3 kz3
  try simp only [go_sem, ldS_at hd, stX_at hd, ldS_sv hlt, stX_sv hlt, sv_ext hlt, sv_ext_sv hlt, hn, hb1, hnx0, hb2, hkz, hb3, llPV]
  refine W_seq fun kz4 kq4 => ?_
  refine W_region [0, 4, 5, 6] fun R hR => ?_   -- r3
  simp only [go_sem, ldS_at hd, stX_at hd, ldS_sv hlt, stX_sv hlt, sv_ext hlt, sv_ext_sv hlt, hn, hb1, hnx0, hb2, hkz, hb3, llPV]
  refine GCall_of (Roll_pc Y _ d b1 (by first | exact hd | exact sv_get hlt | exact get_svx hlt | exact get_extx hd) 5 (by omega)) ?_   -- t13
  simp only [go_sem, ldS_at hd, stX_at hd, ldS_sv hlt, stX_sv hlt, sv_ext hlt, sv_ext_sv hlt, hn, hb1, hnx0, hb2, hkz, hb3, llPV]
  refine hR _ _ (kq4 _ _ ?_); clear hR R; try clear kq4 kz4
  try simp only [go_sem, ldS_at hd, stX_at hd, ldS_sv hlt, stX_sv hlt, sv_ext hlt, sv_ext_sv hlt, hn, hb1, hnx0, hb2, hkz, hb3, llPV]
  refine W_seq fun kz5 kq5 => ?_
  refine W_seq fun kz6 kq6 => ?_
  refine W_region [0, 4, 5, 6, 7] fun R hR => ?_   -- r4
  simp only [go_sem, ldS_at hd, stX_at hd, ldS_sv hlt, stX_sv hlt, sv_ext hlt, sv_ext_sv hlt, hn, hb1, hnx0, hb2, hkz, hb3, llPV]
  refine GCall_of (Roll_pc Y _ d b2 (by first | exact hd | exact sv_get hlt | exact get_svx hlt | exact get_extx hd) 5 (by omega)) ?_   -- t15
  simp only [go_sem, ldS_at hd, stX_at hd, ldS_sv hlt, stX_sv hlt, sv_ext hlt, sv_ext_sv hlt, hn, hb1, hnx0, hb2, hkz, hb3, llPV]
  refine hR _ _ (kq6 _ _ ?_); clear hR R; try clear kq6 kz6
  try simp only [go_sem, ldS_at hd, stX_at hd, ldS_sv hlt, stX_sv hlt, sv_ext hlt, sv_ext_sv hlt, hn, hb1, hnx0, hb2, hkz, hb3, llPV]
  refine W_block ?_
  refine W_weak (Weak.room (t := 5) (es := 1) rfl (by simp)) ?_
  refine W_weak (Weak.keep [0, 4, 5, 6, 7]) ?_
  simp only [go_sem, ldS_at hd, stX_at hd, ldS_sv hlt, stX_sv hlt, sv_ext hlt, sv_ext_sv hlt, hn, hb1, hnx0, hb2, hkz, hb3, llPV]
  refine W_loopT (α := Nat × Int × (List (List Int)) × Int) (fun ⟨k, nx, out, b⟩ => [(5, .isl (out.map llPV) (.tok σ.rooms.length out.length 1)), (6, I nx), (7, I k)]) (fun ⟨k, nx, out, b⟩ => (σ.setVar d [.int .u64 b]).ext [] [out.length]) (fun ⟨k, nx, out, b⟩ => out.length + k ≤ 4 ∧ 0 ≤ nx ∧ nx ≤ 4 + 21 * (out.length : Int) ∧ R0 = lgB n k nx out b) (fun ⟨k, nx, out, b⟩ => k) ((K, nx0, [], b3)) rfl (by first | rfl | (simp only [go_sem]; done) | (simp only [go_sem]; rfl)) (⟨by simp; omega, dx2.1, by simp; omega, hR0.symm⟩) ?_
  rintro ⟨k, nx, out, b⟩ ⟨hk, hx1, hx2, hinv⟩
  refine W_seq fun kz7 kq7 => ?_
  refine W_seq fun kz8 kq8 => ?_
  refine W_region [0, 4, 5, 6, 7, 17] fun R hR => ?_   -- r5
  simp only [go_sem, ldS_at hd, stX_at hd, ldS_sv hlt, stX_sv hlt, sv_ext hlt, sv_ext_sv hlt, hn, hb1, hnx0, hb2, hkz, hb3, llPV]
  refine hR _ _ (kq8 _ _ ?_); clear hR R; try clear kq8 kz8
  try simp only [go_sem, ldS_at hd, stX_at hd, ldS_sv hlt, stX_sv hlt, sv_ext hlt, sv_ext_sv hlt, hn, hb1, hnx0, hb2, hkz, hb3, llPV]
  refine W_cond rfl (fun c1 => ?_) (fun c1 => ?_)
  · -- c1 true
    try simp only [nrm] at c1
    obtain ⟨k, rfl⟩ : ∃ z, k = z + 1 := ⟨k - 1, by first | omega | (simp at c1; omega)⟩
    have hk1 : (((k + 1 : Nat) : Int) - 1) = (k : Int) := by omega
    simp only [lgB, dbind] at hinv
    obtain ⟨q4, hq4⟩ : ∃ zz, (roll 4 b).1 = zz := ⟨_, rfl⟩
    obtain ⟨b1, hb1⟩ : ∃ zz, (roll 4 b).2 = zz := ⟨_, rfl⟩
    have dq4 := roll_bd 4 b
    simp only [hq4] at dq4
    simp only [hq4, hb1] at hinv
    obtain ⟨q, hq⟩ : ∃ z : Nat, 2 * n + q4 = z := ⟨(2 * n + q4).toNat, by omega⟩
    have hq7 : q ≤ 7 := by omega
    obtain ⟨R1, hR1⟩ : ∃ z, lgA q nx [] b1 = z := ⟨_, rfl⟩
    simp only [hq, Int.toNat_natCast, hR1] at hinv
    have hqw : IntKind.i64.wrap (2 * n) = 2 * n := wrapI (by omega) (by omega)
    have hqw2 : IntKind.i64.wrap (q : Int) = q := wrapI (by omega) (by omega)
    refine W_skip (kq7 _ _ ?_)
    refine W_seq fun kz9 kq9 => ?_
    refine W_block ?_
    refine W_seq fun kz10 kq10 => ?_
    refine W_region [0, 4, 5, 6, 7, 8] fun R hR => ?_   -- r7
    simp only [go_sem, ldS_at hd, stX_at hd, ldS_sv hlt, stX_sv hlt, sv_ext hlt, sv_ext_sv hlt, hn, hb1, hnx0, hb2, hkz, hb3, llPV, hq4, hb1, hk1, hqw, hq, hqw2]
    refine hR _ _ (kq10 _ _ ?_); clear hR R; try clear kq10 kz10
    try simp only [go_sem, ldS_at hd, stX_at hd, ldS_sv hlt, stX_sv hlt, sv_ext hlt, sv_ext_sv hlt, hn, hb1, hnx0, hb2, hkz, hb3, llPV, hq4, hb1, hk1, hqw, hq, hqw2]
    refine W_seq fun kz11 kq11 => ?_
    refine W_seq fun kz12 kq12 => ?_
    refine W_region [0, 4, 5, 6, 7, 8, 9] fun R hR => ?_   -- r8
    simp only [go_sem, ldS_at hd, stX_at hd, ldS_sv hlt, stX_sv hlt, sv_ext hlt, sv_ext_sv hlt, hn, hb1, hnx0, hb2, hkz, hb3, llPV, hq4, hb1, hk1, hqw, hq, hqw2]
    try simp (disch := omega) only [wrapI, wrapU]
    refine GCall_of (Roll_pc Y _ d b (by first | exact hd | exact sv_get hlt | exact get_svx hlt | exact get_extx hd) 4 (by omega)) ?_   -- t23
    simp only [go_sem, ldS_at hd, stX_at hd, ldS_sv hlt, stX_sv hlt, sv_ext hlt, sv_ext_sv hlt, hn, hb1, hnx0, hb2, hkz, hb3, llPV, hq4, hb1, hk1, hqw, hq, hqw2]
    try simp (disch := omega) only [wrapI, wrapU]
    refine hR _ _ (kq12 _ _ ?_); clear hR R; try clear kq12 kz12
    try simp only [go_sem, ldS_at hd, stX_at hd, ldS_sv hlt, stX_sv hlt, sv_ext hlt, sv_ext_sv hlt, hn, hb1, hnx0, hb2, hkz, hb3, llPV, hq4, hb1, hk1, hqw, hq, hqw2]
    refine W_block ?_
    refine W_weak (Weak.room (t := 8) (es := 1) rfl (by simp)) ?_
    refine W_weak (Weak.keep [0, 4, 5, 6, 7, 8, 9]) ?_
    simp only [go_sem, ldS_at hd, stX_at hd, ldS_sv hlt, stX_sv hlt, sv_ext hlt, sv_ext_sv hlt, hn, hb1, hnx0, hb2, hkz, hb3, llPV, hq4, hb1, hk1, hqw, hq, hqw2]
    refine W_loopT (α := Nat × Int × (List Int) × Int) (fun ⟨q, nx2, acc, b⟩ => [(6, I nx2), (8, .isl (acc.map I) (.tok (σ.rooms.length + 1) acc.length 1)), (9, I q)]) (fun ⟨q, nx2, acc, b⟩ => (σ.setVar d [.int .u64 b]).ext [] [out.length, acc.length]) (fun ⟨q, nx2, acc, b⟩ => acc.length + q ≤ 7 ∧ 0 ≤ nx2 ∧ nx2 + 3 * (q : Int) ≤ 4 + 21 * ((out.length : Int) + 1) ∧ R1 = lgA q nx2 acc b) (fun ⟨q, nx2, acc, b⟩ => q) ((q, nx, [], b1)) rfl (by first | rfl | (simp only [go_sem]; done) | (simp only [go_sem]; rfl)) (⟨by simp; omega, hx1, by omega, hR1.symm⟩) ?_
    rintro ⟨q, nx2, acc, b⟩ ⟨hq2, hx3, hx4, hinv2⟩
    refine W_seq fun kz13 kq13 => ?_
    refine W_seq fun kz14 kq14 => ?_
    refine W_region [0, 4, 5, 6, 7, 8, 9, 26] fun R hR => ?_   -- r9
    simp only [go_sem, ldS_at hd, stX_at hd, ldS_sv hlt, stX_sv hlt, sv_ext hlt, sv_ext_sv hlt, hn, hb1, hnx0, hb2, hkz, hb3, llPV, hq4, hb1, hk1, hqw, hq, hqw2]
    refine hR _ _ (kq14 _ _ ?_); clear hR R; try clear kq14 kz14
    try simp only [go_sem, ldS_at hd, stX_at hd, ldS_sv hlt, stX_sv hlt, sv_ext hlt, sv_ext_sv hlt, hn, hb1, hnx0, hb2, hkz, hb3, llPV, hq4, hb1, hk1, hqw, hq, hqw2]
    refine W_cond rfl (fun c2 => ?_) (fun c2 => ?_)
    · -- c2 true
      try simp only [nrm] at c2
      obtain ⟨q, rfl⟩ : ∃ z, q = z + 1 := ⟨q - 1, by first | omega | (simp at c2; omega)⟩
      simp only [lgA, dbind] at hinv2
      obtain ⟨m, hm⟩ : ∃ zz, (mid 1 3 b).1 = zz := ⟨_, rfl⟩
      obtain ⟨b1, hb1⟩ : ∃ zz, (mid 1 3 b).2 = zz := ⟨_, rfl⟩
      have dm := mid_bd 1 3 (by omega) b
      simp only [hm] at dm
      simp only [hm, hb1] at hinv2
      refine W_skip (kq13 _ _ ?_)
      refine W_seq fun kz15 kq15 => ?_
      refine W_block ?_
      refine W_seq fun kz16 kq16 => ?_
      refine W_region [0, 4, 5, 6, 7, 8, 9] fun R hR => ?_   -- r11
      simp only [go_sem, ldS_at hd, stX_at hd, ldS_sv hlt, stX_sv hlt, sv_ext hlt, sv_ext_sv hlt, hn, hb1, hnx0, hb2, hkz, hb3, llPV, hq4, hb1, hk1, hqw, hq, hqw2, hm, hb1]
      try simp (disch := first | omega | (simp only [go_sem] <;> omega)) only [wrapI, wrapU, appX_exact, appX_tok]
      try simp only [go_sem, ldS_at hd, stX_at hd, ldS_sv hlt, stX_sv hlt, sv_ext hlt, sv_ext_sv hlt, hn, hb1, hnx0, hb2, hkz, hb3, llPV, hq4, hb1, hk1, hqw, hq, hqw2, hm, hb1]
      refine hR _ _ (kq16 _ _ ?_); clear hR R; try clear kq16 kz16
      try simp only [go_sem, ldS_at hd, stX_at hd, ldS_sv hlt, stX_sv hlt, sv_ext hlt, sv_ext_sv hlt, hn, hb1, hnx0, hb2, hkz, hb3, llPV, hq4, hb1, hk1, hqw, hq, hqw2, hm, hb1]
      refine W_region [0, 4, 5, 6, 7, 8, 9] fun R hR => ?_   -- r12
      simp only [go_sem, ldS_at hd, stX_at hd, ldS_sv hlt, stX_sv hlt, sv_ext hlt, sv_ext_sv hlt, hn, hb1, hnx0, hb2, hkz, hb3, llPV, hq4, hb1, hk1, hqw, hq, hqw2, hm, hb1]
      refine GCall_of (Mid_pc Y _ d b (by first | exact hd | exact sv_get hlt | exact get_svx hlt | exact get_extx hd) 1 3 (by omega) (by omega) (by omega) (by omega)) ?_   -- t35
      simp only [go_sem, ldS_at hd, stX_at hd, ldS_sv hlt, stX_sv hlt, sv_ext hlt, sv_ext_sv hlt, hn, hb1, hnx0, hb2, hkz, hb3, llPV, hq4, hb1, hk1, hqw, hq, hqw2, hm, hb1]
      try simp (disch := omega) only [wrapI, wrapU]
      refine hR _ _ (kq15 _ _ ?_); clear hR R; try clear kq15 kz15
      try simp only [go_sem, ldS_at hd, stX_at hd, ldS_sv hlt, stX_sv hlt, sv_ext hlt, sv_ext_sv hlt, hn, hb1, hnx0, hb2, hkz, hb3, llPV, hq4, hb1, hk1, hqw, hq, hqw2, hm, hb1]
      refine W_region [0, 4, 5, 6, 7, 8, 9] fun R hR => ?_   -- r10
      simp only [go_sem, ldS_at hd, stX_at hd, ldS_sv hlt, stX_sv hlt, sv_ext hlt, sv_ext_sv hlt, hn, hb1, hnx0, hb2, hkz, hb3, llPV, hq4, hb1, hk1, hqw, hq, hqw2, hm, hb1]
      try simp (disch := omega) only [wrapI, wrapU]
      refine hR _ _ ?_; clear hR R
      try simp only [go_sem, ldS_at hd, stX_at hd, ldS_sv hlt, stX_sv hlt, sv_ext hlt, sv_ext_sv hlt, hn, hb1, hnx0, hb2, hkz, hb3, llPV, hq4, hb1, hk1, hqw, hq, hqw2, hm, hb1]
      refine ⟨(q, nx2 + m, acc ++ [nx2], b1), ?_, by (try simp only []); omega, ?_⟩
      · first | exact Weak.refl | exact Weak.eq (by first | rfl | (simp only [go_sem]; done) | (simp only [go_sem]; rfl) | (simp [go_sem]; done) | (simp [go_sem]; omega)) (by first | rfl | (simp only [go_sem]; done) | (simp [go_sem]; done))
      · try dsimp only
        exact ⟨by simp; omega, by omega, by omega, hinv2⟩
    · -- c2 false
      try simp only [nrm] at c2
      have hqe : q = 0 := by first | omega | (simp at c2; omega)
      subst hqe
      simp only [lgA, dret] at hinv2
      refine W_exit ?_
      simp only [go_sem, ldS_at hd, stX_at hd, ldS_sv hlt, stX_sv hlt, sv_ext hlt, sv_ext_sv hlt, hn, hb1, hnx0, hb2, hkz, hb3, llPV, hq4, hb1, hk1, hqw, hq, hqw2]
      refine kq11 _ _ ?_
      refine W_weak (Weak.ro 8) ?_
      refine W_weak (Weak.keep [0, 4, 5, 6, 7, 8]) ?_
      simp only [go_sem]
      refine W_region [0, 4, 5, 6, 7] fun R hR => ?_   -- r13
      simp only [go_sem, ldS_at hd, stX_at hd, ldS_sv hlt, stX_sv hlt, sv_ext hlt, sv_ext_sv hlt, hn, hb1, hnx0, hb2, hkz, hb3, llPV, hq4, hb1, hk1, hqw, hq, hqw2]
      try simp (disch := first | omega | (simp only [go_sem] <;> omega)) only [wrapI, wrapU, appX_exact, appX_tok]
      try simp only [go_sem, ldS_at hd, stX_at hd, ldS_sv hlt, stX_sv hlt, sv_ext hlt, sv_ext_sv hlt, hn, hb1, hnx0, hb2, hkz, hb3, llPV, hq4, hb1, hk1, hqw, hq, hqw2]
      refine hR _ _ (kq9 _ _ ?_); clear hR R; try clear kq9 kz9
      try simp only [go_sem, ldS_at hd, stX_at hd, ldS_sv hlt, stX_sv hlt, sv_ext hlt, sv_ext_sv hlt, hn, hb1, hnx0, hb2, hkz, hb3, llPV, hq4, hb1, hk1, hqw, hq, hqw2]
      refine W_region [0, 4, 5, 6, 7] fun R hR => ?_   -- r6
      simp only [go_sem, ldS_at hd, stX_at hd, ldS_sv hlt, stX_sv hlt, sv_ext hlt, sv_ext_sv hlt, hn, hb1, hnx0, hb2, hkz, hb3, llPV, hq4, hb1, hk1, hqw, hq, hqw2]
      try simp (disch := omega) only [wrapI, wrapU]
      refine hR _ _ ?_; clear hR R
      try simp only [go_sem, ldS_at hd, stX_at hd, ldS_sv hlt, stX_sv hlt, sv_ext hlt, sv_ext_sv hlt, hn, hb1, hnx0, hb2, hkz, hb3, llPV, hq4, hb1, hk1, hqw, hq, hqw2]
      refine ⟨(k, nx2, out ++ [acc], b), ?_, by (try simp only []); omega, ?_⟩
      · refine Weak.trans (Weak.cutSV 0 1 (by omega) (by omega) hcl (by simp only [go_sem]) (by simp only [go_sem] <;> omega) (by simp only [go_sem] <;> omega)) ?_
        simp only [go_sem]
        refine Weak.eq ?_ ?_
        · simp only [go_sem, List.map_append, List.map_cons, List.map_nil, llPV, ints]
          first | done | rfl
        · simp only [go_sem]
      · try dsimp only
        refine ⟨by simp; omega, by omega, by simp; omega, ?_⟩
        rw [hinv, hinv2]
  · -- c1 false
    try simp only [nrm] at c1
    have hke : k = 0 := by first | omega | (simp at c1; omega)
    subst hke
    simp only [lgB, dret] at hinv
    refine W_exit ?_
    simp only [go_sem, ldS_at hd, stX_at hd, ldS_sv hlt, stX_sv hlt, sv_ext hlt, sv_ext_sv hlt, hn, hb1, hnx0, hb2, hkz, hb3, llPV]
    refine kq5 _ _ ?_
    refine W_seq fun kz17 kq17 => ?_
    refine W_region [2, 3] fun R hR => ?_   -- r14
    simp only [go_sem, ldS_at hd, stX_at hd, ldS_sv hlt, stX_sv hlt, sv_ext hlt, sv_ext_sv hlt, hn, hb1, hnx0, hb2, hkz, hb3, llPV]
    refine hR _ _ (kq17 _ _ ?_); clear hR R; try clear kq17 kz17
    try simp only [go_sem, ldS_at hd, stX_at hd, ldS_sv hlt, stX_sv hlt, sv_ext hlt, sv_ext_sv hlt, hn, hb1, hnx0, hb2, hkz, hb3, llPV]
    refine W_ret ?_
    simp only [go_sem, ldS_at hd, stX_at hd, ldS_sv hlt, stX_sv hlt, sv_ext hlt, sv_ext_sv hlt, hn, hb1, hnx0, hb2, hkz, hb3, llPV]
    refine ⟨.inr (by trivial), ?_⟩
    rw [hinv] at hres; simp only [dret] at hres; rw [← hres]; refine Fin_set hcl (by simp only [go_sem]) rfl (Wk.ro (by simp only [go_sem]) ?_)
    try simp only [go_sem]
    all_goals
      simp only [go_sem]
end Go.Proofs.Ytgelnjmddabgpaa
namespace Go.Proofs.Ytgelnjmddabgpaa
set_option maxRecDepth 100000
theorem lg_get {ls : List (List Int)} {a p : Nat} {x : Int} (h : (lgAt ls a)[p]? = some x) : ∃ l, ls[a]? = some l ∧ l[p]? = some x := by
  unfold lgAt at h
  cases hl : ls[a]? with
  | none => rw [hl] at h; simp at h
  | some l => rw [hl] at h; exact ⟨l, rfl, h⟩
theorem lg_lt {ls : List (List Int)} (hg : ls.flatten.Pairwise (· < ·)) {a p b q : Nat} {x y : Int} (h1 : (lgAt ls a)[p]? = some x) (h2 : (lgAt ls b)[q]? = some y) (h : a < b ∨ (a = b ∧ p < q)) : x < y := by
  obtain ⟨l, e1, e2⟩ := lg_get h1
  obtain ⟨m, e3, e4⟩ := lg_get h2
  obtain ⟨g1, g2⟩ := List.pairwise_flatten.1 hg
  rcases h with h | ⟨rfl, h⟩
  · obtain ⟨i1, rfl⟩ := List.getElem?_eq_some_iff.1 e1
    obtain ⟨i2, rfl⟩ := List.getElem?_eq_some_iff.1 e3
    exact List.pairwise_iff_getElem.1 g2 a b i1 i2 h x (List.mem_of_getElem? e2) y (List.mem_of_getElem? e4)
  · rw [e1] at e3
    cases e3
    obtain ⟨i1, rfl⟩ := List.getElem?_eq_some_iff.1 e2
    obtain ⟨i2, rfl⟩ := List.getElem?_eq_some_iff.1 e4
    exact List.pairwise_iff_getElem.1 (g1 l (List.mem_of_getElem? e1)) p q i1 i2 h
theorem lg_uniq {ls : List (List Int)} (hg : ls.flatten.Pairwise (· < ·)) {a p b q : Nat} {x : Int} (h1 : (lgAt ls a)[p]? = some x) (h2 : (lgAt ls b)[q]? = some x) : a = b ∧ p = q := by
  rcases Nat.lt_trichotomy a b with h | h | h
  · exact absurd (lg_lt hg h1 h2 (.inl h)) (Int.lt_irrefl _)
  · refine ⟨h, ?_⟩
    rcases Nat.lt_trichotomy p q with k | k | k
    · exact absurd (lg_lt hg h1 h2 (.inr ⟨h, k⟩)) (Int.lt_irrefl _)
    · exact k
    · exact absurd (lg_lt hg h2 h1 (.inr ⟨h.symm, k⟩)) (Int.lt_irrefl _)
  · exact absurd (lg_lt hg h2 h1 (.inl h)) (Int.lt_irrefl _)
/-- The three parts of a league of the next season. -/
def prtA (ls : List (List Int)) (n i : Nat) : List Int := if 0 < i then (lgAt ls (i - 1)).drop ((lgAt ls (i - 1)).length - n) else []
def prtB (ls : List (List Int)) (n i : Nat) : List Int := ((lgAt ls i).drop (if 0 < i then n else 0)).take (((lgAt ls i).length - (if i + 1 < ls.length then n else 0)) - (if 0 < i then n else 0))
def prtC (ls : List (List Int)) (n i : Nat) : List Int := if i + 1 < ls.length then (lgAt ls (i + 1)).take n else []
theorem nextL_parts (ls : List (List Int)) (n i : Nat) : nextL ls n i = prtA ls n i ++ (prtB ls n i ++ prtC ls n i) := rfl
section
variable {ls : List (List Int)} {n : Int} {N : Nat}
theorem lgAt_li (h : LgOk ls n) {i : Nat} (hi : i < ls.length) : 2 * n ≤ (lgAt ls i).length ∧ (lgAt ls i).length ≤ 7 := by
  have e : lgAt ls i = ls[i] := by simp [lgAt, hi]
  rw [e]
  exact h.li _ (List.getElem_mem hi)
theorem memA {i : Nat} {x : Int} (h : x ∈ prtA ls N i) : 0 < i ∧ ∃ p, (lgAt ls (i - 1))[p]? = some x ∧ (lgAt ls (i - 1)).length - N ≤ p := by
  unfold prtA at h
  split at h
  · rename_i hi
    obtain ⟨p, hp⟩ := List.mem_iff_getElem?.1 h
    rw [List.getElem?_drop] at hp
    exact ⟨hi, _, hp, by omega⟩
  · cases h
theorem memB {i : Nat} {x : Int} (h : x ∈ prtB ls N i) : ∃ p, (lgAt ls i)[p]? = some x ∧ (0 < i → N ≤ p) ∧ (i + 1 < ls.length → p < (lgAt ls i).length - N) := by
  unfold prtB at h
  obtain ⟨f, hf⟩ : ∃ f, (if 0 < i then N else 0) = f := ⟨_, rfl⟩
  obtain ⟨g, hg⟩ : ∃ g, (if i + 1 < ls.length then N else 0) = g := ⟨_, rfl⟩
  rw [hf, hg] at h
  obtain ⟨p, hp⟩ := List.mem_iff_getElem?.1 h
  by_cases hlt : p < (lgAt ls i).length - g - f
  · rw [List.getElem?_take_of_lt hlt, List.getElem?_drop] at hp
    refine ⟨f + p, hp, fun a => ?_, fun a => ?_⟩
    · rw [if_pos a] at hf; omega
    · rw [if_pos a] at hg; omega
  · rw [List.getElem?_eq_none (by rw [List.length_take]; omega)] at hp
    cases hp
theorem memC {i : Nat} {x : Int} (h : x ∈ prtC ls N i) : i + 1 < ls.length ∧ ∃ p, (lgAt ls (i + 1))[p]? = some x ∧ p < N := by
  unfold prtC at h
  split at h
  · rename_i hi
    obtain ⟨p, hp⟩ := List.mem_iff_getElem?.1 h
    rw [List.getElem?_take] at hp
    split at hp
    · exact ⟨hi, p, hp, by assumption⟩
    · cases hp
  · cases h
theorem has_get {l : List Int} {x : Int} : has l x = true ↔ ∃ p : Nat, l[p]? = some x := by rw [has_iff, List.mem_iff_getElem?]
theorem next_cases {i : Nat} {x : Int} (h : x ∈ nextL ls N i) : ∃ a p, (lgAt ls a)[p]? = some x ∧ ((0 < i ∧ a = i - 1 ∧ (lgAt ls a).length - N ≤ p) ∨ (a = i ∧ (0 < i → N ≤ p) ∧ (i + 1 < ls.length → p < (lgAt ls a).length - N)) ∨ (i + 1 < ls.length ∧ a = i + 1 ∧ p < N)) := by
  rw [nextL_parts] at h
  rcases List.mem_append.1 h with h | h
  · obtain ⟨h1, p, h2, h3⟩ := memA h
    exact ⟨_, p, h2, .inl ⟨h1, rfl, h3⟩⟩
  · rcases List.mem_append.1 h with h | h
    · obtain ⟨p, h2, h3⟩ := memB h
      exact ⟨_, p, h2, .inr (.inl ⟨rfl, h3⟩)⟩
    · obtain ⟨h1, p, h2, h3⟩ := memC h
      exact ⟨_, p, h2, .inr (.inr ⟨h1, rfl, h3⟩)⟩
theorem next_apart (h : LgOk ls n) (hN : n = N) {i j : Nat} (hj : j < i) (hi : i < ls.length) {x : Int} (h1 : x ∈ nextL ls N i) (h2 : x ∈ nextL ls N j) : False := by
  obtain ⟨a, p, e1, k1⟩ := next_cases h1
  obtain ⟨b, q, e2, k2⟩ := next_cases h2
  obtain ⟨rfl, rfl⟩ := lg_uniq h.gr e1 e2
  have hl : a < ls.length := by
    obtain ⟨l, e, _⟩ := lg_get e1
    exact (List.getElem?_eq_some_iff.1 e).1
  have := (lgAt_li h hl).1
  omega
theorem next_has {i : Nat} {x : Int} (h : x ∈ nextL ls N i) : has (lgAt ls i) x = true ∨ (0 < i ∧ has (lgAt ls (i - 1)) x = true) ∨ (i + 1 < ls.length ∧ has (lgAt ls (i + 1)) x = true) := by
  obtain ⟨a, p, e, k | k | k⟩ := next_cases h
  · obtain ⟨k1, rfl, _⟩ := k; exact .inr (.inl ⟨k1, has_get.2 ⟨p, e⟩⟩)
  · obtain ⟨rfl, _⟩ := k; exact .inl (has_get.2 ⟨p, e⟩)
  · obtain ⟨k1, rfl, _⟩ := k; exact .inr (.inr ⟨k1, has_get.2 ⟨p, e⟩⟩)
def isDn (ls : List (List Int)) (i : Nat) (x : Int) : Bool := !(has (lgAt ls i) x) && (decide (0 < i) && has (lgAt ls (i - 1)) x)
def isUp (ls : List (List Int)) (i : Nat) (x : Int) : Bool := !(has (lgAt ls i) x) && (!(decide (0 < i) && has (lgAt ls (i - 1)) x) && (decide (i + 1 < ls.length) && has (lgAt ls (i + 1)) x))
def dnC (ls : List (List Int)) (i : Nat) (l : List Int) : Nat := (l.filter (isDn ls i)).length
def upC (ls : List (List Int)) (i : Nat) (l : List Int) : Nat := (l.filter (isUp ls i)).length
theorem filt_all {p : Int → Bool} {l : List Int} (h : ∀ x, x ∈ l → p x = true) : (l.filter p).length = l.length := by rw [List.filter_eq_self.2 h]
theorem filt_none {p : Int → Bool} {l : List Int} (h : ∀ x, x ∈ l → p x = false) : (l.filter p).length = 0 := by
  rw [List.filter_eq_nil_iff.2 fun x hx => by rw [h x hx]; simp]; rfl
theorem not_has (h : LgOk ls n) {a b p : Nat} {x : Int} (e : (lgAt ls a)[p]? = some x) (hab : a ≠ b) : has (lgAt ls b) x = false := by
  cases hh : has (lgAt ls b) x with
  | false => rfl
  | true =>
    obtain ⟨q, hq⟩ := has_get.1 hh
    exact absurd (lg_uniq h.gr e hq).1 hab
theorem dn_all (h : LgOk ls n) (hN : n = N) {i : Nat} (hi : i < ls.length) (h0 : 0 < i) : dnC ls i (nextL ls N i) = N := by
  have hl := (lgAt_li h (i := i - 1) (by omega)).1
  unfold dnC
  rw [nextL_parts, List.filter_append, List.filter_append, List.length_append, List.length_append, filt_all (l := prtA ls N i), filt_none (l := prtB ls N i), filt_none (l := prtC ls N i)]
  · rw [prtA, if_pos h0, List.length_drop]; omega
  · intro x hx
    obtain ⟨k, p, e, _⟩ := memC hx
    simp only [isDn, not_has h e (b := i - 1) (by omega), Bool.and_false]
  · intro x hx
    obtain ⟨p, e, _⟩ := memB hx
    simp only [isDn, has_get.2 ⟨p, e⟩, Bool.not_true, Bool.false_and]
  · intro x hx
    obtain ⟨_, p, e, _⟩ := memA hx
    simp only [isDn, not_has h e (b := i) (by omega), has_get.2 ⟨p, e⟩, Bool.not_false, Bool.and_true, Bool.true_and, decide_eq_true_eq]
    exact h0
theorem up_all (h : LgOk ls n) (hN : n = N) {i : Nat} (hi : i + 1 < ls.length) : upC ls i (nextL ls N i) = N := by
  have hl := (lgAt_li h (i := i + 1) (by omega)).1
  unfold upC
  rw [nextL_parts, List.filter_append, List.filter_append, List.length_append, List.length_append, filt_none (l := prtA ls N i), filt_none (l := prtB ls N i), filt_all (l := prtC ls N i)]
  · rw [prtC, if_pos hi, List.length_take]; omega
  · intro x hx
    obtain ⟨_, p, e, _⟩ := memC hx
    simp [isUp, not_has h e (b := i) (by omega), not_has h e (b := i - 1) (by omega), has_get.2 ⟨p, e⟩, hi]
  · intro x hx
    obtain ⟨p, e, _⟩ := memB hx
    simp only [isUp, has_get.2 ⟨p, e⟩, Bool.not_true, Bool.false_and]
  · intro x hx
    obtain ⟨k, p, e, _⟩ := memA hx
    simp [isUp, has_get.2 ⟨p, e⟩, k]
theorem next_len (h : LgOk ls n) (hN : n = N) {i : Nat} (hi : i < ls.length) : (nextL ls N i).length = (lgAt ls i).length := by
  have hl := (lgAt_li h hi).1
  rw [nextL_parts, List.length_append, List.length_append]
  have ha : (prtA ls N i).length = if 0 < i then N else 0 := by
    unfold prtA
    split
    · have := (lgAt_li h (i := i - 1) (by omega)).1
      rw [List.length_drop]; omega
    · rfl
  have hc : (prtC ls N i).length = if i + 1 < ls.length then N else 0 := by
    unfold prtC
    split
    · have := (lgAt_li h (i := i + 1) (by omega)).1
      rw [List.length_take]; omega
    · rfl
  have hb : (prtB ls N i).length = (lgAt ls i).length - (if i + 1 < ls.length then N else 0) - (if 0 < i then N else 0) := by
    unfold prtB
    rw [List.length_take, List.length_drop]
    split <;> split <;> omega
  rw [ha, hb, hc]
  split <;> split <;> omega
theorem dupL_grow : ∀ (l met : List Int), (met ++ l).Pairwise (· < ·) → dupL met l = false := by
  intro l
  induction l with
  | nil => intro met _; rfl
  | cons x l ih =>
    intro met h
    have e : has met x = false := by
      cases hh : has met x with
      | false => rfl
      | true => exact absurd ((List.pairwise_append.1 h).2.2 x (has_iff.1 hh) x (by simp)) (Int.lt_irrefl _)
    simp only [dupL, e, Bool.false_or]
    exact ih _ (by simpa using h)
theorem nb_le (hn : 0 ≤ n) (L i : Nat) : n * nb L i ≤ 2 * n := by
  have := nb_bd L i
  rw [Int.mul_comm]
  exact Int.mul_le_mul_of_nonneg_right this.2 hn
theorem chkL_grow (hn : 0 ≤ n) (L : Nat) : ∀ (r : List (List Int)) (i : Nat) (met : List Int), (met ++ r.flatten).Pairwise (· < ·) → (∀ l, l ∈ r → 2 * n ≤ l.length ∧ l.length ≤ 7) → chkL L n i met r = 0 := by
  intro r
  induction r with
  | nil => intro i met _ _; rfl
  | cons l r ih =>
    intro i met h hl
    obtain ⟨h1, h2⟩ := hl l (by simp)
    have hd : dupL met l = false := dupL_grow l met (by
      rw [List.flatten_cons, ← List.append_assoc] at h
      exact (List.pairwise_append.1 h).1)
    have := nb_le hn L i
    simp only [chkL]
    rw [if_neg (by omega), hd, if_neg (by simp), if_neg (by omega)]
    exact ih _ _ (by simpa using h) fun x hx => hl x (by simp [hx])
theorem move_ok (h : LgOk ls n) (hN : n = N) : moveA ls n = (nextA ls N ls.length, 0) := by
  unfold moveA
  have h1 := h.nn
  have h2 := h.ln
  have hc : chkL ls.length n 0 [] ls = 0 := chkL_grow h1.1 _ ls 0 [] (by simpa using h.gr) h.li
  have hi : inR n 0 8 = true := by rw [inR_true]; omega
  rw [if_neg (by omega), hi, hc, if_neg (by simp), if_neg (by simp), hN, Int.toNat_natCast]
end
end Go.Proofs.Ytgelnjmddabgpaa
namespace Go.Proofs.Ytgelnjmddabgpaa
open Go Go.RowKit
set_option maxRecDepth 100000
end Go.Proofs.Ytgelnjmddabgpaa
namespace Go.Proofs.Ytgelnjmddabgpaa
open Go Go.RowKit
set_option maxRecDepth 100000
def exTab : List Stand := [⟨0, 385, [195, 190]⟩, ⟨2, 365, [175, 195]⟩, ⟨1, 365, [195, 170]⟩]
def exTot : List (Int × Int) := [(340, 385), (355, 390), (345, 370)]
set_option maxHeartbeats 4000000 in
theorem awake_pc (Y : YEnv) (σ : Sg)  :
    PC Try.prog Y 20 [] σ (.bool true) (σ) := by
  refine PC_of_W Try.func20 rfl (by kernel_rfl) Try.ntmps20 (by simp) fun hcl hca => ?_
  refine W_seq fun kz1 kq1 => ?_
  refine W_region [] fun R hR => ?_   -- r0
  simp only [go_sem]
  refine hR _ _ (kq1 _ _ ?_); clear hR R; try clear kq1 kz1
  try simp only [go_sem]
  refine W_seq fun kz2 kq2 => ?_
  refine W_region [1, 2] fun R hR => ?_   -- r1
  simp only [go_sem]
  refine GCall_of (scale_pc Y _) ?_   -- t8
  simp only [go_sem]
  refine GCall_of (night_pc Y _) ?_   -- t9
  simp only [go_sem]
  refine GCall_of (PC.val (v' := .tuple [sds exTab, I 0]) (Table_pc Y _ exScale exNight exScale_ok exNight_ok) (by rw [exTable]; rfl)) ?_   -- t10
  simp only [go_sem]
  refine hR _ _ (kq2 _ _ ?_); clear hR R; try clear kq2 kz2
  try simp only [go_sem]
  refine W_seq fun kz3 kq3 => ?_
  refine W_region [1, 2, 3, 4] fun R hR => ?_   -- r2
  simp only [go_sem]
  refine GCall_of (scale_pc Y _) ?_   -- t14
  simp only [go_sem]
  refine GCall_of (before_pc Y _) ?_   -- t15
  simp only [go_sem]
  refine GCall_of (PC.val (v' := .tuple [sts exTot, I 0]) (Totals_pc Y _ exScale exBefore exScale_ok exBefore_ok) (by rw [exTotals]; rfl)) ?_   -- t16
  simp only [go_sem]
  refine hR _ _ (kq3 _ _ ?_); clear hR R; try clear kq3 kz3
  try simp only [go_sem]
  refine W_seq fun kz4 kq4 => ?_
  refine W_region [1, 2, 3, 4, 5, 6] fun R hR => ?_   -- r3
  simp only [go_sem]
  refine GCall_of (scale_pc Y _) ?_   -- t20
  simp only [go_sem]
  refine GCall_of (before_pc Y _) ?_   -- t21
  simp only [go_sem]
  refine GCall_of (PC.val (v' := .tuple [.agg [I 1, I 3], I 0]) (Place_pc Y _ exScale exBefore exScale_ok exBefore_ok 0) (by rw [exPlace])) ?_   -- t22
  simp only [go_sem]
  refine hR _ _ (kq4 _ _ ?_); clear hR R; try clear kq4 kz4
  try simp only [go_sem]
  refine W_seq fun kz5 kq5 => ?_
  refine W_draw [0] [0, 1, 2, 3, 4, 5, 6, 7, 8, 9, 10, 11, 12, 13, 14, 15, 16, 17, 18, 19, 20, 21, 22, 23, 24, 25, 26, 27, 28, 29, 30, 31, 32, 33, 34] [(22, 24), (22, 25), (22, 27), (30, 35)] [[], [0], [0, 1], [0, 1, 2], [0, 1, 2, 3], [0, 1, 2, 3, 4], [0, 1, 2, 3, 4, 5], [0, 1, 2, 3, 4, 5, 6], [0, 1, 2, 3, 4, 5, 6, 7], [0, 1, 2, 3, 4, 5, 6, 7, 8], [0, 1, 2, 3, 4, 5, 6, 7, 8, 9], [0, 1, 2, 3, 4, 5, 6, 7, 8, 9, 10], [0, 1, 2, 3, 4, 5, 6, 7, 8, 9, 10], [0, 1, 2, 3, 4, 5, 6, 7, 8, 9, 10, 12], [0, 1, 2, 3, 4, 5, 6, 7, 8, 9, 10], [0, 1, 2, 3, 4, 5, 6, 7, 8, 9, 10, 14], [0, 1, 2, 3, 4, 5, 6, 7, 8, 9, 10], [0, 1, 2, 3, 4, 5, 6, 7, 8, 9, 10, 16], [0, 1, 2, 3, 4, 5, 6, 7, 8, 9, 10, 12, 13, 14, 15, 16, 17], [0, 1, 2, 3, 4, 5, 6, 7, 8, 9, 10, 11, 12, 13, 14, 15, 16, 17, 18], [0, 1, 2, 3, 4, 5, 6, 7, 8, 9, 10, 11, 12, 13, 14, 15, 16, 17, 18, 19], [0, 1, 2, 3, 4, 5, 6, 7, 8, 9, 10, 11, 12, 13, 14, 15, 16, 17, 18, 19, 20], [0, 1, 2, 3, 4, 5, 6, 7, 8, 9, 10, 11, 12, 13, 14, 15, 16, 17, 18, 19, 20, 21], [0, 1, 2, 3, 4, 5, 6, 7, 8, 9, 10, 11, 12, 13, 14, 15, 16, 17, 18, 19, 20, 21], [0, 1, 2, 3, 4, 5, 6, 7, 8, 9, 10, 11, 12, 13, 14, 15, 16, 17, 18, 19, 20, 21, 23], [0, 1, 2, 3, 4, 5, 6, 7, 8, 9, 10, 11, 12, 13, 14, 15, 16, 17, 18, 19, 20, 21, 23, 24], [0, 1, 2, 3, 4, 5, 6, 7, 8, 9, 10, 11, 12, 13, 14, 15, 16, 17, 18, 19, 20, 21, 23, 24, 25], [0, 1, 2, 3, 4, 5, 6, 7, 8, 9, 10, 11, 12, 13, 14, 15, 16, 17, 18, 19, 20, 21, 22, 23, 24, 25, 26], [0, 1, 2, 3, 4, 5, 6, 7, 8, 9, 10, 11, 12, 13, 14, 15, 16, 17, 18, 19, 20, 21, 22, 23, 24, 25, 26, 27], [0, 1, 2, 3, 4, 5, 6, 7, 8, 9, 10, 11, 12, 13, 14, 15, 16, 17, 18, 19, 20, 21, 22, 23, 24, 25, 26, 27, 28], [0, 1, 2, 3, 4, 5, 6, 7, 8, 9, 10, 11, 12, 13, 14, 15, 16, 17, 18, 19, 20, 21, 22, 23, 24, 25, 26, 27, 28, 29], [0, 1, 2, 3, 4, 5, 6, 7, 8, 9, 10, 11, 12, 13, 14, 15, 16, 17, 18, 19, 20, 21, 22, 23, 24, 25, 26, 27, 28, 29], [0, 1, 2, 3, 4, 5, 6, 7, 8, 9, 10, 11, 12, 13, 14, 15, 16, 17, 18, 19, 20, 21, 22, 23, 24, 25, 26, 27, 28, 29, 30, 31], [0, 1, 2, 3, 4, 5, 6, 7, 8, 9, 10, 11, 12, 13, 14, 15, 16, 17, 18, 19, 20, 21, 22, 23, 24, 25, 26, 27, 28, 29, 30, 31, 32], [0, 1, 2, 3, 4, 5, 6, 7, 8, 9, 10, 11, 12, 13, 14, 15, 16, 17, 18, 19, 20, 21, 22, 23, 24, 25, 26, 27, 28, 29, 30, 31, 32, 33]] mixed (by kernel_rfl) fun R hR => ?_   -- r4
  simp only [go_sem]
  refine GCall_of (PC.val (v' := .bool true) (PC.ofRo (EqTables_pc Y _ exTab exTab .ro .ro (by decide) (by decide)) (by simp only [go_sem, exTab] <;> rfl)) (by rfl)) ?_   -- t44
  simp only [go_sem]
  refine GCall_of (span_pc Y _ 340 385) ?_   -- t48
  simp only [go_sem]
  refine GCall_of (span_pc Y _ 355 390) ?_   -- t49
  simp only [go_sem]
  refine GCall_of (span_pc Y _ 345 370) ?_   -- t50
  simp only [go_sem]
  refine GCall_of (EqSpans_pc Y _ exTot exTot .ro .exact (by decide)) ?_   -- t52
  simp only [go_sem]
  refine GCall_of (span_pc Y _ 1 3) ?_   -- t56
  simp only [go_sem]
  try refine And.intro (by repeat' (first | refine And.intro ?_ ?_ | exact GOr_right (fun _ => by simp only [go_sem]))) ?_
  refine hR _ _ (kq5 _ _ ?_); clear hR R; try clear kq5 kz5
  try simp only [go_sem]
  refine W_ret ?_
  simp only [go_sem]
  refine ⟨.inr (by trivial), ?_⟩
  first | refine Fin_same hcl rfl (Wk_eq ?_ (by simp only [go_sem])) | refine Fin_self hcl rfl (Wk_eq ?_ (by simp only [go_sem]))
  try simp only [go_sem]
  all_goals
    first | rfl | (simp_all; done) | (simp_all; omega)
end Go.Proofs.Ytgelnjmddabgpaa
namespace Go.Proofs.Ytgelnjmddabgpaa
open Go Go.RowKit
set_option maxRecDepth 100000
def l3PV (ls : List (List Int)) : PV := .isl (ls.map llPV) .ro
theorem clean_l3 {a b c : Nat} (ls : List (List Int)) : Clean a b c (l3PV ls) := Clean.map noTok clean_ll
theorem okC_l3 {xs : List (List (List Int))} : okC 1 (xs.map l3PV) = True := okC_map fun x => by simp [okC, l3PV, PV.cells, PV.scalar]
theorem cA_l3 {a b c : Nat} {xs : List (List (List Int))} : CleanAll a b c (xs.map l3PV) = True := CleanAll_map clean_l3
theorem roL_l3 {xs : List (List (List Int))} : PV.roL (xs.map l3PV) = xs.map l3PV := roL_enc fun x => by simp only [l3PV, ro_isl, roL_ll]
attribute [go_sem] okC_l3 cA_l3 roL_l3 l3PV
end Go.Proofs.Ytgelnjmddabgpaa
namespace Go.Proofs.Ytgelnjmddabgpaa
open Go Go.RowKit
set_option maxRecDepth 100000
theorem filt_take (p : Int → Bool) {l : List Int} {k : Nat} {x : Int} (h : l[k]? = some x) : ((l.take (k + 1)).filter p).length = ((l.take k).filter p).length + (if p x = true then 1 else 0) := by
  rw [List.take_add_one, h, List.filter_append, List.length_append]
  cases hp : p x <;> simp [hp]
set_option maxHeartbeats 8000000 in
theorem MarksLeagues_pc (Y : YEnv) (σ : Sg) (nums : List Int) (hn : nums.length < 2 ^ 60) :
    PC Try.prog Y 8 [ints nums] σ (.bool true) (σ) := by
  refine PC_of_W Try.func8 rfl (by kernel_rfl) Try.ntmps8 (by simp) fun hcl hca => ?_
  obtain ⟨b0, hb0⟩ : ∃ z, drumB nums 2685821657736338717 = z := ⟨_, rfl⟩
  obtain ⟨ls, hls⟩ : ∃ z, (leaguesD b0).1.1 = z := ⟨_, rfl⟩
  obtain ⟨n, hmany⟩ : ∃ z, (leaguesD b0).1.2 = z := ⟨_, rfl⟩
  obtain ⟨b1, hb1⟩ : ∃ z, (leaguesD b0).2 = z := ⟨_, rfl⟩
  have lok : LgOk ls n := by rw [← hls, ← hmany]; exact leaguesD_ok b0
  have hnn := lok.nn
  have hll := lok.ln
  obtain ⟨N, hN⟩ : ∃ z : Nat, n = z := ⟨n.toNat, by omega⟩
  have hmo := move_ok lok hN
  obtain ⟨mv, hmv⟩ : ∃ z, nextA ls N ls.length = z := ⟨_, rfl⟩
  rw [hmv] at hmo
  have hmvl : mv.length = ls.length := by rw [← hmv]; exact nextA_len _ _ _
  have hmvi : ∀ i, i < ls.length → mv[i]? = some (nextL ls N i) := fun i hi => by rw [← hmv]; simp [nextA, hi]
  have hnz : ∀ i x, x ∈ nextL ls N i → x ∈ nextL ls N i := fun _ _ h => h
  refine W_seq fun kz1 kq1 => ?_
  refine W_region [0] fun R hR => ?_   -- r0
  simp only [go_sem, llPV, hb0, hls, hmany, hb1]
  refine hR _ _ (kq1 _ _ ?_); clear hR R; try clear kq1 kz1
  try simp only [go_sem, llPV, hb0, hls, hmany, hb1]
  refine W_seq fun kz2 kq2 => ?_
  refine W_region [3, 4] fun R hR => ?_   -- r1
  simp only [go_sem, llPV, hb0, hls, hmany, hb1]
  refine GCall_of (DrumOf_pc Y _ nums hn) ?_   -- t15
  simp only [go_sem, llPV, hb0, hls, hmany, hb1]
  refine GCall_of (LeaguesOf_pc Y _ _ b0 (Sg.get_ext0 ..)) ?_   -- t16
  simp only [go_sem, llPV, hb0, hls, hmany, hb1]
  refine hR _ _ (kq2 _ _ ?_); clear hR R; try clear kq2 kz2
  try simp only [go_sem, llPV, hb0, hls, hmany, hb1]
  refine W_seq fun kz3 kq3 => ?_
  refine W_region [3, 4, 5, 6] fun R hR => ?_   -- r2
  simp only [go_sem, llPV, hb0, hls, hmany, hb1]
  refine GCall_of (PC.val (v' := .tuple [lls mv, I 0]) (Move_pc Y _ ls n (by omega) (fun x hx => by have := (lok.li x hx).2; omega)) (by rw [hmo])) ?_   -- t22
  simp only [go_sem, llPV, hb0, hls, hmany, hb1]
  refine hR _ _ (kq3 _ _ ?_); clear hR R; try clear kq3 kz3
  try simp only [go_sem, llPV, hb0, hls, hmany, hb1]
  refine W_seq fun kz4 kq4 => ?_
  refine W_seq fun kz5 kq5 => ?_
  refine W_region [3, 4, 5, 33] fun R hR => ?_   -- r3
  simp only [go_sem, llPV, hb0, hls, hmany, hb1]
  refine hR _ _ (kq5 _ _ ?_); clear hR R; try clear kq5 kz5
  try simp only [go_sem, llPV, hb0, hls, hmany, hb1]
  refine W_cond rfl (fun c1 => ?_) (fun c1 => ?_)
  · -- c1 true
    try simp only [nrm] at c1
    exfalso
    simp [hmvl] at c1
  · -- c1 false
    try simp only [nrm] at c1
    refine W_skip (kq4 _ _ ?_)
    refine W_seq fun kz6 kq6 => ?_
    refine W_seq fun kz7 kq7 => ?_
    refine W_region [3, 4, 5, 7] fun R hR => ?_   -- r5
    simp only [go_sem, llPV, hb0, hls, hmany, hb1]
    refine hR _ _ (kq7 _ _ ?_); clear hR R; try clear kq7 kz7
    try simp only [go_sem, llPV, hb0, hls, hmany, hb1]
    refine W_block ?_
    refine W_loopS (α := Nat) (fun (i : Nat) => [(7, I i)]) (fun (i : Nat) => i ≤ ls.length) (fun (i : Nat) => ls.length - i) (0) rfl (Nat.zero_le _) ?_
    rintro i hi
    refine W_seq fun kz8 kq8 => ?_
    refine W_seq fun kz9 kq9 => ?_
    refine W_region [3, 4, 5, 7, 37] fun R hR => ?_   -- r6
    simp only [go_sem, llPV, hb0, hls, hmany, hb1]
    refine hR _ _ (kq9 _ _ ?_); clear hR R; try clear kq9 kz9
    try simp only [go_sem, llPV, hb0, hls, hmany, hb1]
    refine W_cond rfl (fun c2 => ?_) (fun c2 => ?_)
    · -- c2 true
      try simp only [nrm] at c2
      have hi' : i < ls.length := by first | omega | (simp at c2; omega)
      obtain ⟨li, hli⟩ : ∃ z, ls[i]? = some z := ⟨ls[i]'hi', by simp⟩
      have eli : lgAt ls i = li := by simp [lgAt, hli]
      have hl7 := (lgAt_li lok hi').2
      have hnli := next_len lok hN hi'
      rw [eli] at hl7 hnli
      have hmi := hmvi i hi'
      obtain ⟨nl, hnl⟩ : ∃ z, nextL ls N i = z := ⟨_, rfl⟩
      rw [hnl] at hnli hmi
      refine W_skip (kq8 _ _ ?_)
      refine W_seq fun kz10 kq10 => ?_
      refine W_block ?_
      refine W_seq fun kz11 kq11 => ?_
      refine W_seq fun kz12 kq12 => ?_
      refine W_draw [3, 4, 5, 7, 50] [0, 1, 2, 3, 4, 5, 6, 7, 8, 9, 10] [] [[], [], [0, 1], [0, 1, 2], [0, 1, 2, 3], [], [], [5, 6], [5, 6, 7], [5, 6, 7, 8], [0, 1, 2, 3, 4, 5, 6, 7, 8, 9]] mixed (by kernel_rfl) fun R hR => ?_   -- r8
      simp only [go_sem, llPV, hb0, hls, hmany, hb1, hli, hmi]
      try refine And.intro (by repeat' (first | refine And.intro ?_ ?_ | exact GOr_right (fun _ => by simp only [go_sem, llPV, hb0, hls, hmany, hb1, hli, hmi]))) ?_
      refine hR _ _ (kq12 _ _ ?_); clear hR R; try clear kq12 kz12
      try simp only [go_sem, llPV, hb0, hls, hmany, hb1, hli, hmi]
      refine W_cond rfl (fun c3 => ?_) (fun c3 => ?_)
      · -- c3 true
        try simp only [nrm] at c3
        refine W_seq fun kz13 kq13 => ?_
        refine W_region [2] fun R hR => ?_   -- r9
        simp only [go_sem, llPV, hb0, hls, hmany, hb1, hli, hmi]
        refine hR _ _ (kq13 _ _ ?_); clear hR R; try clear kq13 kz13
        try simp only [go_sem, llPV, hb0, hls, hmany, hb1, hli, hmi]
        refine W_ret ?_
        simp only [go_sem, llPV, hb0, hls, hmany, hb1, hli, hmi]
        refine ⟨.inr (by trivial), ?_⟩
        first | refine Fin_same hcl rfl (Wk_eq ?_ (by simp only [go_sem])) | refine Fin_self hcl rfl (Wk_eq ?_ (by simp only [go_sem]))
        try simp only [go_sem]
        all_goals
          first | rfl | (simp_all; done) | (simp_all; omega)
      · -- c3 false
        try simp only [nrm] at c3
        refine W_skip (kq11 _ _ ?_)
        refine W_seq fun kz14 kq14 => ?_
        refine W_region [3, 4, 5, 7, 8, 9] fun R hR => ?_   -- r10
        simp only [go_sem, llPV, hb0, hls, hmany, hb1, hli, hmi]
        refine hR _ _ (kq14 _ _ ?_); clear hR R; try clear kq14 kz14
        try simp only [go_sem, llPV, hb0, hls, hmany, hb1, hli, hmi]
        refine W_seq fun kz15 kq15 => ?_
        refine W_seq fun kz16 kq16 => ?_
        refine W_region [3, 4, 5, 7, 8, 9, 10] fun R hR => ?_   -- r11
        simp only [go_sem, llPV, hb0, hls, hmany, hb1, hli, hmi]
        refine hR _ _ (kq16 _ _ ?_); clear hR R; try clear kq16 kz16
        try simp only [go_sem, llPV, hb0, hls, hmany, hb1, hli, hmi]
        refine W_block ?_
        refine W_loopS (α := Nat × Nat × Nat) (fun ⟨k, u, v⟩ => [(8, I u), (9, I v), (10, I k)]) (fun ⟨k, u, v⟩ => k ≤ nl.length ∧ u = upC ls i (nl.take k) ∧ v = dnC ls i (nl.take k) ∧ u ≤ k ∧ v ≤ k) (fun ⟨k, u, v⟩ => nl.length - k) ((0, 0, 0)) rfl (⟨Nat.zero_le _, by simp [upC], by simp [dnC], Nat.le_refl _, Nat.le_refl _⟩) ?_
        rintro ⟨k, u, v⟩ ⟨hk, hu, hv, hu2, hv2⟩
        refine W_seq fun kz17 kq17 => ?_
        refine W_seq fun kz18 kq18 => ?_
        refine W_region [3, 4, 5, 7, 8, 9, 10, 57] fun R hR => ?_   -- r12
        simp only [go_sem, llPV, hb0, hls, hmany, hb1, hli, hmi]
        refine hR _ _ (kq18 _ _ ?_); clear hR R; try clear kq18 kz18
        try simp only [go_sem, llPV, hb0, hls, hmany, hb1, hli, hmi]
        refine W_cond rfl (fun c4 => ?_) (fun c4 => ?_)
        · -- c4 true
          try simp only [nrm] at c4
          have hk' : k < nl.length := by first | omega | (simp at c4; omega)
          obtain ⟨x, hx⟩ : ∃ z, nl[k]? = some z := ⟨nl[k], by simp⟩
          have hxm : x ∈ nextL ls N i := by rw [hnl]; exact List.mem_of_getElem? hx
          have hup := filt_take (isUp ls i) hx
          have hdn := filt_take (isDn ls i) hx
          have hnh := next_has hxm
          refine W_skip (kq17 _ _ ?_)
          refine W_seq fun kz19 kq19 => ?_
          refine W_block ?_
          refine W_seq fun kz20 kq20 => ?_
          refine W_region [3, 4, 5, 7, 8, 9, 10, 11] fun R hR => ?_   -- r14
          simp only [go_sem, llPV, hb0, hls, hmany, hb1, hli, hmi, hx]
          refine hR _ _ (kq20 _ _ ?_); clear hR R; try clear kq20 kz20
          try simp only [go_sem, llPV, hb0, hls, hmany, hb1, hli, hmi, hx]
          refine W_seq fun kz21 kq21 => ?_
          refine W_block ?_
          refine W_seq fun kz22 kq22 => ?_
          refine W_region [3, 4, 5, 7, 8, 9, 10, 11, 67] fun R hR => ?_   -- r16
          simp only [go_sem, llPV, hb0, hls, hmany, hb1, hli, hmi, hx]
          refine GCall_of (Has_pc Y _ li x .ro (by omega)) ?_   -- t73
          simp only [go_sem, llPV, hb0, hls, hmany, hb1, hli, hmi, hx]
          refine hR _ _ (kq22 _ _ ?_); clear hR R; try clear kq22 kz22
          try simp only [go_sem, llPV, hb0, hls, hmany, hb1, hli, hmi, hx]
          refine W_cond rfl (fun c5 => ?_) (fun c5 => ?_)
          · -- c5 true
            try simp only [nrm] at c5
            refine W_skip (kq21 _ _ ?_)
            refine W_seq fun kz23 kq23 => ?_
            refine W_region [3, 4, 5, 7, 8, 9, 10, 11, 12] fun R hR => ?_   -- r21
            simp only [go_sem, llPV, hb0, hls, hmany, hb1, hli, hmi, hx]
            refine hR _ _ (kq23 _ _ ?_); clear hR R; try clear kq23 kz23
            try simp only [go_sem, llPV, hb0, hls, hmany, hb1, hli, hmi, hx]
            refine W_block ?_
            refine W_loopS (α := Nat) (fun (j : Nat) => [(12, I j)]) (fun (j : Nat) => j ≤ i) (fun (j : Nat) => i - j) (0) rfl (Nat.zero_le _) ?_
            rintro j hj
            refine W_seq fun kz24 kq24 => ?_
            refine W_seq fun kz25 kq25 => ?_
            refine W_region [3, 4, 5, 7, 8, 9, 10, 11, 12, 107] fun R hR => ?_   -- r22
            simp only [go_sem, llPV, hb0, hls, hmany, hb1, hli, hmi, hx]
            refine hR _ _ (kq25 _ _ ?_); clear hR R; try clear kq25 kz25
            try simp only [go_sem, llPV, hb0, hls, hmany, hb1, hli, hmi, hx]
            refine W_cond rfl (fun c6 => ?_) (fun c6 => ?_)
            · -- c6 true
              try simp only [nrm] at c6
              have hj' : j < i := by first | omega | (simp at c6; omega)
              have hmj := hmvi j (by omega)
              have hjl := next_len lok hN (i := j) (by omega)
              have hj7 := (lgAt_li lok (i := j) (by omega)).2
              have hno : has (nextL ls N j) x = false := by
                cases hh : has (nextL ls N j) x with
                | false => rfl
                | true => exact (next_apart lok hN hj' hi' hxm (has_iff.1 hh)).elim
              refine W_skip (kq24 _ _ ?_)
              refine W_seq fun kz26 kq26 => ?_
              refine W_block ?_
              refine W_seq fun kz27 kq27 => ?_
              refine W_region [3, 4, 5, 7, 8, 9, 10, 11, 12, 115] fun R hR => ?_   -- r24
              simp only [go_sem, llPV, hb0, hls, hmany, hb1, hli, hmi, hx, hmj, hno]
              refine GCall_of (Has_pc Y _ (nextL ls N j) x .ro (by omega)) ?_   -- t115
              simp only [go_sem, llPV, hb0, hls, hmany, hb1, hli, hmi, hx, hmj, hno]
              refine hR _ _ (kq27 _ _ ?_); clear hR R; try clear kq27 kz27
              try simp only [go_sem, llPV, hb0, hls, hmany, hb1, hli, hmi, hx, hmj, hno]
              refine W_cond rfl (fun c7 => ?_) (fun c7 => ?_)
              · -- c7 true
                try simp only [nrm] at c7
                refine W_seq fun kz28 kq28 => ?_
                refine W_region [2] fun R hR => ?_   -- r25
                simp only [go_sem, llPV, hb0, hls, hmany, hb1, hli, hmi, hx, hmj, hno]
                refine hR _ _ (kq28 _ _ ?_); clear hR R; try clear kq28 kz28
                try simp only [go_sem, llPV, hb0, hls, hmany, hb1, hli, hmi, hx, hmj, hno]
                refine W_ret ?_
                simp only [go_sem, llPV, hb0, hls, hmany, hb1, hli, hmi, hx, hmj, hno]
                refine ⟨.inr (by trivial), ?_⟩
                first | refine Fin_same hcl rfl (Wk_eq ?_ (by simp only [go_sem])) | refine Fin_self hcl rfl (Wk_eq ?_ (by simp only [go_sem]))
                try simp only [go_sem]
                all_goals
                  first | rfl | (simp_all; done) | (simp_all; omega)
              · -- c7 false
                try simp only [nrm] at c7
                refine W_skip (kq26 _ _ ?_)
                refine W_region [3, 4, 5, 7, 8, 9, 10, 11, 12] fun R hR => ?_   -- r23
                simp only [go_sem, llPV, hb0, hls, hmany, hb1, hli, hmi, hx, hmj, hno]
                try simp (disch := omega) only [wrapI, wrapU]
                refine hR _ _ ?_; clear hR R
                try simp only [go_sem, llPV, hb0, hls, hmany, hb1, hli, hmi, hx, hmj, hno]
                refine ⟨j + 1, ?_, by (try simp only []); omega, ?_⟩
                · first | exact Weak.refl | exact Weak.eq (by first | rfl | (simp only [go_sem]; done) | (simp only [go_sem]; rfl) | (simp [go_sem]; done) | (simp [go_sem]; omega)) (by first | rfl | (simp only [go_sem]; done) | (simp [go_sem]; done))
                · try dsimp only
                  omega
            · -- c6 false
              try simp only [nrm] at c6
              skip
              refine W_exit ?_
              simp only [go_sem, llPV, hb0, hls, hmany, hb1, hli, hmi, hx]
              refine kq19 _ _ ?_
              refine W_region [3, 4, 5, 7, 8, 9, 10] fun R hR => ?_   -- r13
              simp only [go_sem, llPV, hb0, hls, hmany, hb1, hli, hmi, hx]
              try simp (disch := omega) only [wrapI, wrapU]
              refine hR _ _ ?_; clear hR R
              try simp only [go_sem, llPV, hb0, hls, hmany, hb1, hli, hmi, hx]
              refine ⟨(k + 1, u, v), ?_, by (try simp only []); omega, ?_⟩
              · first | exact Weak.refl | exact Weak.eq (by first | rfl | (simp only [go_sem]; done) | (simp only [go_sem]; rfl) | (simp [go_sem]; done) | (simp [go_sem]; omega)) (by first | rfl | (simp only [go_sem]; done) | (simp [go_sem]; done))
              · try dsimp only
                refine ⟨by omega, ?_, ?_, by omega, by omega⟩
                · simp only [upC] at hu ⊢
                  rw [hup, ← hu]; simp_all [isUp]
                · simp only [dnC] at hv ⊢
                  rw [hdn, ← hv]; simp_all [isDn]
          · -- c5 false
            try simp only [nrm] at c5
            refine W_seq fun kz29 kq29 => ?_
            refine W_region [3, 4, 5, 7, 8, 9, 10, 11, 74] fun R hR => ?_   -- r17
            simp only [go_sem, llPV, hb0, hls, hmany, hb1, hli, hmi, hx]
            refine GWant_split (fun g1 => ?_) (fun g1 => ?_)
            · try simp only [Bool.not_eq_true', Bool.not_eq_false'] at g1
              have n1 := g1; try simp only [nrm] at n1
              have hi0 : 0 < i := by first | omega | (simp at g1; omega)
              obtain ⟨ab, hab⟩ : ∃ z, ls[i - 1]? = some z := ⟨ls[i - 1]'(by omega), by simp⟩
              have eab : lgAt ls (i - 1) = ab := by simp [lgAt, hab]
              have hab7 := (lgAt_li lok (i := i - 1) (by omega)).2
              rw [eab] at hab7
              have hw1 : IntKind.i64.wrap ((i : Int) - 1) = ((i - 1 : Nat) : Int) := by rw [wrapI (by omega) (by omega)]; omega
              simp only [go_sem, llPV, hb0, hls, hmany, hb1, hli, hmi, hx, hab, hw1, g1]
              try simp (disch := omega) only [wrapI, wrapU]
              refine GCall_of (Has_pc Y _ ab x .ro (by omega)) ?_   -- t84
              simp only [go_sem, llPV, hb0, hls, hmany, hb1, hli, hmi, hx, hab, hw1, g1]
              try simp (disch := omega) only [wrapI, wrapU]
              refine hR _ _ (kq29 _ _ ?_); clear hR R; try clear kq29 kz29
              try simp only [go_sem, llPV, hb0, hls, hmany, hb1, hli, hmi, hx, hab, hw1]
              refine W_cond rfl (fun c8 => ?_) (fun c8 => ?_)
              · -- c8 true
                try simp only [nrm] at c8
                refine W_region [3, 4, 5, 7, 8, 9, 10, 11] fun R hR => ?_   -- r18
                simp only [go_sem, llPV, hb0, hls, hmany, hb1, hli, hmi, hx, hab, hw1]
                try simp (disch := omega) only [wrapI, wrapU]
                refine hR _ _ (kq21 _ _ ?_); clear hR R; try clear kq21 kz21
                try simp only [go_sem, llPV, hb0, hls, hmany, hb1, hli, hmi, hx, hab, hw1]
                refine W_seq fun kz30 kq30 => ?_
                refine W_region [3, 4, 5, 7, 8, 9, 10, 11, 12] fun R hR => ?_   -- r21
                simp only [go_sem, llPV, hb0, hls, hmany, hb1, hli, hmi, hx, hab, hw1]
                refine hR _ _ (kq30 _ _ ?_); clear hR R; try clear kq30 kz30
                try simp only [go_sem, llPV, hb0, hls, hmany, hb1, hli, hmi, hx, hab, hw1]
                refine W_block ?_
                refine W_loopS (α := Nat) (fun (j : Nat) => [(12, I j)]) (fun (j : Nat) => j ≤ i) (fun (j : Nat) => i - j) (0) rfl (Nat.zero_le _) ?_
                rintro j hj
                refine W_seq fun kz31 kq31 => ?_
                refine W_seq fun kz32 kq32 => ?_
                refine W_region [3, 4, 5, 7, 8, 9, 10, 11, 12, 107] fun R hR => ?_   -- r22
                simp only [go_sem, llPV, hb0, hls, hmany, hb1, hli, hmi, hx, hab, hw1]
                refine hR _ _ (kq32 _ _ ?_); clear hR R; try clear kq32 kz32
                try simp only [go_sem, llPV, hb0, hls, hmany, hb1, hli, hmi, hx, hab, hw1]
                refine W_cond rfl (fun c9 => ?_) (fun c9 => ?_)
                · -- c9 true
                  try simp only [nrm] at c9
                  have hj' : j < i := by first | omega | (simp at c9; omega)
                  have hmj := hmvi j (by omega)
                  have hjl := next_len lok hN (i := j) (by omega)
                  have hj7 := (lgAt_li lok (i := j) (by omega)).2
                  have hno : has (nextL ls N j) x = false := by
                    cases hh : has (nextL ls N j) x with
                    | false => rfl
                    | true => exact (next_apart lok hN hj' hi' hxm (has_iff.1 hh)).elim
                  refine W_skip (kq31 _ _ ?_)
                  refine W_seq fun kz33 kq33 => ?_
                  refine W_block ?_
                  refine W_seq fun kz34 kq34 => ?_
                  refine W_region [3, 4, 5, 7, 8, 9, 10, 11, 12, 115] fun R hR => ?_   -- r24
                  simp only [go_sem, llPV, hb0, hls, hmany, hb1, hli, hmi, hx, hab, hw1, hmj, hno]
                  refine GCall_of (Has_pc Y _ (nextL ls N j) x .ro (by omega)) ?_   -- t115
                  simp only [go_sem, llPV, hb0, hls, hmany, hb1, hli, hmi, hx, hab, hw1, hmj, hno]
                  refine hR _ _ (kq34 _ _ ?_); clear hR R; try clear kq34 kz34
                  try simp only [go_sem, llPV, hb0, hls, hmany, hb1, hli, hmi, hx, hab, hw1, hmj, hno]
                  refine W_cond rfl (fun c10 => ?_) (fun c10 => ?_)
                  · -- c10 true
                    try simp only [nrm] at c10
                    refine W_seq fun kz35 kq35 => ?_
                    refine W_region [2] fun R hR => ?_   -- r25
                    simp only [go_sem, llPV, hb0, hls, hmany, hb1, hli, hmi, hx, hab, hw1, hmj, hno]
                    refine hR _ _ (kq35 _ _ ?_); clear hR R; try clear kq35 kz35
                    try simp only [go_sem, llPV, hb0, hls, hmany, hb1, hli, hmi, hx, hab, hw1, hmj, hno]
                    refine W_ret ?_
                    simp only [go_sem, llPV, hb0, hls, hmany, hb1, hli, hmi, hx, hab, hw1, hmj, hno]
                    refine ⟨.inr (by trivial), ?_⟩
                    first | refine Fin_same hcl rfl (Wk_eq ?_ (by simp only [go_sem])) | refine Fin_self hcl rfl (Wk_eq ?_ (by simp only [go_sem]))
                    try simp only [go_sem]
                    all_goals
                      first | rfl | (simp_all; done) | (simp_all; omega)
                  · -- c10 false
                    try simp only [nrm] at c10
                    refine W_skip (kq33 _ _ ?_)
                    refine W_region [3, 4, 5, 7, 8, 9, 10, 11, 12] fun R hR => ?_   -- r23
                    simp only [go_sem, llPV, hb0, hls, hmany, hb1, hli, hmi, hx, hab, hw1, hmj, hno]
                    try simp (disch := omega) only [wrapI, wrapU]
                    refine hR _ _ ?_; clear hR R
                    try simp only [go_sem, llPV, hb0, hls, hmany, hb1, hli, hmi, hx, hab, hw1, hmj, hno]
                    refine ⟨j + 1, ?_, by (try simp only []); omega, ?_⟩
                    · first | exact Weak.refl | exact Weak.eq (by first | rfl | (simp only [go_sem]; done) | (simp only [go_sem]; rfl) | (simp [go_sem]; done) | (simp [go_sem]; omega)) (by first | rfl | (simp only [go_sem]; done) | (simp [go_sem]; done))
                    · try dsimp only
                      omega
                · -- c9 false
                  try simp only [nrm] at c9
                  skip
                  refine W_exit ?_
                  simp only [go_sem, llPV, hb0, hls, hmany, hb1, hli, hmi, hx, hab, hw1]
                  refine kq19 _ _ ?_
                  refine W_region [3, 4, 5, 7, 8, 9, 10] fun R hR => ?_   -- r13
                  simp only [go_sem, llPV, hb0, hls, hmany, hb1, hli, hmi, hx, hab, hw1]
                  try simp (disch := omega) only [wrapI, wrapU]
                  refine hR _ _ ?_; clear hR R
                  try simp only [go_sem, llPV, hb0, hls, hmany, hb1, hli, hmi, hx, hab, hw1]
                  refine ⟨(k + 1, u, v + 1), ?_, by (try simp only []); omega, ?_⟩
                  · first | exact Weak.refl | exact Weak.eq (by first | rfl | (simp only [go_sem]; done) | (simp only [go_sem]; rfl) | (simp [go_sem]; done) | (simp [go_sem]; omega)) (by first | rfl | (simp only [go_sem]; done) | (simp [go_sem]; done))
                  · try dsimp only
                    refine ⟨by omega, ?_, ?_, by omega, by omega⟩
                    · simp only [upC] at hu ⊢
                      rw [hup, ← hu]; simp_all [isUp]
                    · simp only [dnC] at hv ⊢
                      rw [hdn, ← hv]; simp_all [isDn]
              · -- c8 false
                try simp only [nrm] at c8
                refine W_seq fun kz36 kq36 => ?_
                refine W_region [3, 4, 5, 7, 8, 9, 10, 11, 88] fun R hR => ?_   -- r19
                simp only [go_sem, llPV, hb0, hls, hmany, hb1, hli, hmi, hx, hab, hw1]
                refine GWant_split (fun g2 => ?_) (fun g2 => ?_)
                · try simp only [Bool.not_eq_true', Bool.not_eq_false'] at g2
                  have n2 := g2; try simp only [nrm] at n2
                  try simp (disch := omega) only [wrapI, wrapU] at n2
                  have hi1 : i + 1 < ls.length := by first | omega | (simp at g2; omega)
                  obtain ⟨be, hbe⟩ : ∃ z, ls[i + 1]? = some z := ⟨ls[i + 1]'hi1, by simp⟩
                  have ebe : lgAt ls (i + 1) = be := by simp [lgAt, hbe]
                  have hbe7 := (lgAt_li lok hi1).2
                  rw [ebe] at hbe7
                  have hw4 : IntKind.i64.wrap ((i : Int) + 1) = ((i + 1 : Nat) : Int) := by rw [wrapI (by omega) (by omega)]; omega
                  simp only [go_sem, llPV, hb0, hls, hmany, hb1, hli, hmi, hx, hab, hw1, hbe, hw4, g2]
                  try simp (disch := omega) only [wrapI, wrapU]
                  refine GCall_of (Has_pc Y _ be x .ro (by omega)) ?_   -- t101
                  simp only [go_sem, llPV, hb0, hls, hmany, hb1, hli, hmi, hx, hab, hw1, hbe, hw4, g2]
                  try simp (disch := omega) only [wrapI, wrapU]
                  refine hR _ _ (kq36 _ _ ?_); clear hR R; try clear kq36 kz36
                  try simp only [go_sem, llPV, hb0, hls, hmany, hb1, hli, hmi, hx, hab, hw1, hbe, hw4]
                  refine W_cond rfl (fun c11 => ?_) (fun c11 => ?_)
                  · -- c11 true
                    try simp only [nrm] at c11
                    refine W_region [3, 4, 5, 7, 8, 9, 10, 11] fun R hR => ?_   -- r20
                    simp only [go_sem, llPV, hb0, hls, hmany, hb1, hli, hmi, hx, hab, hw1, hbe, hw4]
                    try simp (disch := omega) only [wrapI, wrapU]
                    refine hR _ _ (kq21 _ _ ?_); clear hR R; try clear kq21 kz21
                    try simp only [go_sem, llPV, hb0, hls, hmany, hb1, hli, hmi, hx, hab, hw1, hbe, hw4]
                    refine W_seq fun kz37 kq37 => ?_
                    refine W_region [3, 4, 5, 7, 8, 9, 10, 11, 12] fun R hR => ?_   -- r21
                    simp only [go_sem, llPV, hb0, hls, hmany, hb1, hli, hmi, hx, hab, hw1, hbe, hw4]
                    refine hR _ _ (kq37 _ _ ?_); clear hR R; try clear kq37 kz37
                    try simp only [go_sem, llPV, hb0, hls, hmany, hb1, hli, hmi, hx, hab, hw1, hbe, hw4]
                    refine W_block ?_
                    refine W_loopS (α := Nat) (fun (j : Nat) => [(12, I j)]) (fun (j : Nat) => j ≤ i) (fun (j : Nat) => i - j) (0) rfl (Nat.zero_le _) ?_
                    rintro j hj
                    refine W_seq fun kz38 kq38 => ?_
                    refine W_seq fun kz39 kq39 => ?_
                    refine W_region [3, 4, 5, 7, 8, 9, 10, 11, 12, 107] fun R hR => ?_   -- r22
                    simp only [go_sem, llPV, hb0, hls, hmany, hb1, hli, hmi, hx, hab, hw1, hbe, hw4]
                    refine hR _ _ (kq39 _ _ ?_); clear hR R; try clear kq39 kz39
                    try simp only [go_sem, llPV, hb0, hls, hmany, hb1, hli, hmi, hx, hab, hw1, hbe, hw4]
                    refine W_cond rfl (fun c12 => ?_) (fun c12 => ?_)
                    · -- c12 true
                      try simp only [nrm] at c12
                      have hj' : j < i := by first | omega | (simp at c12; omega)
                      have hmj := hmvi j (by omega)
                      have hjl := next_len lok hN (i := j) (by omega)
                      have hj7 := (lgAt_li lok (i := j) (by omega)).2
                      have hno : has (nextL ls N j) x = false := by
                        cases hh : has (nextL ls N j) x with
                        | false => rfl
                        | true => exact (next_apart lok hN hj' hi' hxm (has_iff.1 hh)).elim
                      refine W_skip (kq38 _ _ ?_)
                      refine W_seq fun kz40 kq40 => ?_
                      refine W_block ?_
                      refine W_seq fun kz41 kq41 => ?_
                      refine W_region [3, 4, 5, 7, 8, 9, 10, 11, 12, 115] fun R hR => ?_   -- r24
                      simp only [go_sem, llPV, hb0, hls, hmany, hb1, hli, hmi, hx, hab, hw1, hbe, hw4, hmj, hno]
                      refine GCall_of (Has_pc Y _ (nextL ls N j) x .ro (by omega)) ?_   -- t115
                      simp only [go_sem, llPV, hb0, hls, hmany, hb1, hli, hmi, hx, hab, hw1, hbe, hw4, hmj, hno]
                      refine hR _ _ (kq41 _ _ ?_); clear hR R; try clear kq41 kz41
                      try simp only [go_sem, llPV, hb0, hls, hmany, hb1, hli, hmi, hx, hab, hw1, hbe, hw4, hmj, hno]
                      refine W_cond rfl (fun c13 => ?_) (fun c13 => ?_)
                      · -- c13 true
                        try simp only [nrm] at c13
                        refine W_seq fun kz42 kq42 => ?_
                        refine W_region [2] fun R hR => ?_   -- r25
                        simp only [go_sem, llPV, hb0, hls, hmany, hb1, hli, hmi, hx, hab, hw1, hbe, hw4, hmj, hno]
                        refine hR _ _ (kq42 _ _ ?_); clear hR R; try clear kq42 kz42
                        try simp only [go_sem, llPV, hb0, hls, hmany, hb1, hli, hmi, hx, hab, hw1, hbe, hw4, hmj, hno]
                        refine W_ret ?_
                        simp only [go_sem, llPV, hb0, hls, hmany, hb1, hli, hmi, hx, hab, hw1, hbe, hw4, hmj, hno]
                        refine ⟨.inr (by trivial), ?_⟩
                        first | refine Fin_same hcl rfl (Wk_eq ?_ (by simp only [go_sem])) | refine Fin_self hcl rfl (Wk_eq ?_ (by simp only [go_sem]))
                        try simp only [go_sem]
                        all_goals
                          first | rfl | (simp_all; done) | (simp_all; omega)
                      · -- c13 false
                        try simp only [nrm] at c13
                        refine W_skip (kq40 _ _ ?_)
                        refine W_region [3, 4, 5, 7, 8, 9, 10, 11, 12] fun R hR => ?_   -- r23
                        simp only [go_sem, llPV, hb0, hls, hmany, hb1, hli, hmi, hx, hab, hw1, hbe, hw4, hmj, hno]
                        try simp (disch := omega) only [wrapI, wrapU]
                        refine hR _ _ ?_; clear hR R
                        try simp only [go_sem, llPV, hb0, hls, hmany, hb1, hli, hmi, hx, hab, hw1, hbe, hw4, hmj, hno]
                        refine ⟨j + 1, ?_, by (try simp only []); omega, ?_⟩
                        · first | exact Weak.refl | exact Weak.eq (by first | rfl | (simp only [go_sem]; done) | (simp only [go_sem]; rfl) | (simp [go_sem]; done) | (simp [go_sem]; omega)) (by first | rfl | (simp only [go_sem]; done) | (simp [go_sem]; done))
                        · try dsimp only
                          omega
                    · -- c12 false
                      try simp only [nrm] at c12
                      skip
                      refine W_exit ?_
                      simp only [go_sem, llPV, hb0, hls, hmany, hb1, hli, hmi, hx, hab, hw1, hbe, hw4]
                      refine kq19 _ _ ?_
                      refine W_region [3, 4, 5, 7, 8, 9, 10] fun R hR => ?_   -- r13
                      simp only [go_sem, llPV, hb0, hls, hmany, hb1, hli, hmi, hx, hab, hw1, hbe, hw4]
                      try simp (disch := omega) only [wrapI, wrapU]
                      refine hR _ _ ?_; clear hR R
                      try simp only [go_sem, llPV, hb0, hls, hmany, hb1, hli, hmi, hx, hab, hw1, hbe, hw4]
                      refine ⟨(k + 1, u + 1, v), ?_, by (try simp only []); omega, ?_⟩
                      · first | exact Weak.refl | exact Weak.eq (by first | rfl | (simp only [go_sem]; done) | (simp only [go_sem]; rfl) | (simp [go_sem]; done) | (simp [go_sem]; omega)) (by first | rfl | (simp only [go_sem]; done) | (simp [go_sem]; done))
                      · try dsimp only
                        refine ⟨by omega, ?_, ?_, by omega, by omega⟩
                        · simp only [upC] at hu ⊢
                          rw [hup, ← hu]; simp_all [isUp]
                        · simp only [dnC] at hv ⊢
                          rw [hdn, ← hv]; simp_all [isDn]
                  · -- c11 false
                    try simp only [nrm] at c11
                    refine W_seq fun kz43 kq43 => ?_
                    refine W_region [2] fun R hR => ?_   -- r15
                    simp only [go_sem, llPV, hb0, hls, hmany, hb1, hli, hmi, hx, hab, hw1, hbe, hw4]
                    refine hR _ _ (kq43 _ _ ?_); clear hR R; try clear kq43 kz43
                    try simp only [go_sem, llPV, hb0, hls, hmany, hb1, hli, hmi, hx, hab, hw1, hbe, hw4]
                    refine W_ret ?_
                    simp only [go_sem, llPV, hb0, hls, hmany, hb1, hli, hmi, hx, hab, hw1, hbe, hw4]
                    refine ⟨.inr (by trivial), ?_⟩
                    first | refine Fin_same hcl rfl (Wk_eq ?_ (by simp only [go_sem])) | refine Fin_self hcl rfl (Wk_eq ?_ (by simp only [go_sem]))
                    try simp only [go_sem]
                    all_goals
                      exfalso
                      rcases hnh with h | ⟨h, h2⟩ | ⟨h, h2⟩
                      · rw [eli] at h; simp_all
                      · first | omega | (rw [eab] at h2; simp_all)
                      · first | omega | (rw [ebe] at h2; simp_all)
                · try simp only [Bool.not_eq_true', Bool.not_eq_false'] at g2
                  have n2 := g2; try simp only [nrm] at n2
                  try simp (disch := omega) only [wrapI, wrapU] at n2
                  have hi1 : ¬ i + 1 < ls.length := by first | omega | (simp at g2; omega)
                  simp only [go_sem, llPV, hb0, hls, hmany, hb1, hli, hmi, hx, hab, hw1, g2]
                  try simp (disch := omega) only [wrapI, wrapU]
                  refine hR _ _ (kq36 _ _ ?_); clear hR R; try clear kq36 kz36
                  try simp only [go_sem, llPV, hb0, hls, hmany, hb1, hli, hmi, hx, hab, hw1]
                  refine W_cond_false rfl ?_
                  refine W_seq fun kz44 kq44 => ?_
                  refine W_region [2] fun R hR => ?_   -- r15
                  simp only [go_sem, llPV, hb0, hls, hmany, hb1, hli, hmi, hx, hab, hw1]
                  refine hR _ _ (kq44 _ _ ?_); clear hR R; try clear kq44 kz44
                  try simp only [go_sem, llPV, hb0, hls, hmany, hb1, hli, hmi, hx, hab, hw1]
                  refine W_ret ?_
                  simp only [go_sem, llPV, hb0, hls, hmany, hb1, hli, hmi, hx, hab, hw1]
                  refine ⟨.inr (by trivial), ?_⟩
                  first | refine Fin_same hcl rfl (Wk_eq ?_ (by simp only [go_sem])) | refine Fin_self hcl rfl (Wk_eq ?_ (by simp only [go_sem]))
                  try simp only [go_sem]
                  all_goals
                    exfalso
                    rcases hnh with h | ⟨h, h2⟩ | ⟨h, h2⟩
                    · rw [eli] at h; simp_all
                    · first | omega | (rw [eab] at h2; simp_all)
                    · first | omega | (rw [ebe] at h2; simp_all)
            · try simp only [Bool.not_eq_true', Bool.not_eq_false'] at g1
              have n1 := g1; try simp only [nrm] at n1
              have hi0 : ¬ 0 < i := by first | omega | (simp at g1; omega)
              simp only [go_sem, llPV, hb0, hls, hmany, hb1, hli, hmi, hx, g1]
              try simp (disch := omega) only [wrapI, wrapU]
              refine hR _ _ (kq29 _ _ ?_); clear hR R; try clear kq29 kz29
              try simp only [go_sem, llPV, hb0, hls, hmany, hb1, hli, hmi, hx]
              refine W_cond_false rfl ?_
              refine W_seq fun kz45 kq45 => ?_
              refine W_region [3, 4, 5, 7, 8, 9, 10, 11, 88] fun R hR => ?_   -- r19
              simp only [go_sem, llPV, hb0, hls, hmany, hb1, hli, hmi, hx]
              refine GWant_split (fun g3 => ?_) (fun g3 => ?_)
              · try simp only [Bool.not_eq_true', Bool.not_eq_false'] at g3
                have n3 := g3; try simp only [nrm] at n3
                try simp (disch := omega) only [wrapI, wrapU] at n3
                have hi1 : i + 1 < ls.length := by first | omega | (simp at g3; omega)
                obtain ⟨be, hbe⟩ : ∃ z, ls[i + 1]? = some z := ⟨ls[i + 1]'hi1, by simp⟩
                have ebe : lgAt ls (i + 1) = be := by simp [lgAt, hbe]
                have hbe7 := (lgAt_li lok hi1).2
                rw [ebe] at hbe7
                have hw4 : IntKind.i64.wrap ((i : Int) + 1) = ((i + 1 : Nat) : Int) := by rw [wrapI (by omega) (by omega)]; omega
                simp only [go_sem, llPV, hb0, hls, hmany, hb1, hli, hmi, hx, hbe, hw4, g3]
                try simp (disch := omega) only [wrapI, wrapU]
                refine GCall_of (Has_pc Y _ be x .ro (by omega)) ?_   -- t101
                simp only [go_sem, llPV, hb0, hls, hmany, hb1, hli, hmi, hx, hbe, hw4, g3]
                try simp (disch := omega) only [wrapI, wrapU]
                refine hR _ _ (kq45 _ _ ?_); clear hR R; try clear kq45 kz45
                try simp only [go_sem, llPV, hb0, hls, hmany, hb1, hli, hmi, hx, hbe, hw4]
                refine W_cond rfl (fun c14 => ?_) (fun c14 => ?_)
                · -- c14 true
                  try simp only [nrm] at c14
                  refine W_region [3, 4, 5, 7, 8, 9, 10, 11] fun R hR => ?_   -- r20
                  simp only [go_sem, llPV, hb0, hls, hmany, hb1, hli, hmi, hx, hbe, hw4]
                  try simp (disch := omega) only [wrapI, wrapU]
                  refine hR _ _ (kq21 _ _ ?_); clear hR R; try clear kq21 kz21
                  try simp only [go_sem, llPV, hb0, hls, hmany, hb1, hli, hmi, hx, hbe, hw4]
                  refine W_seq fun kz46 kq46 => ?_
                  refine W_region [3, 4, 5, 7, 8, 9, 10, 11, 12] fun R hR => ?_   -- r21
                  simp only [go_sem, llPV, hb0, hls, hmany, hb1, hli, hmi, hx, hbe, hw4]
                  refine hR _ _ (kq46 _ _ ?_); clear hR R; try clear kq46 kz46
                  try simp only [go_sem, llPV, hb0, hls, hmany, hb1, hli, hmi, hx, hbe, hw4]
                  refine W_block ?_
                  refine W_loopS (α := Nat) (fun (j : Nat) => [(12, I j)]) (fun (j : Nat) => j ≤ i) (fun (j : Nat) => i - j) (0) rfl (Nat.zero_le _) ?_
                  rintro j hj
                  refine W_seq fun kz47 kq47 => ?_
                  refine W_seq fun kz48 kq48 => ?_
                  refine W_region [3, 4, 5, 7, 8, 9, 10, 11, 12, 107] fun R hR => ?_   -- r22
                  simp only [go_sem, llPV, hb0, hls, hmany, hb1, hli, hmi, hx, hbe, hw4]
                  refine hR _ _ (kq48 _ _ ?_); clear hR R; try clear kq48 kz48
                  try simp only [go_sem, llPV, hb0, hls, hmany, hb1, hli, hmi, hx, hbe, hw4]
                  refine W_cond rfl (fun c15 => ?_) (fun c15 => ?_)
                  · -- c15 true
                    try simp only [nrm] at c15
                    have hj' : j < i := by first | omega | (simp at c15; omega)
                    have hmj := hmvi j (by omega)
                    have hjl := next_len lok hN (i := j) (by omega)
                    have hj7 := (lgAt_li lok (i := j) (by omega)).2
                    have hno : has (nextL ls N j) x = false := by
                      cases hh : has (nextL ls N j) x with
                      | false => rfl
                      | true => exact (next_apart lok hN hj' hi' hxm (has_iff.1 hh)).elim
                    refine W_skip (kq47 _ _ ?_)
                    refine W_seq fun kz49 kq49 => ?_
                    refine W_block ?_
                    refine W_seq fun kz50 kq50 => ?_
                    refine W_region [3, 4, 5, 7, 8, 9, 10, 11, 12, 115] fun R hR => ?_   -- r24
                    simp only [go_sem, llPV, hb0, hls, hmany, hb1, hli, hmi, hx, hbe, hw4, hmj, hno]
                    refine GCall_of (Has_pc Y _ (nextL ls N j) x .ro (by omega)) ?_   -- t115
                    simp only [go_sem, llPV, hb0, hls, hmany, hb1, hli, hmi, hx, hbe, hw4, hmj, hno]
                    refine hR _ _ (kq50 _ _ ?_); clear hR R; try clear kq50 kz50
                    try simp only [go_sem, llPV, hb0, hls, hmany, hb1, hli, hmi, hx, hbe, hw4, hmj, hno]
                    refine W_cond rfl (fun c16 => ?_) (fun c16 => ?_)
                    · -- c16 true
                      try simp only [nrm] at c16
                      refine W_seq fun kz51 kq51 => ?_
                      refine W_region [2] fun R hR => ?_   -- r25
                      simp only [go_sem, llPV, hb0, hls, hmany, hb1, hli, hmi, hx, hbe, hw4, hmj, hno]
                      refine hR _ _ (kq51 _ _ ?_); clear hR R; try clear kq51 kz51
                      try simp only [go_sem, llPV, hb0, hls, hmany, hb1, hli, hmi, hx, hbe, hw4, hmj, hno]
                      refine W_ret ?_
                      simp only [go_sem, llPV, hb0, hls, hmany, hb1, hli, hmi, hx, hbe, hw4, hmj, hno]
                      refine ⟨.inr (by trivial), ?_⟩
                      first | refine Fin_same hcl rfl (Wk_eq ?_ (by simp only [go_sem])) | refine Fin_self hcl rfl (Wk_eq ?_ (by simp only [go_sem]))
                      try simp only [go_sem]
                      all_goals
                        first | rfl | (simp_all; done) | (simp_all; omega)
                    · -- c16 false
                      try simp only [nrm] at c16
                      refine W_skip (kq49 _ _ ?_)
                      refine W_region [3, 4, 5, 7, 8, 9, 10, 11, 12] fun R hR => ?_   -- r23
                      simp only [go_sem, llPV, hb0, hls, hmany, hb1, hli, hmi, hx, hbe, hw4, hmj, hno]
                      try simp (disch := omega) only [wrapI, wrapU]
                      refine hR _ _ ?_; clear hR R
                      try simp only [go_sem, llPV, hb0, hls, hmany, hb1, hli, hmi, hx, hbe, hw4, hmj, hno]
                      refine ⟨j + 1, ?_, by (try simp only []); omega, ?_⟩
                      · first | exact Weak.refl | exact Weak.eq (by first | rfl | (simp only [go_sem]; done) | (simp only [go_sem]; rfl) | (simp [go_sem]; done) | (simp [go_sem]; omega)) (by first | rfl | (simp only [go_sem]; done) | (simp [go_sem]; done))
                      · try dsimp only
                        omega
                  · -- c15 false
                    try simp only [nrm] at c15
                    skip
                    refine W_exit ?_
                    simp only [go_sem, llPV, hb0, hls, hmany, hb1, hli, hmi, hx, hbe, hw4]
                    refine kq19 _ _ ?_
                    refine W_region [3, 4, 5, 7, 8, 9, 10] fun R hR => ?_   -- r13
                    simp only [go_sem, llPV, hb0, hls, hmany, hb1, hli, hmi, hx, hbe, hw4]
                    try simp (disch := omega) only [wrapI, wrapU]
                    refine hR _ _ ?_; clear hR R
                    try simp only [go_sem, llPV, hb0, hls, hmany, hb1, hli, hmi, hx, hbe, hw4]
                    refine ⟨(k + 1, u + 1, v), ?_, by (try simp only []); omega, ?_⟩
                    · first | exact Weak.refl | exact Weak.eq (by first | rfl | (simp only [go_sem]; done) | (simp only [go_sem]; rfl) | (simp [go_sem]; done) | (simp [go_sem]; omega)) (by first | rfl | (simp only [go_sem]; done) | (simp [go_sem]; done))
                    · try dsimp only
                      refine ⟨by omega, ?_, ?_, by omega, by omega⟩
                      · simp only [upC] at hu ⊢
                        rw [hup, ← hu]; simp_all [isUp]
                      · simp only [dnC] at hv ⊢
                        rw [hdn, ← hv]; simp_all [isDn]
                · -- c14 false
                  try simp only [nrm] at c14
                  refine W_seq fun kz52 kq52 => ?_
                  refine W_region [2] fun R hR => ?_   -- r15
                  simp only [go_sem, llPV, hb0, hls, hmany, hb1, hli, hmi, hx, hbe, hw4]
                  refine hR _ _ (kq52 _ _ ?_); clear hR R; try clear kq52 kz52
                  try simp only [go_sem, llPV, hb0, hls, hmany, hb1, hli, hmi, hx, hbe, hw4]
                  refine W_ret ?_
                  simp only [go_sem, llPV, hb0, hls, hmany, hb1, hli, hmi, hx, hbe, hw4]
                  refine ⟨.inr (by trivial), ?_⟩
                  first | refine Fin_same hcl rfl (Wk_eq ?_ (by simp only [go_sem])) | refine Fin_self hcl rfl (Wk_eq ?_ (by simp only [go_sem]))
                  try simp only [go_sem]
                  all_goals
                    exfalso
                    rcases hnh with h | ⟨h, h2⟩ | ⟨h, h2⟩
                    · rw [eli] at h; simp_all
                    · first | omega | (rw [eab] at h2; simp_all)
                    · first | omega | (rw [ebe] at h2; simp_all)
              · try simp only [Bool.not_eq_true', Bool.not_eq_false'] at g3
                have n3 := g3; try simp only [nrm] at n3
                try simp (disch := omega) only [wrapI, wrapU] at n3
                have hi1 : ¬ i + 1 < ls.length := by first | omega | (simp at g3; omega)
                simp only [go_sem, llPV, hb0, hls, hmany, hb1, hli, hmi, hx, g3]
                try simp (disch := omega) only [wrapI, wrapU]
                refine hR _ _ (kq45 _ _ ?_); clear hR R; try clear kq45 kz45
                try simp only [go_sem, llPV, hb0, hls, hmany, hb1, hli, hmi, hx]
                refine W_cond_false rfl ?_
                refine W_seq fun kz53 kq53 => ?_
                refine W_region [2] fun R hR => ?_   -- r15
                simp only [go_sem, llPV, hb0, hls, hmany, hb1, hli, hmi, hx]
                refine hR _ _ (kq53 _ _ ?_); clear hR R; try clear kq53 kz53
                try simp only [go_sem, llPV, hb0, hls, hmany, hb1, hli, hmi, hx]
                refine W_ret ?_
                simp only [go_sem, llPV, hb0, hls, hmany, hb1, hli, hmi, hx]
                refine ⟨.inr (by trivial), ?_⟩
                first | refine Fin_same hcl rfl (Wk_eq ?_ (by simp only [go_sem])) | refine Fin_self hcl rfl (Wk_eq ?_ (by simp only [go_sem]))
                try simp only [go_sem]
                all_goals
                  exfalso
                  rcases hnh with h | ⟨h, h2⟩ | ⟨h, h2⟩
                  · rw [eli] at h; simp_all
                  · first | omega | (rw [eab] at h2; simp_all)
                  · first | omega | (rw [ebe] at h2; simp_all)
        · -- c4 false
          try simp only [nrm] at c4
          have hke : k = nl.length := by first | omega | (simp at c4; omega)
          have hua : i + 1 < ls.length → u = N := fun h => by rw [hu, hke, List.take_length, ← hnl]; exact up_all lok hN h
          have hva : 0 < i → v = N := fun h => by rw [hv, hke, List.take_length, ← hnl]; exact dn_all lok hN hi' h
          clear hu hv
          refine W_exit ?_
          simp only [go_sem, llPV, hb0, hls, hmany, hb1, hli, hmi]
          refine kq15 _ _ ?_
          refine W_seq fun kz54 kq54 => ?_
          refine W_regionJ [3, 4, 5, 7, 134] [(134, .bool false)] ?_ fun R hR => ?_   -- r26
          · refine kq54 _ _ ?_
            simp only [go_sem, llPV, hb0, hls, hmany, hb1, hli, hmi]
            refine W_cond rfl (fun c17 => ?_) (fun c17 => ?_)
            · -- c17 true
              try simp only [nrm] at c17
              refine W_seq fun kz55 kq55 => ?_
              refine W_region [2] fun R hR => ?_   -- r27
              simp only [go_sem, llPV, hb0, hls, hmany, hb1, hli, hmi]
              refine hR _ _ (kq55 _ _ ?_); clear hR R; try clear kq55 kz55
              try simp only [go_sem, llPV, hb0, hls, hmany, hb1, hli, hmi]
              refine W_ret ?_
              simp only [go_sem, llPV, hb0, hls, hmany, hb1, hli, hmi]
              refine ⟨.inr (by trivial), ?_⟩
              first | refine Fin_same hcl rfl (Wk_eq ?_ (by simp only [go_sem])) | refine Fin_self hcl rfl (Wk_eq ?_ (by simp only [go_sem]))
              try simp only [go_sem]
              all_goals
                first | rfl | (simp_all; done) | (simp_all; omega)
            · -- c17 false
              try simp only [nrm] at c17
              refine W_skip (kq10 _ _ ?_)
              refine W_region [3, 4, 5, 7] fun R hR => ?_   -- r7
              simp only [go_sem, llPV, hb0, hls, hmany, hb1, hli, hmi]
              try simp (disch := omega) only [wrapI, wrapU]
              refine hR _ _ ?_; clear hR R
              try simp only [go_sem, llPV, hb0, hls, hmany, hb1, hli, hmi]
              refine ⟨i + 1, ?_, by (try simp only []); omega, ?_⟩
              · first | exact Weak.refl | exact Weak.eq (by first | rfl | (simp only [go_sem]; done) | (simp only [go_sem]; rfl) | (simp [go_sem]; done) | (simp [go_sem]; omega)) (by first | rfl | (simp only [go_sem]; done) | (simp [go_sem]; done))
              · try dsimp only
                omega
          · simp only [go_sem, llPV, hb0, hls, hmany, hb1, hli, hmi]
            refine GWant_split (fun g4 => ?_) (fun g4 => ?_)
            · try simp only [Bool.not_eq_true', Bool.not_eq_false'] at g4
              have n4 := g4; try simp only [nrm] at n4
              simp only [go_sem, llPV, hb0, hls, hmany, hb1, hli, hmi, g4]
              refine GWant_split (fun g5 => ?_) (fun g5 => ?_)
              · try simp only [Bool.not_eq_true', Bool.not_eq_false'] at g5
                have n5 := g5; try simp only [nrm] at n5
                simp only [go_sem, llPV, hb0, hls, hmany, hb1, hli, hmi, g4, g5]
                refine GWant_split (fun g6 => ?_) (fun g6 => ?_)
                · try simp only [Bool.not_eq_true', Bool.not_eq_false'] at g6
                  have n6 := g6; try simp only [nrm] at n6
                  try simp (disch := omega) only [wrapI, wrapU] at n6
                  simp only [go_sem, llPV, hb0, hls, hmany, hb1, hli, hmi, g4, g5, g6]
                  try simp (disch := omega) only [wrapI, wrapU]
                  refine hR _ ?_
                  all_goals try simp only [go_sem, llPV, hb0, hls, hmany, hb1, hli, hmi]
                  all_goals
                    first | rfl | (simp_all; done) | (simp_all; omega)
                · try simp only [Bool.not_eq_true', Bool.not_eq_false'] at g6
                  have n6 := g6; try simp only [nrm] at n6
                  try simp (disch := omega) only [wrapI, wrapU] at n6
                  simp only [go_sem, llPV, hb0, hls, hmany, hb1, hli, hmi, g4, g5, g6]
                  try simp (disch := omega) only [wrapI, wrapU]
                  refine hR _ ?_
                  all_goals try simp only [go_sem, llPV, hb0, hls, hmany, hb1, hli, hmi]
                  all_goals
                    first | rfl | (simp_all; done) | (simp_all; omega)
              · try simp only [Bool.not_eq_true', Bool.not_eq_false'] at g5
                have n5 := g5; try simp only [nrm] at n5
                simp only [go_sem, llPV, hb0, hls, hmany, hb1, hli, hmi, g4, g5]
                try simp (disch := omega) only [wrapI, wrapU]
                refine hR _ ?_
                all_goals try simp only [go_sem, llPV, hb0, hls, hmany, hb1, hli, hmi]
                all_goals
                  first | rfl | (simp_all; done) | (simp_all; omega)
            · try simp only [Bool.not_eq_true', Bool.not_eq_false'] at g4
              have n4 := g4; try simp only [nrm] at n4
              simp only [go_sem, llPV, hb0, hls, hmany, hb1, hli, hmi, g4]
              refine GWant_split (fun g7 => ?_) (fun g7 => ?_)
              · try simp only [Bool.not_eq_true', Bool.not_eq_false'] at g7
                have n7 := g7; try simp only [nrm] at n7
                try simp (disch := omega) only [wrapI, wrapU] at n7
                simp only [go_sem, llPV, hb0, hls, hmany, hb1, hli, hmi, g4, g7]
                try simp (disch := omega) only [wrapI, wrapU]
                refine hR _ ?_
                all_goals try simp only [go_sem, llPV, hb0, hls, hmany, hb1, hli, hmi]
                all_goals
                  first | rfl | (simp_all; done) | (simp_all; omega)
              · try simp only [Bool.not_eq_true', Bool.not_eq_false'] at g7
                have n7 := g7; try simp only [nrm] at n7
                try simp (disch := omega) only [wrapI, wrapU] at n7
                simp only [go_sem, llPV, hb0, hls, hmany, hb1, hli, hmi, g4, g7]
                try simp (disch := omega) only [wrapI, wrapU]
                refine hR _ ?_
                all_goals try simp only [go_sem, llPV, hb0, hls, hmany, hb1, hli, hmi]
                all_goals
                  first | rfl | (simp_all; done) | (simp_all; omega)
    · -- c2 false
      try simp only [nrm] at c2
      skip
      refine W_exit ?_
      simp only [go_sem, llPV, hb0, hls, hmany, hb1]
      refine kq6 _ _ ?_
      refine W_seq fun kz56 kq56 => ?_
      refine W_region [2] fun R hR => ?_   -- r28
      simp only [go_sem, llPV, hb0, hls, hmany, hb1]
      refine GCall_of (awake_pc Y _) ?_   -- t135
      simp only [go_sem, llPV, hb0, hls, hmany, hb1]
      refine hR _ _ (kq56 _ _ ?_); clear hR R; try clear kq56 kz56
      try simp only [go_sem, llPV, hb0, hls, hmany, hb1]
      refine W_ret ?_
      simp only [go_sem, llPV, hb0, hls, hmany, hb1]
      refine ⟨.inr (by trivial), ?_⟩
      first | refine Fin_same hcl rfl (Wk_eq ?_ (by simp only [go_sem])) | refine Fin_self hcl rfl (Wk_eq ?_ (by simp only [go_sem]))
      try simp only [go_sem]
      all_goals
        first | rfl | (simp_all; done) | (simp_all; omega)
end Go.Proofs.Ytgelnjmddabgpaa
