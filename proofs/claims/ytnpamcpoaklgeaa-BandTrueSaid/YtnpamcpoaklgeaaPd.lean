/-
  Walks: cities, squares, bands that may be (band).
  Walks: the times of bands, lists of bands (band).
  Walks: visits of bands, whether they cross (band).
  Facts of this seat's types for slices that grow in place.
  Walks: where a band may be (band.Where): its parts.
  Walks: verdicts, the sleep of squares (band).
  Conversions at this seat's types; shifts; pointers that are not nil.
  Facts of this seat's types for maps and made slices.
  A slice of numbers that grows in place in a variable's cell, is sorted, compacted, and read at last.
  Walk: where a band may be (band.Where).
  Walks: the loud minutes, the sleep of a square (band).
  Walks: the sleep of a square (band); comparisons of lists (bateriakit).
  Walks: the reference's towns, cities, squares (bateriaref06, bateriaref07).
  Walks: the reference's cities, bands, verdicts, sleep (bateriaref07).
  Walks: whether bands meet, verdicts (bateriaref07).
  Bands that meet are bands that cross; walks: verdicts, sleep (bateriaref07).
  Plain law: verdicts on crossings: sure, never, both ways round, with narrower starts.
  Walks: who is heard, the sleep of a square (bateriaref07).
  Walks: copies and comparisons of towns, cities, bands (bateriakit), what the laws pass over.
  Walks: towns and cities copied and compared (bateriakit).
  Walks: what is equal is found equal (bateriakit).
  Numbers that follow from numbers (bateriakit): the drum.
  Walks: drums made of numbers, spans (bateriakit).
-/
import Derived.Test.YtnpamcpoaklgeaaPc
import Derived.CallsIn
import Derived.RangeFuncLeaves
import Derived.RangeFuncRecord
import Derived.OrdersIn
import Derived.Below
import Derived.Laws.World
import Derived.Laws.StructEq
import Derived.Laws.Append
import Derived.MapKept
import Derived.ProofKit
import Derived.Carry
import Derived.Handed
import Derived.ChangeCalls
import Derived.RangeFuncIn
import Derived.RangeFuncNested
import Derived.Test.YtnpamcpoaklgeaaProg
import Derived.KernelRfl
import Derived.IntWalk
import Derived.Test.YtnpamcpoaklgeaaRows
import Derived.Sort.OwnSortedInts
import Derived.Lib.SlicesCompact
import Derived.Shelf.Sort.Plain
import Derived.Shelf.Slices.In.SortNone
import Derived.Shelf.Slices.CompactI
import Derived.JoinedOf
set_option linter.unusedSimpArgs false
set_option linter.unusedVariables false
namespace Go.Proofs.Ytnpamcpoaklgeaa
open Go Go.RowKit
set_option maxRecDepth 100000
def fIdx (q : Int → Bool) : Nat → List Int → Int
  | _, [] => -1
  | i, x :: r => if q x then i else fIdx q (i + 1) r
theorem fIdx_any (q : Int → Bool) : ∀ (l : List Int) (i : Nat), decide (0 ≤ fIdx q i l) = l.any q := by
  intro l
  induction l with
  | nil => intro i; rfl
  | cons x l ih =>
    intro i
    simp only [fIdx, List.any_cons]
    by_cases h : q x = true
    · simp [h]
    · simp only [Bool.not_eq_true] at h
      simp [h, ih]
def chkCity (c : City) : Int :=
  if chkTown c.town ≠ 0 then chkTown c.town else if !(inR c.brk 0 120) then 2 else if c.sleep.length ≠ c.town.rooms.length then 1 else if c.sleep.any (fun n => !(inR n 0 720)) then 2 else 0
structure City.Ok (c : City) : Prop where
  hr : c.town.rooms.length < 2 ^ 50
  hs : c.town.streets.length < 2 ^ 50
  hg : c.town.groups.length < 2 ^ 50
  hp : ∀ g, g ∈ c.town.groups → g.path.length < 2 ^ 50
  hsl : c.sleep.length < 2 ^ 50
set_option maxHeartbeats 2000000 in
theorem check1_pc (Y : YEnv) (σ : Sg) (n : Int) :
    PC Try.prog Y 97 [I n] σ (.bool (!(inR n 0 720))) (σ) := by
  refine PC_of_W Try.func97 rfl (by kernel_rfl) Try.ntmps97 (by simp) fun hcl hca => ?_
  refine W_seq fun kz1 kq1 => ?_
  refine W_region [0] fun R hR => ?_   -- r0
  simp only [go_sem]
  refine hR _ _ (kq1 _ _ ?_); clear hR R; try clear kq1 kz1
  try simp only [go_sem]
  refine W_seq fun kz2 kq2 => ?_
  refine W_region [2] fun R hR => ?_   -- r1
  simp only [go_sem]
  refine GCall_of (in_pc Y _ n 0 720) ?_   -- t4
  simp only [go_sem]
  refine hR _ _ (kq2 _ _ ?_); clear hR R; try clear kq2 kz2
  try simp only [go_sem]
  refine W_ret ?_
  simp only [go_sem]
  refine ⟨.inr (by trivial), ?_⟩
  first | refine Fin_same hcl rfl (Wk_eq ?_ (by simp only [go_sem])) | refine Fin_self hcl rfl (Wk_eq ?_ (by simp only [go_sem]))
  try simp only [go_sem]
  all_goals
    first | rfl | (simp_all; done) | (simp_all; omega)
set_option maxHeartbeats 2000000 in
theorem index_pc (Y : YEnv) (σ : Sg) (l : List Int) (o : Own) (hl : l.length < 2 ^ 62) (g : FuncId) (q : Int → Bool) (hq : ∀ (σ : Sg) (x : Int), PC Try.prog Y g [I x] σ (.bool (q x)) σ) :
    PC Try.prog Y 129 [intsO o l, .func (.func g) [] []] σ (I (fIdx q 0 l)) (σ) := by
  refine PC_of_W Try.func129 rfl (by kernel_rfl) Try.ntmps129 (by simp) fun hcl hca => ?_
  refine W_seq fun kz1 kq1 => ?_
  refine W_region [0, 1] fun R hR => ?_   -- r0
  simp only [go_sem]
  refine hR _ _ (kq1 _ _ ?_); clear hR R; try clear kq1 kz1
  try simp only [go_sem]
  refine W_seq fun kz2 kq2 => ?_
  refine W_seq fun kz3 kq3 => ?_
  refine W_region [0, 1, 7, 8] fun R hR => ?_   -- r1
  simp only [go_sem]
  refine hR _ _ (kq3 _ _ ?_); clear hR R; try clear kq3 kz3
  try simp only [go_sem]
  refine W_block ?_
  refine W_loopS (α := Nat) (fun (i : Nat) => [(8, I i)]) (fun (i : Nat) => i ≤ l.length ∧ fIdx q i (l.drop i) = fIdx q 0 l) (fun (i : Nat) => l.length - i) (0) rfl (by simp) ?_
  rintro i ⟨hi, hinv⟩
  refine W_seq fun kz4 kq4 => ?_
  refine W_region [0, 1, 7, 8, 9] fun R hR => ?_   -- r2
  simp only [go_sem]
  refine hR _ _ (kq4 _ _ ?_); clear hR R; try clear kq4 kz4
  try simp only [go_sem]
  refine W_seq fun kz5 kq5 => ?_
  refine W_cond rfl (fun c1 => ?_) (fun c1 => ?_)
  · -- c1 true
    try simp only [nrm] at c1
    have hi' : i < l.length := by first | assumption | omega
    obtain ⟨x, hx⟩ : ∃ x, l[i]? = some x := ⟨l[i], by simp [hi']⟩
    have hdrop : l.drop i = x :: l.drop (i + 1) := by
      rw [List.drop_eq_getElem_cons hi']; congr 1; exact (List.getElem?_eq_some_iff.1 hx).2
    rw [hdrop] at hinv
    simp only [fIdx] at hinv
    refine W_skip (kq5 _ _ ?_)
    refine W_seq fun kz6 kq6 => ?_
    refine W_block ?_
    refine W_seq fun kz7 kq7 => ?_
    refine W_region [0, 1, 5, 7, 8] fun R hR => ?_   -- r3
    simp only [go_sem, hx]
    refine hR _ _ (kq7 _ _ ?_); clear hR R; try clear kq7 kz7
    try simp only [go_sem, hx]
    refine W_seq fun kz8 kq8 => ?_
    refine W_region [0, 1, 5, 7, 8, 16] fun R hR => ?_   -- r4
    simp only [go_sem, hx]
    refine GCall_of (hq _ x) ?_   -- t16
    simp only [go_sem, hx]
    refine hR _ _ (kq8 _ _ ?_); clear hR R; try clear kq8 kz8
    try simp only [go_sem, hx]
    refine W_cond rfl (fun c2 => ?_) (fun c2 => ?_)
    · -- c2 true
      try simp only [nrm] at c2
      refine W_seq fun kz9 kq9 => ?_
      refine W_region [4] fun R hR => ?_   -- r5
      simp only [go_sem, hx]
      refine hR _ _ (kq9 _ _ ?_); clear hR R; try clear kq9 kz9
      try simp only [go_sem, hx]
      refine W_ret ?_
      simp only [go_sem, hx]
      refine ⟨.inr (by trivial), ?_⟩
      first | refine Fin_same hcl rfl (Wk_eq ?_ (by simp only [go_sem])) | refine Fin_self hcl rfl (Wk_eq ?_ (by simp only [go_sem]))
      try simp only [go_sem]
      all_goals
        first | rfl | (simp_all; done) | (simp_all; omega)
    · -- c2 false
      try simp only [nrm] at c2
      refine W_skip (kq6 _ _ ?_)
      refine W_region [0, 1, 7, 8] fun R hR => ?_   -- r6
      simp only [go_sem, hx]
      try simp (disch := omega) only [wrapI]
      refine hR _ _ ?_; clear hR R
      try simp only [go_sem, hx]
      refine ⟨i + 1, ?_, by (try simp only []); omega, ?_⟩
      · first | exact Weak.refl | exact Weak.eq (by first | rfl | (simp only [go_sem]; done) | (simp only [go_sem]; rfl) | (simp [go_sem]; done) | (simp [go_sem]; omega)) (by first | rfl | (simp only [go_sem]; done) | (simp [go_sem]; done))
      · try dsimp only
        exact ⟨hi', by simp_all⟩
  · -- c1 false
    try simp only [nrm] at c1
    have hdrop : l.drop i = [] := List.drop_eq_nil_of_le (by omega)
    rw [hdrop] at hinv
    simp only [fIdx] at hinv
    refine W_exit ?_
    simp only [go_sem]
    refine kq2 _ _ ?_
    refine W_seq fun kz10 kq10 => ?_
    refine W_region [4] fun R hR => ?_   -- r7
    simp only [go_sem]
    refine hR _ _ (kq10 _ _ ?_); clear hR R; try clear kq10 kz10
    try simp only [go_sem]
    refine W_ret ?_
    simp only [go_sem]
    refine ⟨.inr (by trivial), ?_⟩
    first | refine Fin_same hcl rfl (Wk_eq ?_ (by simp only [go_sem])) | refine Fin_self hcl rfl (Wk_eq ?_ (by simp only [go_sem]))
    try simp only [go_sem]
    all_goals
      first | rfl | (simp_all; done) | (simp_all; omega)
set_option maxHeartbeats 2000000 in
theorem contains_pc (Y : YEnv) (σ : Sg) (l : List Int) (o : Own) (hl : l.length < 2 ^ 62) (g : FuncId) (q : Int → Bool) (hq : ∀ (σ : Sg) (x : Int), PC Try.prog Y g [I x] σ (.bool (q x)) σ) :
    PC Try.prog Y 96 [intsO o l, .func (.func g) [] []] σ (.bool (l.any q)) (σ) := by
  refine PC_of_W Try.func96 rfl (by kernel_rfl) Try.ntmps96 (by simp) fun hcl hca => ?_
  refine W_seq fun kz1 kq1 => ?_
  refine W_region [0, 1] fun R hR => ?_   -- r0
  simp only [go_sem]
  refine hR _ _ (kq1 _ _ ?_); clear hR R; try clear kq1 kz1
  try simp only [go_sem]
  refine W_seq fun kz2 kq2 => ?_
  refine W_region [4] fun R hR => ?_   -- r1
  simp only [go_sem]
  refine GCall_of (index_pc Y _ l o hl g q hq) ?_   -- t7
  simp only [go_sem]
  refine hR _ _ (kq2 _ _ ?_); clear hR R; try clear kq2 kz2
  try simp only [go_sem]
  refine W_ret ?_
  simp only [go_sem]
  refine ⟨.inr (by trivial), ?_⟩
  first | refine Fin_same hcl rfl (Wk_eq ?_ (by simp only [go_sem])) | refine Fin_self hcl rfl (Wk_eq ?_ (by simp only [go_sem]))
  try simp only [go_sem]
  all_goals
    simp only [fIdx_any, go_sem]
set_option maxHeartbeats 2000000 in
theorem bcheck_pc (Y : YEnv) (σ : Sg) (ct : City) (hc : ct.Ok) :
    PC Try.prog Y 53 [ctPV ct] σ (I (chkCity ct)) (σ) := by
  refine PC_of_W Try.func53 rfl (by kernel_rfl) Try.ntmps53 (by simp) fun hcl hca => ?_
  refine W_seq fun kz1 kq1 => ?_
  refine W_region [1] fun R hR => ?_   -- r0
  simp only [go_sem]
  refine hR _ _ (kq1 _ _ ?_); clear hR R; try clear kq1 kz1
  try simp only [go_sem]
  refine W_seq fun kz2 kq2 => ?_
  refine W_seq fun kz3 kq3 => ?_
  refine W_region [1, 3] fun R hR => ?_   -- r1
  simp only [go_sem]
  refine GCall_of (ctown_pc Y _ ct.town (by have := hc.hr; omega) (by have := hc.hs; omega) (by have := hc.hg; omega) (fun g hg => by have := hc.hp g hg; omega)) ?_   -- t6
  simp only [go_sem]
  refine hR _ _ (kq3 _ _ ?_); clear hR R; try clear kq3 kz3
  try simp only [go_sem]
  refine W_seq fun kz4 kq4 => ?_
  refine W_region [1, 3, 8] fun R hR => ?_   -- r2
  simp only [go_sem]
  refine hR _ _ (kq4 _ _ ?_); clear hR R; try clear kq4 kz4
  try simp only [go_sem]
  refine W_cond rfl (fun c1 => ?_) (fun c1 => ?_)
  · -- c1 true
    try simp only [nrm] at c1
    refine W_seq fun kz5 kq5 => ?_
    refine W_region [2] fun R hR => ?_   -- r3
    simp only [go_sem]
    refine hR _ _ (kq5 _ _ ?_); clear hR R; try clear kq5 kz5
    try simp only [go_sem]
    refine W_ret ?_
    simp only [go_sem]
    refine ⟨.inr (by trivial), ?_⟩
    first | refine Fin_same hcl rfl (Wk_eq ?_ (by simp only [go_sem])) | refine Fin_self hcl rfl (Wk_eq ?_ (by simp only [go_sem]))
    try simp only [go_sem]
    all_goals
      congr 1; simp only [chkCity]; simp_all
  · -- c1 false
    try simp only [nrm] at c1
    refine W_skip (kq2 _ _ ?_)
    refine W_seq fun kz6 kq6 => ?_
    refine W_block ?_
    refine W_seq fun kz7 kq7 => ?_
    refine W_region [1, 10] fun R hR => ?_   -- r4
    simp only [go_sem]
    refine GCall_of (in_pc Y _ ct.brk 0 120) ?_   -- t13
    simp only [go_sem]
    refine hR _ _ (kq7 _ _ ?_); clear hR R; try clear kq7 kz7
    try simp only [go_sem]
    refine W_cond rfl (fun c2 => ?_) (fun c2 => ?_)
    · -- c2 true
      try simp only [nrm] at c2
      refine W_seq fun kz8 kq8 => ?_
      refine W_region [2] fun R hR => ?_   -- r5
      simp only [go_sem]
      refine hR _ _ (kq8 _ _ ?_); clear hR R; try clear kq8 kz8
      try simp only [go_sem]
      refine W_ret ?_
      simp only [go_sem]
      refine ⟨.inr (by trivial), ?_⟩
      first | refine Fin_same hcl rfl (Wk_eq ?_ (by simp only [go_sem])) | refine Fin_self hcl rfl (Wk_eq ?_ (by simp only [go_sem]))
      try simp only [go_sem]
      all_goals
        congr 1; simp only [chkCity]; simp_all
    · -- c2 false
      try simp only [nrm] at c2
      refine W_seq fun kz9 kq9 => ?_
      refine W_region [1, 15] fun R hR => ?_   -- r6
      simp only [go_sem]
      refine hR _ _ (kq9 _ _ ?_); clear hR R; try clear kq9 kz9
      try simp only [go_sem]
      refine W_cond rfl (fun c3 => ?_) (fun c3 => ?_)
      · -- c3 true
        try simp only [nrm] at c3
        refine W_seq fun kz10 kq10 => ?_
        refine W_region [2] fun R hR => ?_   -- r7
        simp only [go_sem]
        refine hR _ _ (kq10 _ _ ?_); clear hR R; try clear kq10 kz10
        try simp only [go_sem]
        refine W_ret ?_
        simp only [go_sem]
        refine ⟨.inr (by trivial), ?_⟩
        first | refine Fin_same hcl rfl (Wk_eq ?_ (by simp only [go_sem])) | refine Fin_self hcl rfl (Wk_eq ?_ (by simp only [go_sem]))
        try simp only [go_sem]
        all_goals
          congr 1; simp only [chkCity]; simp_all
      · -- c3 false
        try simp only [nrm] at c3
        refine W_seq fun kz11 kq11 => ?_
        refine W_region [24] fun R hR => ?_   -- r8
        simp only [go_sem]
        refine GCall_of (contains_pc Y _ ct.sleep .ro (by have := hc.hsl; omega) 97 _ (fun σ x => check1_pc Y σ x)) ?_   -- t27
        simp only [go_sem]
        refine hR _ _ (kq11 _ _ ?_); clear hR R; try clear kq11 kz11
        try simp only [go_sem]
        refine W_cond rfl (fun c4 => ?_) (fun c4 => ?_)
        · -- c4 true
          try simp only [nrm] at c4
          refine W_seq fun kz12 kq12 => ?_
          refine W_region [2] fun R hR => ?_   -- r9
          simp only [go_sem]
          refine hR _ _ (kq12 _ _ ?_); clear hR R; try clear kq12 kz12
          try simp only [go_sem]
          refine W_ret ?_
          simp only [go_sem]
          refine ⟨.inr (by trivial), ?_⟩
          first | refine Fin_same hcl rfl (Wk_eq ?_ (by simp only [go_sem])) | refine Fin_self hcl rfl (Wk_eq ?_ (by simp only [go_sem]))
          try simp only [go_sem]
          all_goals
            congr 1; simp only [chkCity]; simp_all
        · -- c4 false
          try simp only [nrm] at c4
          refine W_skip (kq6 _ _ ?_)
          refine W_seq fun kz13 kq13 => ?_
          refine W_region [2] fun R hR => ?_   -- r10
          simp only [go_sem]
          refine hR _ _ (kq13 _ _ ?_); clear hR R; try clear kq13 kz13
          try simp only [go_sem]
          refine W_ret ?_
          simp only [go_sem]
          refine ⟨.inr (by trivial), ?_⟩
          first | refine Fin_same hcl rfl (Wk_eq ?_ (by simp only [go_sem])) | refine Fin_self hcl rfl (Wk_eq ?_ (by simp only [go_sem]))
          try simp only [go_sem]
          all_goals
            congr 1; simp only [chkCity]; simp_all
def walkSq (streets : List (Int × Int)) : List Int → Int → List Int → List Int × Int
  | [], _, out => (out, 0)
  | n :: r, at', out => if !(inR n 0 (streets.length - 1)) then ([], 7) else
    match streets[n.toNat]? with
    | none => ([], 7)
    | some s => if at' = s.1 then walkSq streets r s.2 (out ++ [s.2]) else if at' = s.2 then walkSq streets r s.1 (out ++ [s.1]) else ([], 1)
def sqs (c : City) (b : Band) : List Int × Int :=
  if !(inR b.first 0 (c.town.rooms.length - 1)) then ([], 7) else if 12 < (b.path.length : Int) then ([], 5) else walkSq c.town.streets b.path b.first [b.first]
def sqPV (p : List Int × Int) : PV := .tuple [ints p.1, I p.2]
attribute [go_sem] sqPV
set_option maxHeartbeats 2000000 in
theorem squares_pc (Y : YEnv) (σ : Sg) (ct : City) (b : Band) (hc : ct.Ok) (hb : b.path.length < 2 ^ 50) :
    PC Try.prog Y 76 [ctPV ct, bdPV b] σ (sqPV (sqs ct b)) (σ) := by
  refine PC_of_W Try.func76 rfl (by kernel_rfl) Try.ntmps76 (by simp) fun hcl hca => ?_
  have hr := hc.hr
  have hs := hc.hs
  obtain ⟨res, hres⟩ : ∃ r, sqs ct b = r := ⟨_, rfl⟩
  rw [hres]
  refine W_seq fun kz1 kq1 => ?_
  refine W_region [2, 3] fun R hR => ?_   -- r0
  simp only [go_sem]
  refine hR _ _ (kq1 _ _ ?_); clear hR R; try clear kq1 kz1
  try simp only [go_sem]
  refine W_seq fun kz2 kq2 => ?_
  refine W_seq fun kz3 kq3 => ?_
  refine W_region [2, 3, 19] fun R hR => ?_   -- r1
  simp only [go_sem]
  try simp (disch := omega) only [wrapI]
  refine GCall_of (in_pc Y _ b.first 0 _) ?_   -- t18
  simp only [go_sem]
  try simp (disch := omega) only [wrapI]
  refine hR _ _ (kq3 _ _ ?_); clear hR R; try clear kq3 kz3
  try simp only [go_sem]
  refine W_cond rfl (fun c1 => ?_) (fun c1 => ?_)
  · -- c1 true
    try simp only [nrm] at c1
    refine W_seq fun kz4 kq4 => ?_
    refine W_region [4, 5] fun R hR => ?_   -- r2
    simp only [go_sem]
    refine hR _ _ (kq4 _ _ ?_); clear hR R; try clear kq4 kz4
    try simp only [go_sem]
    refine W_ret ?_
    simp only [go_sem]
    refine ⟨.inr (by trivial), ?_⟩
    refine Fin_same hcl rfl (Wk.ro (by simp only [go_sem]) ?_)
    try simp only [go_sem]
    all_goals
      first | rfl | (simp_all; done) | (simp_all; omega) | (rw [← hres]; simp only [sqs]; (repeat' split) <;> ((first | rfl | omega | (simp_all; done) | (simp_all; omega))))
  · -- c1 false
    try simp only [nrm] at c1
    refine W_skip (kq2 _ _ ?_)
    refine W_seq fun kz5 kq5 => ?_
    refine W_seq fun kz6 kq6 => ?_
    refine W_region [2, 3, 23] fun R hR => ?_   -- r3
    simp only [go_sem]
    refine hR _ _ (kq6 _ _ ?_); clear hR R; try clear kq6 kz6
    try simp only [go_sem]
    refine W_cond rfl (fun c2 => ?_) (fun c2 => ?_)
    · -- c2 true
      try simp only [nrm] at c2
      refine W_seq fun kz7 kq7 => ?_
      refine W_region [4, 5] fun R hR => ?_   -- r4
      simp only [go_sem]
      refine hR _ _ (kq7 _ _ ?_); clear hR R; try clear kq7 kz7
      try simp only [go_sem]
      refine W_ret ?_
      simp only [go_sem]
      refine ⟨.inr (by trivial), ?_⟩
      refine Fin_same hcl rfl (Wk.ro (by simp only [go_sem]) ?_)
      try simp only [go_sem]
      all_goals
        first | rfl | (simp_all; done) | (simp_all; omega) | (rw [← hres]; simp only [sqs]; (repeat' split) <;> ((first | rfl | omega | (simp_all; done) | (simp_all; omega))))
    · -- c2 false
      try simp only [nrm] at c2
      refine W_skip (kq5 _ _ ?_)
      refine W_seq fun kz8 kq8 => ?_
      refine W_region [2, 3, 6] fun R hR => ?_   -- r5
      simp only [go_sem]
      refine hR _ _ (kq8 _ _ ?_); clear hR R; try clear kq8 kz8
      try simp only [go_sem]
      refine W_seq fun kz9 kq9 => ?_
      refine W_region [2, 3, 6, 7] fun R hR => ?_   -- r6
      simp only [go_sem]
      refine hR _ _ (kq9 _ _ ?_); clear hR R; try clear kq9 kz9
      try simp only [go_sem]
      refine W_seq fun kz10 kq10 => ?_
      refine W_seq fun kz11 kq11 => ?_
      refine W_region [2, 6, 7, 29, 30, 31] fun R hR => ?_   -- r7
      simp only [go_sem]
      refine hR _ _ (kq11 _ _ ?_); clear hR R; try clear kq11 kz11
      try simp only [go_sem]
      refine W_block ?_
      refine W_weak (Weak.room (t := 7) (es := 1) rfl (by simp)) ?_
      refine W_weak (Weak.keep [2, 6, 7, 29, 30, 31]) ?_
      simp only [go_sem]
      refine W_loopT (α := Nat × Int × (List Int)) (fun ⟨i, at', out⟩ => [(6, I at'), (7, .isl (out.map I) (.tok σ.rooms.length out.length 1)), (31, I i)]) (fun ⟨i, at', out⟩ => σ.ext [some (ctCells ct), some (bdCells b)] [out.length]) (fun ⟨i, at', out⟩ => i ≤ b.path.length ∧ out.length = i + 1 ∧ res = walkSq ct.town.streets (b.path.drop i) at' out) (fun ⟨i, at', out⟩ => b.path.length - i) ((0, b.first, [b.first])) rfl (by first | rfl | (simp only [go_sem]; done) | (simp only [go_sem]; rfl)) (⟨Nat.zero_le _, rfl, by rw [← hres]; simp only [sqs]; simp [c1, c2]⟩) ?_
      rintro ⟨i, at', out⟩ ⟨hi, ho, hinv⟩
      refine W_seq fun kz12 kq12 => ?_
      refine W_region [2, 6, 7, 29, 30, 31, 32] fun R hR => ?_   -- r8
      simp only [go_sem]
      refine hR _ _ (kq12 _ _ ?_); clear hR R; try clear kq12 kz12
      try simp only [go_sem]
      refine W_seq fun kz13 kq13 => ?_
      refine W_cond rfl (fun c3 => ?_) (fun c3 => ?_)
      · -- c3 true
        try simp only [nrm] at c3
        have hi' : i < b.path.length := by first | assumption | omega
        obtain ⟨x, hx⟩ : ∃ x, b.path[i]? = some x := ⟨b.path[i], by simp [hi']⟩
        have hdrop : b.path.drop i = x :: b.path.drop (i + 1) := by
          rw [List.drop_eq_getElem_cons hi']; congr 1; exact (List.getElem?_eq_some_iff.1 hx).2
        rw [hdrop] at hinv
        simp only [walkSq] at hinv
        refine W_skip (kq13 _ _ ?_)
        refine W_seq fun kz14 kq14 => ?_
        refine W_block ?_
        refine W_seq fun kz15 kq15 => ?_
        refine W_region [2, 6, 7, 9, 29, 30, 31] fun R hR => ?_   -- r9
        simp only [go_sem, hx]
        refine hR _ _ (kq15 _ _ ?_); clear hR R; try clear kq15 kz15
        try simp only [go_sem, hx]
        refine W_seq fun kz16 kq16 => ?_
        refine W_seq fun kz17 kq17 => ?_
        refine W_region [2, 6, 7, 9, 29, 30, 31, 42] fun R hR => ?_   -- r10
        simp only [go_sem, hx]
        try simp (disch := omega) only [wrapI]
        refine GCall_of (in_pc Y _ x 0 _) ?_   -- t41
        simp only [go_sem, hx]
        try simp (disch := omega) only [wrapI]
        refine hR _ _ (kq17 _ _ ?_); clear hR R; try clear kq17 kz17
        try simp only [go_sem, hx]
        refine W_cond rfl (fun c4 => ?_) (fun c4 => ?_)
        · -- c4 true
          try simp only [nrm] at c4
          refine W_seq fun kz18 kq18 => ?_
          refine W_region [4, 5] fun R hR => ?_   -- r11
          simp only [go_sem, hx]
          refine hR _ _ (kq18 _ _ ?_); clear hR R; try clear kq18 kz18
          try simp only [go_sem, hx]
          refine W_ret ?_
          simp only [go_sem, hx]
          refine ⟨.inr (by trivial), ?_⟩
          refine Fin_same hcl rfl (Wk.ro (by simp only [go_sem]) ?_)
          try simp only [go_sem]
          all_goals
            first | rfl | (simp_all; done) | (simp_all; omega) | (rw [← hres]; simp only [sqs]; (repeat' split) <;> ((first | rfl | omega | (simp_all; done) | (simp_all; omega))))
        · -- c4 false
          try simp only [nrm] at c4
          have hin : 0 ≤ x ∧ x ≤ (ct.town.streets.length : Int) - 1 := by simpa [inR] using c4
          obtain ⟨n, rfl⟩ : ∃ n : Nat, x = (n : Int) := ⟨x.toNat, by omega⟩
          obtain ⟨s, hs'⟩ : ∃ s, ct.town.streets[n]? = some s := ⟨ct.town.streets[n]'(by omega), by simp⟩
          simp only [c4, Int.toNat_natCast, hs'] at hinv
          refine W_skip (kq16 _ _ ?_)
          refine W_seq fun kz19 kq19 => ?_
          refine W_seq fun kz20 kq20 => ?_
          refine W_region [2, 6, 7, 10, 29, 30, 31] fun R hR => ?_   -- r12
          simp only [go_sem, hx, hs']
          refine hR _ _ (kq20 _ _ ?_); clear hR R; try clear kq20 kz20
          try simp only [go_sem, hx, hs']
          refine W_seq fun kz21 kq21 => ?_
          refine W_region [2, 7, 10, 29, 30, 31, 49] fun R hR => ?_   -- r13
          simp only [go_sem, hx, hs']
          refine hR _ _ (kq21 _ _ ?_); clear hR R; try clear kq21 kz21
          try simp only [go_sem, hx, hs']
          refine W_block ?_
          refine W_seq fun kz22 kq22 => ?_
          refine W_region [2, 7, 10, 29, 30, 31, 49, 50] fun R hR => ?_   -- r15
          simp only [go_sem, hx, hs']
          refine hR _ _ (kq22 _ _ ?_); clear hR R; try clear kq22 kz22
          try simp only [go_sem, hx, hs']
          refine W_cond rfl (fun c5 => ?_) (fun c5 => ?_)
          · -- c5 true
            try simp only [nrm] at c5
            refine W_region [2, 6, 7, 29, 30, 31] fun R hR => ?_   -- r16
            simp only [go_sem, hx, hs']
            refine hR _ _ (kq19 _ _ ?_); clear hR R; try clear kq19 kz19
            try simp only [go_sem, hx, hs']
            refine W_region [2, 6, 7, 29, 30, 31] fun R hR => ?_   -- r19
            simp only [go_sem, hx, hs']
            simp (disch := first | omega | (simp only [go_sem] <;> omega)) only [wrapI, appX_exact, appX_tok]
            try simp only [go_sem, hx, hs']
            refine hR _ _ (kq14 _ _ ?_); clear hR R; try clear kq14 kz14
            try simp only [go_sem, hx, hs']
            refine W_region [2, 6, 7, 29, 30, 31] fun R hR => ?_   -- r20
            simp only [go_sem, hx, hs']
            try simp (disch := omega) only [wrapI]
            refine hR _ _ ?_; clear hR R
            try simp only [go_sem, hx, hs']
            refine ⟨(i + 1, s.2, out ++ [s.2]), ?_, by (try simp only []); omega, ?_⟩
            · refine Weak.trans (Weak.cutX 2 1 (by omega) (by omega) hcl (by simp only [go_sem]) (by simp only [go_sem] <;> omega)) ?_
              simp only [go_sem]
              exact Weak.eq (by first | rfl | (simp only [go_sem]; done) | (simp only [go_sem]; rfl) | (simp [go_sem]; done) | (simp [go_sem]; omega)) (by first | rfl | (simp only [go_sem]; done) | (simp [go_sem]; done))
            · try dsimp only
              exact ⟨hi', by simp; omega, by simp_all⟩
          · -- c5 false
            try simp only [nrm] at c5
            refine W_seq fun kz23 kq23 => ?_
            refine W_region [2, 7, 10, 29, 30, 31, 56] fun R hR => ?_   -- r17
            simp only [go_sem, hx, hs']
            refine hR _ _ (kq23 _ _ ?_); clear hR R; try clear kq23 kz23
            try simp only [go_sem, hx, hs']
            refine W_cond rfl (fun c6 => ?_) (fun c6 => ?_)
            · -- c6 true
              try simp only [nrm] at c6
              refine W_region [2, 6, 7, 29, 30, 31] fun R hR => ?_   -- r18
              simp only [go_sem, hx, hs']
              refine hR _ _ (kq19 _ _ ?_); clear hR R; try clear kq19 kz19
              try simp only [go_sem, hx, hs']
              refine W_region [2, 6, 7, 29, 30, 31] fun R hR => ?_   -- r19
              simp only [go_sem, hx, hs']
              simp (disch := first | omega | (simp only [go_sem] <;> omega)) only [wrapI, appX_exact, appX_tok]
              try simp only [go_sem, hx, hs']
              refine hR _ _ (kq14 _ _ ?_); clear hR R; try clear kq14 kz14
              try simp only [go_sem, hx, hs']
              refine W_region [2, 6, 7, 29, 30, 31] fun R hR => ?_   -- r20
              simp only [go_sem, hx, hs']
              try simp (disch := omega) only [wrapI]
              refine hR _ _ ?_; clear hR R
              try simp only [go_sem, hx, hs']
              refine ⟨(i + 1, s.1, out ++ [s.1]), ?_, by (try simp only []); omega, ?_⟩
              · refine Weak.trans (Weak.cutX 2 1 (by omega) (by omega) hcl (by simp only [go_sem]) (by simp only [go_sem] <;> omega)) ?_
                simp only [go_sem]
                exact Weak.eq (by first | rfl | (simp only [go_sem]; done) | (simp only [go_sem]; rfl) | (simp [go_sem]; done) | (simp [go_sem]; omega)) (by first | rfl | (simp only [go_sem]; done) | (simp [go_sem]; done))
              · try dsimp only
                exact ⟨hi', by simp; omega, by simp_all⟩
            · -- c6 false
              try simp only [nrm] at c6
              refine W_seq fun kz24 kq24 => ?_
              refine W_region [4, 5] fun R hR => ?_   -- r14
              simp only [go_sem, hx, hs']
              refine hR _ _ (kq24 _ _ ?_); clear hR R; try clear kq24 kz24
              try simp only [go_sem, hx, hs']
              refine W_ret ?_
              simp only [go_sem, hx, hs']
              refine ⟨.inr (by trivial), ?_⟩
              refine Fin_same hcl rfl (Wk.ro (by simp only [go_sem]) ?_)
              try simp only [go_sem]
              all_goals
                first | rfl | (simp_all; done) | (simp_all; omega) | (rw [← hres]; simp only [sqs]; (repeat' split) <;> ((first | rfl | omega | (simp_all; done) | (simp_all; omega))))
      · -- c3 false
        try simp only [nrm] at c3
        have hdrop : b.path.drop i = [] := List.drop_eq_nil_of_le (by omega)
        rw [hdrop] at hinv
        simp only [walkSq] at hinv
        refine W_exit ?_
        simp only [go_sem]
        refine kq10 _ _ ?_
        refine W_seq fun kz25 kq25 => ?_
        refine W_region [4, 5] fun R hR => ?_   -- r21
        simp only [go_sem]
        refine hR _ _ (kq25 _ _ ?_); clear hR R; try clear kq25 kz25
        try simp only [go_sem]
        refine W_ret ?_
        simp only [go_sem]
        refine ⟨.inr (by trivial), ?_⟩
        refine Fin_same hcl rfl (Wk.ro (by simp only [go_sem]) ?_)
        try simp only [go_sem]
        all_goals
          first | rfl | (simp_all; done) | (simp_all; omega) | (rw [← hres]; simp only [sqs]; (repeat' split) <;> ((first | rfl | omega | (simp_all; done) | (simp_all; omega))))
end Go.Proofs.Ytnpamcpoaklgeaa
namespace Go.Proofs.Ytnpamcpoaklgeaa
open Go Go.RowKit
set_option maxRecDepth 100000
theorem inR_true {n lo hi : Int} : (inR n lo hi = true) = (lo ≤ n ∧ n ≤ hi) := by simp [inR]
theorem mul_bd {a b A B : Int} (h0 : 0 ≤ a) (h1 : a ≤ A) (h2 : 0 ≤ b) (h3 : b ≤ B) : 0 ≤ a * b ∧ a * b ≤ A * B :=
  ⟨Int.mul_nonneg h0 h2, Int.mul_le_mul h1 h3 h2 (Int.le_trans h0 h1)⟩
def timesOf (b : Band) : Int :=
  if inR b.lo 0 720 = false then 2 else if inR b.hi 0 720 = false then 2 else if b.hi < b.lo then 9 else if 30 < b.hi - b.lo then 2 else if inR b.stay 1 120 = false then 2 else if inR b.people 0 1000000 = false then 2 else
  if 720 < b.hi + b.stay * ((b.path.length : Int) + 1) then 12 else 0
def chkBand (c : City) (b : Band) : Int := if (sqs c b).2 ≠ 0 then (sqs c b).2 else timesOf b
def chkBands (c : City) : List Band → Int
  | [] => 0
  | b :: r => if chkBand c b ≠ 0 then chkBand c b else chkBands c r
def askedOf (c : City) (l : List Band) : Int := if chkCity c ≠ 0 then chkCity c else chkBands c l
def chkAll (c : City) (l : List Band) : Int := if chkCity c ≠ 0 then chkCity c else if 10 < (l.length : Int) then 5 else chkBands c l
def BandsOk (l : List Band) : Prop := l.length < 2 ^ 50 ∧ ∀ b, b ∈ l → b.path.length < 2 ^ 50
set_option maxHeartbeats 2000000 in
theorem times_pc (Y : YEnv) (σ : Sg) (b : Band) (hb : b.path.length < 2 ^ 50) :
    PC Try.prog Y 131 [bdPV b] σ (I (timesOf b)) (σ) := by
  refine PC_of_W Try.func131 rfl (by kernel_rfl) Try.ntmps131 (by simp) fun hcl hca => ?_
  refine W_seq fun kz1 kq1 => ?_
  refine W_region [1] fun R hR => ?_   -- r0
  simp only [go_sem]
  refine hR _ _ (kq1 _ _ ?_); clear hR R; try clear kq1 kz1
  try simp only [go_sem]
  refine W_seq fun kz2 kq2 => ?_
  refine W_seq fun kz3 kq3 => ?_
  refine W_region [1, 3] fun R hR => ?_   -- r1
  simp only [go_sem]
  refine hR _ _ (kq3 _ _ ?_); clear hR R; try clear kq3 kz3
  try simp only [go_sem]
  refine W_block ?_
  refine W_seq fun kz4 kq4 => ?_
  refine W_seq fun kz5 kq5 => ?_
  refine W_region [1, 3, 6] fun R hR => ?_   -- r2
  simp only [go_sem]
  refine GCall_of (in_pc Y _ b.lo 0 720) ?_   -- t9
  simp only [go_sem]
  refine hR _ _ (kq5 _ _ ?_); clear hR R; try clear kq5 kz5
  try simp only [go_sem]
  refine W_cond rfl (fun c1 => ?_) (fun c1 => ?_)
  · -- c1 true
    try simp only [nrm] at c1
    refine W_skip (kq4 _ _ ?_)
    refine W_cond_true (by first | rfl | (simp only [go_sem]; simp [c1])) ?_
    refine W_seq fun kz6 kq6 => ?_
    refine W_region [2] fun R hR => ?_   -- r4
    simp only [go_sem]
    refine hR _ _ (kq6 _ _ ?_); clear hR R; try clear kq6 kz6
    try simp only [go_sem]
    refine W_ret ?_
    simp only [go_sem]
    refine ⟨.inr (by trivial), ?_⟩
    first | refine Fin_same hcl rfl (Wk_eq ?_ (by simp only [go_sem])) | refine Fin_self hcl rfl (Wk_eq ?_ (by simp only [go_sem]))
    try simp only [go_sem]
    all_goals
      first | rfl | (simp_all; done) | (simp_all; omega) | (simp only [timesOf]; (repeat' split) <;> ((first | rfl | omega | (simp_all; done) | (simp_all; omega))))
  · -- c1 false
    try simp only [nrm] at c1
    refine W_region [1, 3, 6] fun R hR => ?_   -- r3
    simp only [go_sem]
    refine GCall_of (in_pc Y _ b.hi 0 720) ?_   -- t13
    simp only [go_sem]
    refine hR _ _ (kq4 _ _ ?_); clear hR R; try clear kq4 kz4
    try simp only [go_sem]
    refine W_cond rfl (fun c2 => ?_) (fun c2 => ?_)
    · -- c2 true
      try simp only [nrm] at c2
      refine W_seq fun kz7 kq7 => ?_
      refine W_region [2] fun R hR => ?_   -- r4
      simp only [go_sem]
      refine hR _ _ (kq7 _ _ ?_); clear hR R; try clear kq7 kz7
      try simp only [go_sem]
      refine W_ret ?_
      simp only [go_sem]
      refine ⟨.inr (by trivial), ?_⟩
      first | refine Fin_same hcl rfl (Wk_eq ?_ (by simp only [go_sem])) | refine Fin_self hcl rfl (Wk_eq ?_ (by simp only [go_sem]))
      try simp only [go_sem]
      all_goals
        first | rfl | (simp_all; done) | (simp_all; omega) | (simp only [timesOf]; (repeat' split) <;> ((first | rfl | omega | (simp_all; done) | (simp_all; omega))))
    · -- c2 false
      try simp only [nrm] at c2
      refine W_seq fun kz8 kq8 => ?_
      refine W_region [1, 3, 15] fun R hR => ?_   -- r5
      simp only [go_sem]
      refine hR _ _ (kq8 _ _ ?_); clear hR R; try clear kq8 kz8
      try simp only [go_sem]
      refine W_cond rfl (fun c3 => ?_) (fun c3 => ?_)
      · -- c3 true
        try simp only [nrm] at c3
        refine W_seq fun kz9 kq9 => ?_
        refine W_region [2] fun R hR => ?_   -- r6
        simp only [go_sem]
        refine hR _ _ (kq9 _ _ ?_); clear hR R; try clear kq9 kz9
        try simp only [go_sem]
        refine W_ret ?_
        simp only [go_sem]
        refine ⟨.inr (by trivial), ?_⟩
        first | refine Fin_same hcl rfl (Wk_eq ?_ (by simp only [go_sem])) | refine Fin_self hcl rfl (Wk_eq ?_ (by simp only [go_sem]))
        try simp only [go_sem]
        all_goals
          first | rfl | (simp_all; done) | (simp_all; omega) | (simp only [timesOf]; (repeat' split) <;> ((first | rfl | omega | (simp_all; done) | (simp_all; omega))))
      · -- c3 false
        try simp only [nrm] at c3
        refine W_seq fun kz10 kq10 => ?_
        refine W_seq fun kz11 kq11 => ?_
        have d1 : inR b.lo 0 720 = true := by assumption
        have d2 : inR b.hi 0 720 = true := by assumption
        simp only [inR_true] at d1 d2
        refine W_region [1, 3, 21] fun R hR => ?_   -- r7
        simp only [go_sem]
        try simp (disch := omega) only [wrapI]
        refine hR _ _ (kq11 _ _ ?_); clear hR R; try clear kq11 kz11
        try simp only [go_sem]
        refine W_cond rfl (fun c4 => ?_) (fun c4 => ?_)
        · -- c4 true
          try simp only [nrm] at c4
          refine W_skip (kq10 _ _ ?_)
          refine W_cond_true (by first | rfl | (simp only [go_sem]; simp [c4])) ?_
          refine W_seq fun kz12 kq12 => ?_
          refine W_region [2] fun R hR => ?_   -- r10
          simp only [go_sem]
          refine hR _ _ (kq12 _ _ ?_); clear hR R; try clear kq12 kz12
          try simp only [go_sem]
          refine W_ret ?_
          simp only [go_sem]
          refine ⟨.inr (by trivial), ?_⟩
          first | refine Fin_same hcl rfl (Wk_eq ?_ (by simp only [go_sem])) | refine Fin_self hcl rfl (Wk_eq ?_ (by simp only [go_sem]))
          try simp only [go_sem]
          all_goals
            first | rfl | (simp_all; done) | (simp_all; omega) | (simp only [timesOf]; (repeat' split) <;> ((first | rfl | omega | (simp_all; done) | (simp_all; omega))))
        · -- c4 false
          try simp only [nrm] at c4
          refine W_seq fun kz13 kq13 => ?_
          refine W_region [1, 3, 21] fun R hR => ?_   -- r8
          simp only [go_sem]
          refine GCall_of (in_pc Y _ b.stay 1 120) ?_   -- t30
          simp only [go_sem]
          refine hR _ _ (kq13 _ _ ?_); clear hR R; try clear kq13 kz13
          try simp only [go_sem]
          refine W_cond rfl (fun c5 => ?_) (fun c5 => ?_)
          · -- c5 true
            try simp only [nrm] at c5
            refine W_skip (kq10 _ _ ?_)
            refine W_cond_true (by first | rfl | (simp only [go_sem]; simp [c5])) ?_
            refine W_seq fun kz14 kq14 => ?_
            refine W_region [2] fun R hR => ?_   -- r10
            simp only [go_sem]
            refine hR _ _ (kq14 _ _ ?_); clear hR R; try clear kq14 kz14
            try simp only [go_sem]
            refine W_ret ?_
            simp only [go_sem]
            refine ⟨.inr (by trivial), ?_⟩
            first | refine Fin_same hcl rfl (Wk_eq ?_ (by simp only [go_sem])) | refine Fin_self hcl rfl (Wk_eq ?_ (by simp only [go_sem]))
            try simp only [go_sem]
            all_goals
              first | rfl | (simp_all; done) | (simp_all; omega) | (simp only [timesOf]; (repeat' split) <;> ((first | rfl | omega | (simp_all; done) | (simp_all; omega))))
          · -- c5 false
            try simp only [nrm] at c5
            refine W_region [1, 3, 21] fun R hR => ?_   -- r9
            simp only [go_sem]
            refine GCall_of (in_pc Y _ b.people 0 1000000) ?_   -- t34
            simp only [go_sem]
            refine hR _ _ (kq10 _ _ ?_); clear hR R; try clear kq10 kz10
            try simp only [go_sem]
            refine W_cond rfl (fun c6 => ?_) (fun c6 => ?_)
            · -- c6 true
              try simp only [nrm] at c6
              refine W_seq fun kz15 kq15 => ?_
              refine W_region [2] fun R hR => ?_   -- r10
              simp only [go_sem]
              refine hR _ _ (kq15 _ _ ?_); clear hR R; try clear kq15 kz15
              try simp only [go_sem]
              refine W_ret ?_
              simp only [go_sem]
              refine ⟨.inr (by trivial), ?_⟩
              first | refine Fin_same hcl rfl (Wk_eq ?_ (by simp only [go_sem])) | refine Fin_self hcl rfl (Wk_eq ?_ (by simp only [go_sem]))
              try simp only [go_sem]
              all_goals
                first | rfl | (simp_all; done) | (simp_all; omega) | (simp only [timesOf]; (repeat' split) <;> ((first | rfl | omega | (simp_all; done) | (simp_all; omega))))
            · -- c6 false
              try simp only [nrm] at c6
              refine W_seq fun kz16 kq16 => ?_
              have d3 : inR b.stay 1 120 = true := by assumption
              simp only [inR_true] at d3
              have d4 := mul_bd (a := b.stay) (b := (b.path.length : Int) + 1) (A := 120) (B := 2 ^ 51) (by omega) (by omega) (by omega) (by omega)
              refine W_region [36] fun R hR => ?_   -- r11
              simp only [go_sem]
              try simp (disch := omega) only [wrapI]
              refine hR _ _ (kq16 _ _ ?_); clear hR R; try clear kq16 kz16
              try simp only [go_sem]
              refine W_cond rfl (fun c7 => ?_) (fun c7 => ?_)
              · -- c7 true
                try simp only [nrm] at c7
                refine W_seq fun kz17 kq17 => ?_
                refine W_region [2] fun R hR => ?_   -- r12
                simp only [go_sem]
                refine hR _ _ (kq17 _ _ ?_); clear hR R; try clear kq17 kz17
                try simp only [go_sem]
                refine W_ret ?_
                simp only [go_sem]
                refine ⟨.inr (by trivial), ?_⟩
                first | refine Fin_same hcl rfl (Wk_eq ?_ (by simp only [go_sem])) | refine Fin_self hcl rfl (Wk_eq ?_ (by simp only [go_sem]))
                try simp only [go_sem]
                all_goals
                  first | rfl | (simp_all; done) | (simp_all; omega) | (simp only [timesOf]; (repeat' split) <;> ((first | rfl | omega | (simp_all; done) | (simp_all; omega))))
              · -- c7 false
                try simp only [nrm] at c7
                refine W_skip (kq2 _ _ ?_)
                refine W_seq fun kz18 kq18 => ?_
                refine W_region [2] fun R hR => ?_   -- r13
                simp only [go_sem]
                refine hR _ _ (kq18 _ _ ?_); clear hR R; try clear kq18 kz18
                try simp only [go_sem]
                refine W_ret ?_
                simp only [go_sem]
                refine ⟨.inr (by trivial), ?_⟩
                first | refine Fin_same hcl rfl (Wk_eq ?_ (by simp only [go_sem])) | refine Fin_self hcl rfl (Wk_eq ?_ (by simp only [go_sem]))
                try simp only [go_sem]
                all_goals
                  first | rfl | (simp_all; done) | (simp_all; omega) | (simp only [timesOf]; (repeat' split) <;> ((first | rfl | omega | (simp_all; done) | (simp_all; omega))))
set_option maxHeartbeats 2000000 in
theorem checkBand_pc (Y : YEnv) (σ : Sg) (ct : City) (b : Band) (hc : ct.Ok) (hb : b.path.length < 2 ^ 50) :
    PC Try.prog Y 99 [ctPV ct, bdPV b] σ (I (chkBand ct b)) (σ) := by
  refine PC_of_W Try.func99 rfl (by kernel_rfl) Try.ntmps99 (by simp) fun hcl hca => ?_
  refine W_seq fun kz1 kq1 => ?_
  refine W_region [2, 3] fun R hR => ?_   -- r0
  simp only [go_sem]
  refine hR _ _ (kq1 _ _ ?_); clear hR R; try clear kq1 kz1
  try simp only [go_sem]
  refine W_seq fun kz2 kq2 => ?_
  refine W_seq fun kz3 kq3 => ?_
  refine W_region [3, 6] fun R hR => ?_   -- r1
  simp only [go_sem]
  refine GCall_of (squares_pc Y _ ct b hc hb) ?_   -- t10
  simp only [go_sem]
  refine hR _ _ (kq3 _ _ ?_); clear hR R; try clear kq3 kz3
  try simp only [go_sem]
  refine W_seq fun kz4 kq4 => ?_
  refine W_region [3, 6, 14] fun R hR => ?_   -- r2
  simp only [go_sem]
  refine hR _ _ (kq4 _ _ ?_); clear hR R; try clear kq4 kz4
  try simp only [go_sem]
  refine W_cond rfl (fun c1 => ?_) (fun c1 => ?_)
  · -- c1 true
    try simp only [nrm] at c1
    refine W_seq fun kz5 kq5 => ?_
    refine W_region [4] fun R hR => ?_   -- r3
    simp only [go_sem]
    refine hR _ _ (kq5 _ _ ?_); clear hR R; try clear kq5 kz5
    try simp only [go_sem]
    refine W_ret ?_
    simp only [go_sem]
    refine ⟨.inr (by trivial), ?_⟩
    first | refine Fin_same hcl rfl (Wk_eq ?_ (by simp only [go_sem])) | refine Fin_self hcl rfl (Wk_eq ?_ (by simp only [go_sem]))
    try simp only [go_sem]
    all_goals
      first | rfl | (simp_all; done) | (simp_all; omega) | (simp only [chkBand]; (repeat' split) <;> ((first | rfl | omega | (simp_all; done) | (simp_all; omega))))
  · -- c1 false
    try simp only [nrm] at c1
    refine W_skip (kq2 _ _ ?_)
    refine W_seq fun kz6 kq6 => ?_
    refine W_region [4] fun R hR => ?_   -- r4
    simp only [go_sem]
    refine GCall_of (times_pc Y _ b hb) ?_   -- t17
    simp only [go_sem]
    refine hR _ _ (kq6 _ _ ?_); clear hR R; try clear kq6 kz6
    try simp only [go_sem]
    refine W_ret ?_
    simp only [go_sem]
    refine ⟨.inr (by trivial), ?_⟩
    first | refine Fin_same hcl rfl (Wk_eq ?_ (by simp only [go_sem])) | refine Fin_self hcl rfl (Wk_eq ?_ (by simp only [go_sem]))
    try simp only [go_sem]
    all_goals
      first | rfl | (simp_all; done) | (simp_all; omega) | (simp only [chkBand]; (repeat' split) <;> ((first | rfl | omega | (simp_all; done) | (simp_all; omega))))
set_option maxHeartbeats 2000000 in
theorem asked_pc (Y : YEnv) (σ : Sg) (ct : City) (l : List Band) (hc : ct.Ok) (hl : BandsOk l) :
    PC Try.prog Y 66 [ctPV ct, bands l] σ (I (askedOf ct l)) (σ) := by
  refine PC_of_W Try.func66 rfl (by kernel_rfl) Try.ntmps66 (by simp) fun hcl hca => ?_
  have hl1 := hl.1
  have hl2 := hl.2
  obtain ⟨res, hres⟩ : ∃ r, askedOf ct l = r := ⟨_, rfl⟩
  rw [hres]
  refine W_seq fun kz1 kq1 => ?_
  refine W_region [1, 2] fun R hR => ?_   -- r0
  simp only [go_sem]
  refine hR _ _ (kq1 _ _ ?_); clear hR R; try clear kq1 kz1
  try simp only [go_sem]
  refine W_seq fun kz2 kq2 => ?_
  refine W_seq fun kz3 kq3 => ?_
  refine W_region [1, 2, 5] fun R hR => ?_   -- r1
  simp only [go_sem]
  refine GCall_of (bcheck_pc Y _ ct hc) ?_   -- t10
  simp only [go_sem]
  refine hR _ _ (kq3 _ _ ?_); clear hR R; try clear kq3 kz3
  try simp only [go_sem]
  refine W_seq fun kz4 kq4 => ?_
  refine W_region [1, 2, 5, 12] fun R hR => ?_   -- r2
  simp only [go_sem]
  refine hR _ _ (kq4 _ _ ?_); clear hR R; try clear kq4 kz4
  try simp only [go_sem]
  refine W_cond rfl (fun c1 => ?_) (fun c1 => ?_)
  · -- c1 true
    try simp only [nrm] at c1
    refine W_seq fun kz5 kq5 => ?_
    refine W_region [4] fun R hR => ?_   -- r3
    simp only [go_sem]
    refine hR _ _ (kq5 _ _ ?_); clear hR R; try clear kq5 kz5
    try simp only [go_sem]
    refine W_ret ?_
    simp only [go_sem]
    refine ⟨.inr (by trivial), ?_⟩
    first | refine Fin_same hcl rfl (Wk_eq ?_ (by simp only [go_sem])) | refine Fin_self hcl rfl (Wk_eq ?_ (by simp only [go_sem]))
    try simp only [go_sem]
    all_goals
      first | rfl | (simp_all; done) | (simp_all; omega) | (rw [← hres]; simp only [askedOf]; (repeat' split) <;> ((first | rfl | omega | (simp_all; done) | (simp_all; omega))))
  · -- c1 false
    try simp only [nrm] at c1
    refine W_skip (kq2 _ _ ?_)
    refine W_seq fun kz6 kq6 => ?_
    refine W_seq fun kz7 kq7 => ?_
    refine W_region [2, 14, 15, 16] fun R hR => ?_   -- r4
    simp only [go_sem]
    refine hR _ _ (kq7 _ _ ?_); clear hR R; try clear kq7 kz7
    try simp only [go_sem]
    refine W_block ?_
    refine W_loopS (α := Nat) (fun (i : Nat) => [(16, I i)]) (fun (i : Nat) => i ≤ l.length ∧ res = chkBands ct (l.drop i)) (fun (i : Nat) => l.length - i) (0) rfl (⟨Nat.zero_le _, by rw [← hres]; simp [askedOf, chkAll, *]⟩) ?_
    rintro i ⟨hi, hinv⟩
    refine W_seq fun kz8 kq8 => ?_
    refine W_region [2, 14, 15, 16, 17] fun R hR => ?_   -- r5
    simp only [go_sem]
    refine hR _ _ (kq8 _ _ ?_); clear hR R; try clear kq8 kz8
    try simp only [go_sem]
    refine W_seq fun kz9 kq9 => ?_
    refine W_cond rfl (fun c2 => ?_) (fun c2 => ?_)
    · -- c2 true
      try simp only [nrm] at c2
      have hi' : i < l.length := by first | assumption | omega
      obtain ⟨b, hx⟩ : ∃ b, l[i]? = some b := ⟨l[i], by simp [hi']⟩
      have hdrop : l.drop i = b :: l.drop (i + 1) := by
        rw [List.drop_eq_getElem_cons hi']; congr 1; exact (List.getElem?_eq_some_iff.1 hx).2
      have hbl : b ∈ l := List.mem_of_getElem? hx
      rw [hdrop] at hinv
      simp only [chkBands] at hinv
      refine W_skip (kq9 _ _ ?_)
      refine W_seq fun kz10 kq10 => ?_
      refine W_block ?_
      refine W_seq fun kz11 kq11 => ?_
      refine W_region [2, 7, 14, 15, 16] fun R hR => ?_   -- r6
      simp only [go_sem, hx]
      refine hR _ _ (kq11 _ _ ?_); clear hR R; try clear kq11 kz11
      try simp only [go_sem, hx]
      refine W_seq fun kz12 kq12 => ?_
      refine W_region [2, 8, 14, 15, 16] fun R hR => ?_   -- r7
      simp only [go_sem, hx]
      refine GCall_of (checkBand_pc Y _ ct b hc (hl2 b hbl)) ?_   -- t22
      simp only [go_sem, hx]
      refine hR _ _ (kq12 _ _ ?_); clear hR R; try clear kq12 kz12
      try simp only [go_sem, hx]
      refine W_seq fun kz13 kq13 => ?_
      refine W_region [2, 8, 14, 15, 16, 24] fun R hR => ?_   -- r8
      simp only [go_sem, hx]
      refine hR _ _ (kq13 _ _ ?_); clear hR R; try clear kq13 kz13
      try simp only [go_sem, hx]
      refine W_cond rfl (fun c3 => ?_) (fun c3 => ?_)
      · -- c3 true
        try simp only [nrm] at c3
        refine W_seq fun kz14 kq14 => ?_
        refine W_region [4] fun R hR => ?_   -- r9
        simp only [go_sem, hx]
        refine hR _ _ (kq14 _ _ ?_); clear hR R; try clear kq14 kz14
        try simp only [go_sem, hx]
        refine W_ret ?_
        simp only [go_sem, hx]
        refine ⟨.inr (by trivial), ?_⟩
        first | refine Fin_same hcl rfl (Wk_eq ?_ (by simp only [go_sem])) | refine Fin_self hcl rfl (Wk_eq ?_ (by simp only [go_sem]))
        try simp only [go_sem]
        all_goals
          first | rfl | (simp_all; done) | (simp_all; omega) | (rw [← hres]; simp only [askedOf]; (repeat' split) <;> ((first | rfl | omega | (simp_all; done) | (simp_all; omega))))
      · -- c3 false
        try simp only [nrm] at c3
        refine W_skip (kq10 _ _ ?_)
        refine W_region [2, 14, 15, 16] fun R hR => ?_   -- r10
        simp only [go_sem, hx]
        try simp (disch := omega) only [wrapI]
        refine hR _ _ ?_; clear hR R
        try simp only [go_sem, hx]
        refine ⟨i + 1, ?_, by (try simp only []); omega, ?_⟩
        · refine Weak.trans (Weak.cutX 1 0 (by omega) (by omega) hcl (by simp only [go_sem]) (by simp only [go_sem] <;> omega)) ?_
          simp only [go_sem]
          exact Weak.eq (by first | rfl | (simp only [go_sem]; done) | (simp only [go_sem]; rfl) | (simp [go_sem]; done) | (simp [go_sem]; omega)) (by first | rfl | (simp only [go_sem]; done) | (simp [go_sem]; done))
        · try dsimp only
          exact ⟨hi', by simp_all⟩
    · -- c2 false
      try simp only [nrm] at c2
      have hdrop : l.drop i = [] := List.drop_eq_nil_of_le (by omega)
      rw [hdrop] at hinv
      simp only [chkBands] at hinv
      refine W_exit ?_
      simp only [go_sem]
      refine kq6 _ _ ?_
      refine W_seq fun kz15 kq15 => ?_
      refine W_region [4] fun R hR => ?_   -- r11
      simp only [go_sem]
      refine hR _ _ (kq15 _ _ ?_); clear hR R; try clear kq15 kz15
      try simp only [go_sem]
      refine W_ret ?_
      simp only [go_sem]
      refine ⟨.inr (by trivial), ?_⟩
      first | refine Fin_same hcl rfl (Wk_eq ?_ (by simp only [go_sem])) | refine Fin_self hcl rfl (Wk_eq ?_ (by simp only [go_sem]))
      try simp only [go_sem]
      all_goals
        first | rfl | (simp_all; done) | (simp_all; omega) | (rw [← hres]; simp only [askedOf]; (repeat' split) <;> ((first | rfl | omega | (simp_all; done) | (simp_all; omega))))
set_option maxHeartbeats 2000000 in
theorem checkBands_pc (Y : YEnv) (σ : Sg) (ct : City) (l : List Band) (hc : ct.Ok) (hl : BandsOk l) :
    PC Try.prog Y 55 [ctPV ct, bands l] σ (I (chkAll ct l)) (σ) := by
  refine PC_of_W Try.func55 rfl (by kernel_rfl) Try.ntmps55 (by simp) fun hcl hca => ?_
  have hl1 := hl.1
  have hl2 := hl.2
  obtain ⟨res, hres⟩ : ∃ r, chkAll ct l = r := ⟨_, rfl⟩
  rw [hres]
  refine W_seq fun kz1 kq1 => ?_
  refine W_region [1, 2] fun R hR => ?_   -- r0
  simp only [go_sem]
  refine hR _ _ (kq1 _ _ ?_); clear hR R; try clear kq1 kz1
  try simp only [go_sem]
  refine W_seq fun kz2 kq2 => ?_
  refine W_seq fun kz3 kq3 => ?_
  refine W_region [1, 2, 5] fun R hR => ?_   -- r1
  simp only [go_sem]
  refine GCall_of (bcheck_pc Y _ ct hc) ?_   -- t10
  simp only [go_sem]
  refine hR _ _ (kq3 _ _ ?_); clear hR R; try clear kq3 kz3
  try simp only [go_sem]
  refine W_seq fun kz4 kq4 => ?_
  refine W_region [1, 2, 5, 12] fun R hR => ?_   -- r2
  simp only [go_sem]
  refine hR _ _ (kq4 _ _ ?_); clear hR R; try clear kq4 kz4
  try simp only [go_sem]
  refine W_cond rfl (fun c1 => ?_) (fun c1 => ?_)
  · -- c1 true
    try simp only [nrm] at c1
    refine W_seq fun kz5 kq5 => ?_
    refine W_region [4] fun R hR => ?_   -- r3
    simp only [go_sem]
    refine hR _ _ (kq5 _ _ ?_); clear hR R; try clear kq5 kz5
    try simp only [go_sem]
    refine W_ret ?_
    simp only [go_sem]
    refine ⟨.inr (by trivial), ?_⟩
    first | refine Fin_same hcl rfl (Wk_eq ?_ (by simp only [go_sem])) | refine Fin_self hcl rfl (Wk_eq ?_ (by simp only [go_sem]))
    try simp only [go_sem]
    all_goals
      first | rfl | (simp_all; done) | (simp_all; omega) | (rw [← hres]; simp only [chkAll]; (repeat' split) <;> ((first | rfl | omega | (simp_all; done) | (simp_all; omega))))
  · -- c1 false
    try simp only [nrm] at c1
    refine W_skip (kq2 _ _ ?_)
    refine W_seq fun kz6 kq6 => ?_
    refine W_seq fun kz7 kq7 => ?_
    refine W_region [1, 2, 16] fun R hR => ?_   -- r4
    simp only [go_sem]
    refine hR _ _ (kq7 _ _ ?_); clear hR R; try clear kq7 kz7
    try simp only [go_sem]
    refine W_cond rfl (fun c2 => ?_) (fun c2 => ?_)
    · -- c2 true
      try simp only [nrm] at c2
      refine W_seq fun kz8 kq8 => ?_
      refine W_region [4] fun R hR => ?_   -- r5
      simp only [go_sem]
      refine hR _ _ (kq8 _ _ ?_); clear hR R; try clear kq8 kz8
      try simp only [go_sem]
      refine W_ret ?_
      simp only [go_sem]
      refine ⟨.inr (by trivial), ?_⟩
      first | refine Fin_same hcl rfl (Wk_eq ?_ (by simp only [go_sem])) | refine Fin_self hcl rfl (Wk_eq ?_ (by simp only [go_sem]))
      try simp only [go_sem]
      all_goals
        first | rfl | (simp_all; done) | (simp_all; omega) | (rw [← hres]; simp only [chkAll]; (repeat' split) <;> ((first | rfl | omega | (simp_all; done) | (simp_all; omega))))
    · -- c2 false
      try simp only [nrm] at c2
      refine W_skip (kq6 _ _ ?_)
      refine W_seq fun kz9 kq9 => ?_
      refine W_seq fun kz10 kq10 => ?_
      refine W_region [2, 17, 18, 19] fun R hR => ?_   -- r6
      simp only [go_sem]
      refine hR _ _ (kq10 _ _ ?_); clear hR R; try clear kq10 kz10
      try simp only [go_sem]
      refine W_block ?_
      refine W_loopS (α := Nat) (fun (i : Nat) => [(19, I i)]) (fun (i : Nat) => i ≤ l.length ∧ res = chkBands ct (l.drop i)) (fun (i : Nat) => l.length - i) (0) rfl (⟨Nat.zero_le _, by rw [← hres]; simp [askedOf, chkAll, *]⟩) ?_
      rintro i ⟨hi, hinv⟩
      refine W_seq fun kz11 kq11 => ?_
      refine W_region [2, 17, 18, 19, 20] fun R hR => ?_   -- r7
      simp only [go_sem]
      refine hR _ _ (kq11 _ _ ?_); clear hR R; try clear kq11 kz11
      try simp only [go_sem]
      refine W_seq fun kz12 kq12 => ?_
      refine W_cond rfl (fun c3 => ?_) (fun c3 => ?_)
      · -- c3 true
        try simp only [nrm] at c3
        have hi' : i < l.length := by first | assumption | omega
        obtain ⟨b, hx⟩ : ∃ b, l[i]? = some b := ⟨l[i], by simp [hi']⟩
        have hdrop : l.drop i = b :: l.drop (i + 1) := by
          rw [List.drop_eq_getElem_cons hi']; congr 1; exact (List.getElem?_eq_some_iff.1 hx).2
        have hbl : b ∈ l := List.mem_of_getElem? hx
        rw [hdrop] at hinv
        simp only [chkBands] at hinv
        refine W_skip (kq12 _ _ ?_)
        refine W_seq fun kz13 kq13 => ?_
        refine W_block ?_
        refine W_seq fun kz14 kq14 => ?_
        refine W_region [2, 7, 17, 18, 19] fun R hR => ?_   -- r8
        simp only [go_sem, hx]
        refine hR _ _ (kq14 _ _ ?_); clear hR R; try clear kq14 kz14
        try simp only [go_sem, hx]
        refine W_seq fun kz15 kq15 => ?_
        refine W_region [2, 8, 17, 18, 19] fun R hR => ?_   -- r9
        simp only [go_sem, hx]
        refine GCall_of (checkBand_pc Y _ ct b hc (hl2 b hbl)) ?_   -- t25
        simp only [go_sem, hx]
        refine hR _ _ (kq15 _ _ ?_); clear hR R; try clear kq15 kz15
        try simp only [go_sem, hx]
        refine W_seq fun kz16 kq16 => ?_
        refine W_region [2, 8, 17, 18, 19, 27] fun R hR => ?_   -- r10
        simp only [go_sem, hx]
        refine hR _ _ (kq16 _ _ ?_); clear hR R; try clear kq16 kz16
        try simp only [go_sem, hx]
        refine W_cond rfl (fun c4 => ?_) (fun c4 => ?_)
        · -- c4 true
          try simp only [nrm] at c4
          refine W_seq fun kz17 kq17 => ?_
          refine W_region [4] fun R hR => ?_   -- r11
          simp only [go_sem, hx]
          refine hR _ _ (kq17 _ _ ?_); clear hR R; try clear kq17 kz17
          try simp only [go_sem, hx]
          refine W_ret ?_
          simp only [go_sem, hx]
          refine ⟨.inr (by trivial), ?_⟩
          first | refine Fin_same hcl rfl (Wk_eq ?_ (by simp only [go_sem])) | refine Fin_self hcl rfl (Wk_eq ?_ (by simp only [go_sem]))
          try simp only [go_sem]
          all_goals
            first | rfl | (simp_all; done) | (simp_all; omega) | (rw [← hres]; simp only [chkAll]; (repeat' split) <;> ((first | rfl | omega | (simp_all; done) | (simp_all; omega))))
        · -- c4 false
          try simp only [nrm] at c4
          refine W_skip (kq13 _ _ ?_)
          refine W_region [2, 17, 18, 19] fun R hR => ?_   -- r12
          simp only [go_sem, hx]
          try simp (disch := omega) only [wrapI]
          refine hR _ _ ?_; clear hR R
          try simp only [go_sem, hx]
          refine ⟨i + 1, ?_, by (try simp only []); omega, ?_⟩
          · refine Weak.trans (Weak.cutX 1 0 (by omega) (by omega) hcl (by simp only [go_sem]) (by simp only [go_sem] <;> omega)) ?_
            simp only [go_sem]
            exact Weak.eq (by first | rfl | (simp only [go_sem]; done) | (simp only [go_sem]; rfl) | (simp [go_sem]; done) | (simp [go_sem]; omega)) (by first | rfl | (simp only [go_sem]; done) | (simp [go_sem]; done))
          · try dsimp only
            exact ⟨hi', by simp_all⟩
      · -- c3 false
        try simp only [nrm] at c3
        have hdrop : l.drop i = [] := List.drop_eq_nil_of_le (by omega)
        rw [hdrop] at hinv
        simp only [chkBands] at hinv
        refine W_exit ?_
        simp only [go_sem]
        refine kq9 _ _ ?_
        refine W_seq fun kz18 kq18 => ?_
        refine W_region [4] fun R hR => ?_   -- r13
        simp only [go_sem]
        refine hR _ _ (kq18 _ _ ?_); clear hR R; try clear kq18 kz18
        try simp only [go_sem]
        refine W_ret ?_
        simp only [go_sem]
        refine ⟨.inr (by trivial), ?_⟩
        first | refine Fin_same hcl rfl (Wk_eq ?_ (by simp only [go_sem])) | refine Fin_self hcl rfl (Wk_eq ?_ (by simp only [go_sem]))
        try simp only [go_sem]
        all_goals
          first | rfl | (simp_all; done) | (simp_all; omega) | (rw [← hres]; simp only [chkAll]; (repeat' split) <;> ((first | rfl | omega | (simp_all; done) | (simp_all; omega))))
end Go.Proofs.Ytnpamcpoaklgeaa
namespace Go.Proofs.Ytnpamcpoaklgeaa
open Go Go.RowKit
set_option maxRecDepth 100000
theorem starts_pc (Y : YEnv) (σ : Sg) (a b c d e f : PV) : PC Try.prog Y 88 [.agg [a, b, c, d, e, f]] σ (.func (.func 125) [] [.ptr σ.store.length 0]) (σ.ext [some [a, b, c, d, e, f]] []) := by
  refine PC_of_W Try.func88 rfl (by kernel_rfl) Try.ntmps88 (by simp) fun hcl hca => ?_
  refine W_seq fun K1 h1 => ?_
  refine W_region [1] fun K2 h2 => ?_
  simp only [go_sem]
  refine h2 _ _ (h1 _ _ ?_); clear h1 h2 K1 K2
  refine W_seq fun K1 h1 => ?_
  refine W_region [2] fun K2 h2 => ?_
  simp only [go_sem]
  refine h2 _ _ (h1 _ _ ?_); clear h1 h2 K1 K2
  simp only [go_sem]
  refine W_ret ⟨.inr rfl, ?_⟩
  refine Fin_ext 1 0 hcl rfl (Wk.of_clean (.func _ _ _ Clean.all_nil (Clean.all_cons (.ptr _ _ (by omega)) Clean.all_nil))) ?_
  intro cs hcs p hp
  have hcs' : cs = [a, b, c, d, e, f] := by simpa using hcs
  have hp' : p ∈ [a, b, c, d, e, f] := hcs' ▸ hp
  have := hca (.agg [a, b, c, d, e, f]) (by simp)
  cases this with
  | agg _ hh => exact (hh p hp').mono (Nat.le_add_right _ _) (Nat.le_add_right _ _) (Nat.le_refl _)
theorem starts1_pc (Y : YEnv) (y id : Nat) (a b e f : PV) (lo hi : Int) (τ : Int → Sg) (hlo : -2 ^ 63 ≤ lo) (hhi : hi < 2 ^ 63 - 1) (hm : lo ≤ hi + 1)
    (hst : ∀ s, lo ≤ s → s ≤ hi + 1 → (τ s).store[id]? = some (some [a, b, .int .i64 lo, .int .i64 hi, e, f]))
    (hY : ∀ s, lo ≤ s → s ≤ hi → Y y [.int .i64 s] (τ s) true (τ (s + 1))) (hlen : (τ (hi + 1)).store.length = (τ lo).store.length) (hr : (τ (hi + 1)).rooms.length = (τ lo).rooms.length) (hy : (τ (hi + 1)).ys.length = (τ lo).ys.length)
    (hcl' : CleanSg (τ lo) → CleanSg (τ (hi + 1))) : PC Try.prog Y 125 [.yield y, .ptr id 0] (τ lo) (.tuple []) (τ (hi + 1)) := by
  refine PC_of_W Try.func125 rfl (by kernel_rfl) Try.ntmps125 (by simp) fun hcl hca => ?_
  refine W_seq fun K1 h1 => ?_
  refine W_region [0, 1, 3] fun K2 h2 => ?_
  have hs0 := hst lo (by omega) (by omega)
  simp only [go_sem, ldS_at hs0]
  refine h2 _ _ (h1 _ _ ?_); clear h1 h2 K1 K2
  refine W_block ?_
  simp only [go_sem]
  refine W_loopK (fun k E σ' => ∃ s, (k : Int) = hi + 1 - s ∧ lo ≤ s ∧ s ≤ hi + 1 ∧ E = [(0, .yield y), (1, .ptr id 0), (3, .int .i64 s)] ∧ σ' = τ s) (hi + 1 - lo).toNat ⟨lo, by omega, by omega, by omega, rfl, rfl⟩ ?_
  rintro k E σ' ⟨s, hk, hs1, hs2, rfl, rfl⟩
  have hs := hst s hs1 hs2
  refine W_seq fun K1 h1 => ?_
  refine W_seq fun K3 h3 => ?_
  refine W_region [0, 1, 3, 16] fun K2 h2 => ?_
  simp only [go_sem, ldS_at hs]
  refine GWant_split (fun c => ?_) (fun c => ?_)
  · simp only [go_sem, c]
    refine GYield_of (hY s hs1 (by simpa using c)) ?_
    simp only [go_sem, c]
    refine h2 _ _ (h3 _ _ ?_); clear h2 h3 K2 K3
    simp only [go_sem]
    refine W_cond_true rfl (W_skip ?_)
    refine h1 _ _ ?_; clear h1 K1
    refine W_seq fun K1 h1 => ?_
    refine W_block (W_skip (h1 _ _ ?_)); clear h1 K1
    refine W_region [0, 1, 3] fun K2 h2 => ?_
    have hsh : s ≤ hi := by simpa using c
    simp only [go_sem]
    refine h2 _ _ ?_
    simp only [go_sem]
    rw [wrap_i64_id (by omega) (by omega)]
    exact ⟨k - 1, by omega, s + 1, by omega, by omega, by omega, rfl, rfl⟩
  · simp only [go_sem, c]
    refine h2 _ _ (h3 _ _ ?_); clear h2 h3 K2 K3
    simp only [go_sem]
    refine W_cond_false rfl (W_exit ?_)
    simp only [go_sem]
    have : s = hi + 1 := by simp at c; omega
    subst this
    refine ⟨.inl (by trivial), Fin_end (hcl' hcl) hlen hr hy rfl (Wk.of_clean (.tuple _ Clean.all_nil))⟩
end Go.Proofs.Ytnpamcpoaklgeaa
namespace Go.Proofs.Ytnpamcpoaklgeaa
open Go Go.RowKit
set_option maxRecDepth 100000
/-- One start of the second band more. -/
def crStep (X : Int → Int → Bool) (i j : Int) (p : Bool × Bool) : Bool × Bool := (p.1 || X i j, p.2 && X i j)
def crRow (X : Int → Int → Bool) (blo bhi i : Int) (p : Bool × Bool) : Bool × Bool := upTo (crStep X i) blo (bhi + 1) p
def crAll (X : Int → Int → Bool) (alo ahi blo bhi : Int) : Bool × Bool := upTo (crRow X blo bhi) alo (ahi + 1) (false, true)
def crossOf (X : Int → Int → Bool) (alo ahi blo bhi : Int) : Int := if (crAll X alo ahi blo bhi).2 then 1 else if (crAll X alo ahi blo bhi).1 then 3 else 2
section
variable (X : Int → Int → Bool) (c0 c1 c2 c3 c4 c5 a0 a1 a4 a5 b0 b1 b4 b5 : PV) (alo ahi blo bhi : Int)
theorem cross_pc (hal : -2 ^ 63 ≤ alo) (hah : ahi < 2 ^ 63 - 1) (ham : alo ≤ ahi + 1) (hbl : -2 ^ 63 ≤ blo) (hbh : bhi < 2 ^ 63 - 1) (hbm : blo ≤ bhi + 1)
    (hX : ∀ (Y : YEnv) (σ : Sg) (i j : Int), alo ≤ i → i ≤ ahi → blo ≤ j → j ≤ bhi → PC Try.prog Y 104 [.agg [c0, c1, c2, c3, c4, c5], .agg [a0, a1, I alo, I ahi, a4, a5], .agg [b0, b1, I blo, I bhi, b4, b5], I i, I j] σ (.bool (X i j)) σ)
    (Y : YEnv) (σ : Sg) : PC Try.prog Y 67 [.agg [c0, c1, c2, c3, c4, c5], .agg [a0, a1, I alo, I ahi, a4, a5], .agg [b0, b1, I blo, I bhi, b4, b5]] σ (I (crossOf X alo ahi blo bhi)) σ := by
  refine PC_of_W Try.func67 rfl (by kernel_rfl) Try.ntmps67 (by simp) fun hcl hca => ?_
  have hcc := hca _ (List.mem_cons_self ..)
  have hac := hca _ (List.mem_cons_of_mem _ (List.mem_cons_self ..))
  have hbc := hca _ (List.mem_cons_of_mem _ (List.mem_cons_of_mem _ (List.mem_cons_self ..)))
  clear hca
  refine W_seq fun K1 h1 => ?_
  refine W_region [3, 4, 5, 6] fun R hR => ?_
  simp only [go_sem]
  refine hR _ _ (h1 _ _ ?_); clear h1 hR K1 R
  refine W_seq fun K1 h1 => ?_
  refine W_region [3, 4, 5, 6, 7, 8] fun R hR => ?_
  simp only [go_sem]
  refine hR _ _ (h1 _ _ ?_); clear h1 hR K1 R
  refine W_seq fun K1 h1 => ?_
  refine W_seq fun K2 h2 => ?_
  refine W_region [3, 4, 5, 6, 7, 8, 13] fun R hR => ?_
  simp only [go_sem]
  refine GCall_of (starts_pc Y _ _ _ _ _ _ _) ?_
  simp only [go_sem, Sg.ext_ext]
  refine hR _ _ (h2 _ _ ?_); clear hR h2 K2 R
  refine W_block ?_
  simp only [go_sem]
  -- the outer loop
  let L : Bool × Bool → List (Option (List PV)) := fun p => [some [c0, c1, c2, c3, c4, c5], some [a0, a1, I alo, I ahi, a4, a5], some [b0, b1, I blo, I bhi, b4, b5], some [.bool p.1], some [.bool p.2], some [a0, a1, I alo, I ahi, a4, a5]]
  let so : Int → Sg := fun i => σ.ext (L (upTo (crRow X blo bhi) alo i (false, true))) [] [.ready]
  have hLc : ∀ p (n r y : Nat), σ.store.length ≤ n → σ.rooms.length ≤ r → σ.ys.length ≤ y → ∀ cs, some cs ∈ L p → ∀ q, q ∈ cs → Clean n r y q := fun p n r y h1 h2 h3 =>
    CleanL_cons (hcc.cells_of h1 h2 h3) (CleanL_cons (hac.cells_of h1 h2 h3) (CleanL_cons (hbc.cells_of h1 h2 h3) (CleanL_cons (Clean.all_cons (.bool _) Clean.all_nil) (CleanL_cons (Clean.all_cons (.bool _) Clean.all_nil) (CleanL_cons (hac.cells_of h1 h2 h3) CleanL_nil)))))
  refine W_rangeFunc (gf := 125) (v := .tuple []) (s := .ready) (σ5 := so (ahi + 1)) rfl (by simp) (fun args τ b τ' => ∃ i, alo ≤ i ∧ i ≤ ahi ∧ args = [I i] ∧ b = true ∧ τ = so i ∧ τ' = so (i + 1)) ?_ ?_ ?_ ?_ ?_
  · rintro args τ b τ' ⟨i, hi1, hi2, rfl, rfl, rfl, rfl⟩
    refine ⟨rfl, ?_, ?_⟩
    · simp only [so, go_sem]
    · simp only [so, L, go_sem]
      refine W_region [3, 4, 5, 6, 7, 8, 9] fun R hR => ?_
      simp only [go_sem, putAll]
      refine hR _ _ ?_; clear hR R
      simp only [go_sem]
      -- the inner loop
      obtain ⟨p, hp⟩ : ∃ p, p = upTo (crRow X blo bhi) alo i (false, true) := ⟨_, rfl⟩
      rw [upTo_step _ hi1, ← hp]
      have hLc' : ∀ p (n r y : Nat), σ.store.length ≤ n → σ.rooms.length ≤ r → σ.ys.length ≤ y → ∀ cs, some cs ∈ (L p ++ [some [I i], some [b0, b1, I blo, I bhi, b4, b5]]) → ∀ q, q ∈ cs → Clean n r y q := fun p n r y h1 h2 h3 =>
        CleanL_cons (hcc.cells_of h1 h2 h3) (CleanL_cons (hac.cells_of h1 h2 h3) (CleanL_cons (hbc.cells_of h1 h2 h3) (CleanL_cons (Clean.all_cons (.bool _) Clean.all_nil) (CleanL_cons (Clean.all_cons (.bool _) Clean.all_nil) (CleanL_cons (hac.cells_of h1 h2 h3)
          (CleanL_cons (Clean.all_cons (.int _ _) Clean.all_nil) (CleanL_cons (hbc.cells_of h1 h2 h3) CleanL_nil)))))))
      refine W_post_weak ?_
      refine W_block ?_
      refine W_seq fun K2 h2 => ?_
      refine W_region [3, 4, 5, 6, 7, 8, 9, 16] fun R hR => ?_
      simp only [go_sem]
      refine GCall_of (starts_pc Y _ _ _ _ _ _ _) ?_
      simp only [go_sem]
      refine hR _ _ (h2 _ _ ?_); clear hR h2 K2 R
      refine W_block ?_
      simp only [go_sem]
      let si : Int → Sg := fun j => σ.ext (L (upTo (crStep X i) blo j p) ++ [some [I i], some [b0, b1, I blo, I bhi, b4, b5]]) [] [.busy, .ready]
      refine W_rangeFunc (gf := 125) (v := .tuple []) (s := .ready) (σ5 := si (bhi + 1)) rfl (by simp) (fun args τ b τ' => ∃ j, blo ≤ j ∧ j ≤ bhi ∧ args = [I j] ∧ b = true ∧ τ = si j ∧ τ' = si (j + 1)) ?_ ?_ ?_ ?_ ?_
      · rintro args τ b τ' ⟨j, hj1, hj2, rfl, rfl, rfl, rfl⟩
        refine ⟨rfl, ?_, ?_⟩
        · simp only [si, go_sem]
        · simp only [si, L, go_sem]
          refine W_region [3, 4, 5, 6, 7, 8, 9, 10] fun R hR => ?_
          simp only [go_sem, putAll]
          refine hR _ _ ?_; clear hR R
          simp only [go_sem]
          obtain ⟨q, hq⟩ : ∃ q, q = upTo (crStep X i) blo j p := ⟨_, rfl⟩
          rw [upTo_step _ hj1, ← hq]
          refine W_block ?_
          refine W_seq fun K2 h2 => ?_
          refine W_region [7, 8, 11] fun R hR => ?_
          simp only [go_sem]
          refine GCall_of (hX Y _ i j hi1 hi2 hj1 hj2) ?_
          simp only [go_sem]
          refine hR _ _ (h2 _ _ ?_); clear hR h2 K2 R
          refine W_region [] fun R hR => ?_
          simp only [go_sem]
          have fin : ∀ E, R E (σ.ext (L (crStep X i j q) ++ [some [I i], some [b0, b1, I blo, I bhi, b4, b5]]) [] [.busy, .busy]) := by
            intro E
            refine hR E _ ?_
            simp only [L, go_sem]
            refine ⟨?_, rfl, ?_⟩ <;> simp only [go_sem]
          clear hR hq
          obtain ⟨q1, q2⟩ := q
          simp only [crStep, L] at fin
          generalize X i j = x at fin ⊢
          cases q1 <;> cases q2 <;> cases x <;> simp only [go_sem] at fin ⊢ <;> exact fin _
      · have hst := starts1_pc (Y.at (σ.ys.length + 1) (fun args τ b τ' => ∃ j, blo ≤ j ∧ j ≤ bhi ∧ args = [I j] ∧ b = true ∧ τ = si j ∧ τ' = si (j + 1))) (σ.ys.length + 1) (σ.store.length + 7) b0 b1 b4 b5 blo bhi si hbl hbh hbm
          (fun s _ _ => by simp only [si, L]; exact Sg.get_ext ..) (fun s h1 h2 => by rw [YEnv.at_self]; exact ⟨s, h1, h2, rfl, rfl, rfl, rfl⟩) (by simp only [si, L, go_sem]) (by simp only [si, L, go_sem]) (by simp only [si, L, go_sem])
          (fun _ => CleanSg_ext hcl (hLc' _ _ _ _ (Nat.le_add_right _ _) (Nat.le_add_right _ _) (Nat.le_add_right _ _)))
        have e0 : si blo = σ.ext (L p ++ [some [I i], some [b0, b1, I blo, I bhi, b4, b5]]) [] [.busy, .ready] := by simp only [si]; rw [upTo_start]
        rw [e0] at hst
        simp only [L, go_sem] at hst ⊢
        exact hst
      · simp only [si, L, go_sem]
      · simp only [go_sem]
        exact CleanCut_ext hcl (by simp only [si, L, go_sem]; omega) (by simp only [si, L, go_sem, Nat.le_add_right]) (by omega) (hLc' _ _ _ _ (by simp only [si, L, go_sem]; omega) (by simp only [si, L, go_sem, Nat.le_add_right]) (by omega))
      · simp only [AfterLoop, si, L, go_sem]
        refine ⟨[], _, Weak.cutExt 6 0 (Nat.le_refl _) (Nat.le_refl _) hcl ?_ Wk.nil_get, ?_⟩
        · exact hLc _ _ _ _ (by omega) (by omega) (by omega)
        · simp only [RoundEnd, go_sem]
          simp only [so, L, crRow]
  · have hst := starts1_pc (Y.at σ.ys.length (fun args τ b τ' => ∃ i, alo ≤ i ∧ i ≤ ahi ∧ args = [I i] ∧ b = true ∧ τ = so i ∧ τ' = so (i + 1))) σ.ys.length (σ.store.length + 5) a0 a1 a4 a5 alo ahi so hal hah ham
      (fun s _ _ => by simp only [so, L]; exact Sg.get_ext ..) (fun s h1 h2 => by rw [YEnv.at_self]; exact ⟨s, h1, h2, rfl, rfl, rfl, rfl⟩) (by simp only [so, L, go_sem]) (by simp only [so, L, go_sem]) (by simp only [so, L, go_sem])
      (fun _ => CleanSg_ext hcl (hLc _ _ _ _ (Nat.le_add_right _ _) (Nat.le_add_right _ _) (Nat.le_add_right _ _)))
    have e0 : so alo = σ.ext (L (false, true)) [] [.ready] := by simp only [so]; rw [upTo_start]
    rw [e0] at hst
    simp only [L, go_sem] at hst ⊢
    exact hst
  · simp only [so, L, go_sem]
  · simp only [go_sem]
    exact CleanCut_ext hcl (by simp only [so, L, go_sem]; omega) (by simp only [so, L, go_sem, Nat.le_add_right]) (by omega) (hLc _ _ _ _ (by simp only [so, L, go_sem]; omega) (by simp only [so, L, go_sem, Nat.le_add_right]) (by omega))
  · simp only [AfterLoop, so, L, go_sem]
    refine h1 _ _ ?_; clear h1 K1
    refine W_seq fun K1 h1 => ?_
    refine W_block ?_
    refine W_seq fun K2 h2 => ?_
    refine W_region [7, 32] fun R hR => ?_
    simp only [go_sem]
    refine hR _ _ (h2 _ _ ?_); clear hR h2 K2 R
    have hres : crossOf X alo ahi blo bhi = if (crAll X alo ahi blo bhi).2 then 1 else if (crAll X alo ahi blo bhi).1 then 3 else 2 := rfl
    unfold crAll at hres
    generalize upTo (crRow X blo bhi) alo (ahi + 1) (false, true) = p at hres ⊢
    obtain ⟨p1, p2⟩ := p
    simp only [go_sem] at hres ⊢
    refine W_cond rfl (fun c => ?_) (fun c => ?_)
    · subst c
      refine W_seq fun K2 h2 => ?_
      refine W_region [6] fun R hR => ?_
      simp only [go_sem]
      refine hR _ _ (h2 _ _ ?_); clear hR h2 K2 R
      refine W_ret ?_
      simp only [go_sem]
      refine ⟨.inr (by trivial), Fin_same hcl rfl ?_⟩
      rw [hres]
      exact Wk.of_clean (.int _ _)
    · subst c
      refine W_seq fun K2 h2 => ?_
      refine W_region [34] fun R hR => ?_
      simp only [go_sem]
      refine hR _ _ (h2 _ _ ?_); clear hR h2 K2 R
      refine W_cond rfl (fun c => ?_) (fun c => ?_)
      · subst c
        refine W_seq fun K2 h2 => ?_
        refine W_region [6] fun R hR => ?_
        simp only [go_sem]
        refine hR _ _ (h2 _ _ ?_); clear hR h2 K2 R
        refine W_ret ?_
        simp only [go_sem]
        refine ⟨.inr (by trivial), Fin_same hcl rfl ?_⟩
        rw [hres]
        exact Wk.of_clean (.int _ _)
      · subst c
        refine W_skip ?_
        simp only [go_sem]
        refine h1 _ _ ?_; clear h1 K1
        refine W_seq fun K2 h2 => ?_
        refine W_region [6] fun R hR => ?_
        simp only [go_sem]
        refine hR _ _ (h2 _ _ ?_); clear hR h2 K2 R
        refine W_ret ?_
        simp only [go_sem]
        refine ⟨.inr (by trivial), Fin_same hcl rfl ?_⟩
        rw [hres]
        exact Wk.of_clean (.int _ _)
end
end Go.Proofs.Ytnpamcpoaklgeaa
namespace Go.Proofs.Ytnpamcpoaklgeaa
open Go Go.RowKit
set_option maxRecDepth 100000
structure Vis where
  lo : Int
  hi : Int
  sq : Int
def vsPV (v : Vis) : PV := .agg [I v.lo, I v.hi, I v.sq]
theorem okC_vs {xs : List Vis} : okC 3 (xs.map vsPV) = True := okC_map fun x => by simp [okC, vsPV, PV.cells, PV.scalar]
theorem roL_vs {xs : List Vis} : PV.roL (xs.map vsPV) = xs.map vsPV := roL_enc fun x => by simp only [vsPV, ro_agg, roL_cons, roL_nil, ro_int]
theorem cA_vs {a b c : Nat} {xs : List Vis} : CleanAll a b c (xs.map vsPV) = True := CleanAll_map fun x => by simp only [vsPV, go_sem]
attribute [go_sem] vsPV okC_vs roL_vs cA_vs
def visFrom (start stay : Int) : Nat → List Int → List Vis
  | _, [] => []
  | k, s :: r => ⟨start + (k : Int) * stay, start + (k : Int) * stay + stay - 1, s⟩ :: visFrom start stay (k + 1) r
def visOf (c : City) (b : Band) (start : Int) : List Vis := visFrom start b.stay 0 (sqs c b).1
theorem walkSq_len (st : List (Int × Int)) : ∀ (l : List Int) (a : Int) (out : List Int), (walkSq st l a out).1.length ≤ out.length + l.length := by
  intro l
  induction l with
  | nil => intro a out; simp [walkSq]
  | cons n r ih =>
    intro a out
    simp only [walkSq]
    split
    · simp
    · split
      · simp
      · rename_i s _
        split
        · have := ih s.2 (out ++ [s.2]); simp at this ⊢; omega
        · split
          · have := ih s.1 (out ++ [s.1]); simp at this ⊢; omega
          · simp
theorem sqs_len (c : City) (b : Band) : (sqs c b).1.length ≤ 13 ∧ (sqs c b).1.length ≤ b.path.length + 1 := by
  unfold sqs
  split
  · simp
  · split
    · simp
    · have := walkSq_len c.town.streets b.path b.first [b.first]
      simp at this
      constructor <;> omega
theorem visFrom_len (start stay : Int) : ∀ (l : List Int) (k : Nat), (visFrom start stay k l).length = l.length := by
  intro l
  induction l with
  | nil => intro k; rfl
  | cons s r ih => intro k; simp [visFrom, ih]
def Vis.Ok (v : Vis) : Prop := -2 ^ 41 ≤ v.lo ∧ v.lo ≤ 2 ^ 41 ∧ -2 ^ 41 ≤ v.hi ∧ v.hi ≤ 2 ^ 41
theorem visFrom_ok {start stay : Int} (h1 : -2 ^ 40 ≤ start) (h2 : start ≤ 2 ^ 40) (h3 : 0 ≤ stay) (h4 : stay ≤ 1000) : ∀ (l : List Int) (k : Nat), k + l.length ≤ 1000 → ∀ v, v ∈ visFrom start stay k l → v.Ok := by
  intro l
  induction l with
  | nil => intro k _ v hv; simp [visFrom] at hv
  | cons s r ih =>
    intro k hk v hv
    simp only [visFrom, List.mem_cons] at hv
    simp at hk
    rcases hv with rfl | hv
    · have := mul_bd (a := (k : Int)) (b := stay) (A := 1000) (B := 1000) (by omega) (by omega) h3 h4
      refine ⟨?_, ?_, ?_, ?_⟩ <;> simp only [] <;> omega
    · exact ih (k + 1) (by omega) v hv
set_option maxHeartbeats 2000000 in
theorem visits_pc (Y : YEnv) (σ : Sg) (ct : City) (b : Band) (start : Int) (hc : ct.Ok) (hb : b.path.length < 2 ^ 50) (h1 : -2 ^ 40 ≤ start) (h2 : start ≤ 2 ^ 40) (h3 : 0 ≤ b.stay) (h4 : b.stay ≤ 1000) :
    PC Try.prog Y 90 [ctPV ct, bdPV b, I start] σ (.isl ((visOf ct b start).map vsPV) .ro) (σ) := by
  refine PC_of_W Try.func90 rfl (by kernel_rfl) Try.ntmps90 (by simp) fun hcl hca => ?_
  have hl := sqs_len ct b
  refine W_seq fun kz1 kq1 => ?_
  refine W_region [2, 3, 4] fun R hR => ?_   -- r0
  simp only [go_sem]
  refine hR _ _ (kq1 _ _ ?_); clear hR R; try clear kq1 kz1
  try simp only [go_sem]
  refine W_seq fun kz2 kq2 => ?_
  refine W_region [2, 4, 7] fun R hR => ?_   -- r1
  simp only [go_sem]
  refine GCall_of (squares_pc Y _ ct b hc hb) ?_   -- t16
  simp only [go_sem]
  refine hR _ _ (kq2 _ _ ?_); clear hR R; try clear kq2 kz2
  try simp only [go_sem]
  refine W_seq fun kz3 kq3 => ?_
  refine W_region [2, 4, 7, 9] fun R hR => ?_   -- r2
  simp only [go_sem]
  refine hR _ _ (kq3 _ _ ?_); clear hR R; try clear kq3 kz3
  try simp only [go_sem]
  refine W_seq fun kz4 kq4 => ?_
  refine W_seq fun kz5 kq5 => ?_
  refine W_region [2, 4, 9, 19, 20, 21] fun R hR => ?_   -- r3
  simp only [go_sem]
  refine hR _ _ (kq5 _ _ ?_); clear hR R; try clear kq5 kz5
  try simp only [go_sem]
  refine W_block ?_
  refine W_weak (Weak.room (t := 9) (es := 3) rfl (by simp)) ?_
  refine W_weak (Weak.keep [2, 4, 9, 19, 20, 21]) ?_
  simp only [go_sem]
  refine W_loopT (α := Nat × (List Vis)) (fun ⟨i, out⟩ => [(9, .isl (out.map vsPV) (.tok σ.rooms.length out.length 3)), (21, I i)]) (fun ⟨i, out⟩ => σ.ext [some (ctCells ct), some (bdCells b)] [out.length]) (fun ⟨i, out⟩ => i ≤ (sqs ct b).1.length ∧ out.length = i ∧ visOf ct b start = out ++ visFrom start b.stay i ((sqs ct b).1.drop i)) (fun ⟨i, out⟩ => (sqs ct b).1.length - i) ((0, [])) rfl (by first | rfl | (simp only [go_sem]; done) | (simp only [go_sem]; rfl)) (⟨Nat.zero_le _, rfl, rfl⟩) ?_
  rintro ⟨i, out⟩ ⟨hi, ho, hinv⟩
  have hm := mul_bd (a := (i : Int)) (b := b.stay) (A := 13) (B := 1000) (by omega) (by omega) h3 h4
  refine W_seq fun kz6 kq6 => ?_
  refine W_region [2, 4, 9, 19, 20, 21, 22] fun R hR => ?_   -- r4
  simp only [go_sem]
  refine hR _ _ (kq6 _ _ ?_); clear hR R; try clear kq6 kz6
  try simp only [go_sem]
  refine W_seq fun kz7 kq7 => ?_
  refine W_cond rfl (fun c1 => ?_) (fun c1 => ?_)
  · -- c1 true
    try simp only [nrm] at c1
    have hi' : i < (sqs ct b).1.length := by first | assumption | omega
    obtain ⟨s, hx⟩ : ∃ s, (sqs ct b).1[i]? = some s := ⟨(sqs ct b).1[i], by simp [hi']⟩
    have hdrop : (sqs ct b).1.drop i = s :: (sqs ct b).1.drop (i + 1) := by
      rw [List.drop_eq_getElem_cons hi']; congr 1; exact (List.getElem?_eq_some_iff.1 hx).2
    rw [hdrop] at hinv
    simp only [visFrom] at hinv
    refine W_skip (kq7 _ _ ?_)
    refine W_seq fun kz8 kq8 => ?_
    refine W_block ?_
    refine W_seq fun kz9 kq9 => ?_
    refine W_region [2, 4, 9, 10, 11, 19, 20, 21] fun R hR => ?_   -- r5
    simp only [go_sem, hx]
    refine hR _ _ (kq9 _ _ ?_); clear hR R; try clear kq9 kz9
    try simp only [go_sem, hx]
    refine W_seq fun kz10 kq10 => ?_
    refine W_region [2, 4, 9, 11, 12, 19, 20, 21] fun R hR => ?_   -- r6
    simp only [go_sem, hx]
    try simp (disch := omega) only [wrapI]
    refine hR _ _ (kq10 _ _ ?_); clear hR R; try clear kq10 kz10
    try simp only [go_sem, hx]
    refine W_region [2, 4, 9, 19, 20, 21] fun R hR => ?_   -- r7
    simp only [go_sem, hx]
    simp (disch := first | omega | (simp only [go_sem] <;> omega)) only [wrapI, appX_exact, appX_tok]
    try simp only [go_sem, hx]
    refine hR _ _ (kq8 _ _ ?_); clear hR R; try clear kq8 kz8
    try simp only [go_sem, hx]
    refine W_region [2, 4, 9, 19, 20, 21] fun R hR => ?_   -- r8
    simp only [go_sem, hx]
    try simp (disch := omega) only [wrapI]
    refine hR _ _ ?_; clear hR R
    try simp only [go_sem, hx]
    refine ⟨(i + 1, out ++ [⟨start + (i : Int) * b.stay, start + (i : Int) * b.stay + b.stay - 1, s⟩]), ?_, by (try simp only []); omega, ?_⟩
    · first | exact Weak.refl | exact Weak.eq (by first | rfl | (simp only [go_sem]; done) | (simp only [go_sem]; rfl) | (simp [go_sem]; done) | (simp [go_sem]; omega)) (by first | rfl | (simp only [go_sem]; done) | (simp [go_sem]; done))
    · try dsimp only
      exact ⟨hi', by simp [ho], by rw [hinv]; simp⟩
  · -- c1 false
    try simp only [nrm] at c1
    have hdrop : (sqs ct b).1.drop i = [] := List.drop_eq_nil_of_le (by omega)
    rw [hdrop] at hinv
    simp only [visFrom, List.append_nil] at hinv
    refine W_exit ?_
    simp only [go_sem]
    refine kq4 _ _ ?_
    refine W_seq fun kz11 kq11 => ?_
    refine W_region [6] fun R hR => ?_   -- r9
    simp only [go_sem]
    refine hR _ _ (kq11 _ _ ?_); clear hR R; try clear kq11 kz11
    try simp only [go_sem]
    refine W_ret ?_
    simp only [go_sem]
    refine ⟨.inr (by trivial), ?_⟩
    refine Fin_same hcl rfl (Wk.ro (by simp only [go_sem]) ?_)
    try simp only [go_sem]
    all_goals
      rw [hinv]
def nearOf (brk : Int) (a b : Vis) : Bool :=
  if a.sq ≠ b.sq then false else if b.lo < a.lo then (decide (a.lo ≤ b.hi) || decide (a.lo - (b.hi + 1) < brk)) else (decide (b.lo ≤ a.hi) || decide (b.lo - (a.hi + 1) < brk))
set_option maxHeartbeats 2000000 in
theorem near_pc (Y : YEnv) (σ : Sg) (ct : City) (a b : Vis) (ha : a.Ok) (hb : b.Ok) :
    PC Try.prog Y 132 [ctPV ct, vsPV a, vsPV b] σ (.bool (nearOf ct.brk a b)) (σ) := by
  refine PC_of_W Try.func132 rfl (by kernel_rfl) Try.ntmps132 (by simp) fun hcl hca => ?_
  obtain ⟨ha1, ha2, ha3, ha4⟩ := ha
  obtain ⟨hb1, hb2, hb3, hb4⟩ := hb
  refine W_seq fun kz1 kq1 => ?_
  refine W_region [3, 4, 5] fun R hR => ?_   -- r0
  simp only [go_sem]
  refine hR _ _ (kq1 _ _ ?_); clear hR R; try clear kq1 kz1
  try simp only [go_sem]
  refine W_seq fun kz2 kq2 => ?_
  refine W_seq fun kz3 kq3 => ?_
  refine W_region [3, 4, 5, 11] fun R hR => ?_   -- r1
  simp only [go_sem]
  refine hR _ _ (kq3 _ _ ?_); clear hR R; try clear kq3 kz3
  try simp only [go_sem]
  refine W_cond rfl (fun c1 => ?_) (fun c1 => ?_)
  · -- c1 true
    try simp only [nrm] at c1
    refine W_seq fun kz4 kq4 => ?_
    refine W_region [6] fun R hR => ?_   -- r2
    simp only [go_sem]
    refine hR _ _ (kq4 _ _ ?_); clear hR R; try clear kq4 kz4
    try simp only [go_sem]
    refine W_ret ?_
    simp only [go_sem]
    refine ⟨.inr (by trivial), ?_⟩
    first | refine Fin_same hcl rfl (Wk_eq ?_ (by simp only [go_sem])) | refine Fin_self hcl rfl (Wk_eq ?_ (by simp only [go_sem]))
    try simp only [go_sem]
    all_goals
      simp only [nearOf, ite_not]; (repeat' split) <;> first | rfl | omega | (simp; omega) | (simp_all; done) | (simp_all; omega)
  · -- c1 false
    try simp only [nrm] at c1
    refine W_skip (kq2 _ _ ?_)
    refine W_seq fun kz5 kq5 => ?_
    refine W_seq fun kz6 kq6 => ?_
    refine W_region [3, 4, 5, 18] fun R hR => ?_   -- r3
    simp only [go_sem]
    refine hR _ _ (kq6 _ _ ?_); clear hR R; try clear kq6 kz6
    try simp only [go_sem]
    refine W_cond rfl (fun c2 => ?_) (fun c2 => ?_)
    · -- c2 true
      try simp only [nrm] at c2
      refine W_region [3, 4, 5] fun R hR => ?_   -- r4
      simp only [go_sem]
      refine hR _ _ (kq5 _ _ ?_); clear hR R; try clear kq5 kz5
      try simp only [go_sem]
      refine W_seq fun kz7 kq7 => ?_
      refine W_region [6] fun R hR => ?_   -- r5
      simp only [go_sem]
      refine GWant_split (fun g1 => ?_) (fun g1 => ?_)
      · try simp only [Bool.not_eq_true', Bool.not_eq_false'] at g1
        have n1 := g1; try simp only [nrm] at n1
        simp only [go_sem, g1]
        try simp (disch := omega) only [wrapI]
        refine hR _ _ (kq7 _ _ ?_); clear hR R; try clear kq7 kz7
        try simp only [go_sem]
        refine W_ret ?_
        simp only [go_sem]
        refine ⟨.inr (by trivial), ?_⟩
        first | refine Fin_same hcl rfl (Wk_eq ?_ (by simp only [go_sem])) | refine Fin_self hcl rfl (Wk_eq ?_ (by simp only [go_sem]))
        try simp only [go_sem]
        all_goals
          simp only [nearOf, ite_not]; (repeat' split) <;> first | rfl | omega | (simp; omega) | (simp_all; done) | (simp_all; omega)
      · try simp only [Bool.not_eq_true', Bool.not_eq_false'] at g1
        have n1 := g1; try simp only [nrm] at n1
        simp only [go_sem, g1]
        try simp (disch := omega) only [wrapI]
        refine hR _ _ (kq7 _ _ ?_); clear hR R; try clear kq7 kz7
        try simp only [go_sem]
        refine W_ret ?_
        simp only [go_sem]
        refine ⟨.inr (by trivial), ?_⟩
        first | refine Fin_same hcl rfl (Wk_eq ?_ (by simp only [go_sem])) | refine Fin_self hcl rfl (Wk_eq ?_ (by simp only [go_sem]))
        try simp only [go_sem]
        all_goals
          simp only [nearOf, ite_not]; (repeat' split) <;> first | rfl | omega | (simp; omega) | (simp_all; done) | (simp_all; omega)
    · -- c2 false
      try simp only [nrm] at c2
      refine W_skip (kq5 _ _ ?_)
      refine W_seq fun kz8 kq8 => ?_
      refine W_region [6] fun R hR => ?_   -- r5
      simp only [go_sem]
      refine GWant_split (fun g2 => ?_) (fun g2 => ?_)
      · try simp only [Bool.not_eq_true', Bool.not_eq_false'] at g2
        have n2 := g2; try simp only [nrm] at n2
        simp only [go_sem, g2]
        try simp (disch := omega) only [wrapI]
        refine hR _ _ (kq8 _ _ ?_); clear hR R; try clear kq8 kz8
        try simp only [go_sem]
        refine W_ret ?_
        simp only [go_sem]
        refine ⟨.inr (by trivial), ?_⟩
        first | refine Fin_same hcl rfl (Wk_eq ?_ (by simp only [go_sem])) | refine Fin_self hcl rfl (Wk_eq ?_ (by simp only [go_sem]))
        try simp only [go_sem]
        all_goals
          simp only [nearOf, ite_not]; (repeat' split) <;> first | rfl | omega | (simp; omega) | (simp_all; done) | (simp_all; omega)
      · try simp only [Bool.not_eq_true', Bool.not_eq_false'] at g2
        have n2 := g2; try simp only [nrm] at n2
        simp only [go_sem, g2]
        try simp (disch := omega) only [wrapI]
        refine hR _ _ (kq8 _ _ ?_); clear hR R; try clear kq8 kz8
        try simp only [go_sem]
        refine W_ret ?_
        simp only [go_sem]
        refine ⟨.inr (by trivial), ?_⟩
        first | refine Fin_same hcl rfl (Wk_eq ?_ (by simp only [go_sem])) | refine Fin_self hcl rfl (Wk_eq ?_ (by simp only [go_sem]))
        try simp only [go_sem]
        all_goals
          simp only [nearOf, ite_not]; (repeat' split) <;> first | rfl | omega | (simp; omega) | (simp_all; done) | (simp_all; omega)
/-- The second band's visits, against one of the first band. -/
def crIn (brk : Int) (pa pb : List Int) (i : Nat) (v : Vis) : Nat → List Vis → Bool
  | _, [] => false
  | k, w :: r => if nearOf brk v w = true then true else if 0 < i ∧ 0 < k ∧ v.lo = w.lo ∧ pa[i - 1]? = pb[k - 1]? then true else crIn brk pa pb i v (k + 1) r
def crOut (brk : Int) (pa pb : List Int) (two : List Vis) : Nat → List Vis → Bool
  | _, [] => false
  | i, v :: r => if crIn brk pa pb i v 0 two = true then true else crOut brk pa pb two (i + 1) r
def crossing (c : City) (a b : Band) (m n : Int) : Bool := crOut c.brk a.path b.path (visOf c b n) 0 (visOf c a m)
set_option maxHeartbeats 2000000 in
theorem crosses_pc (Y : YEnv) (σ : Sg) (ct : City) (a b : Band) (m n : Int) (hc : ct.Ok) (ha : a.path.length < 2 ^ 50) (hb : b.path.length < 2 ^ 50) (h1 : -2 ^ 40 ≤ m) (h2 : m ≤ 2 ^ 40) (h3 : 0 ≤ a.stay) (h4 : a.stay ≤ 1000)
    (h5 : -2 ^ 40 ≤ n) (h6 : n ≤ 2 ^ 40) (h7 : 0 ≤ b.stay) (h8 : b.stay ≤ 1000) :
    PC Try.prog Y 104 [ctPV ct, bdPV a, bdPV b, I m, I n] σ (.bool (crossing ct a b m n)) (σ) := by
  refine PC_of_W Try.func104 rfl (by kernel_rfl) Try.ntmps104 (by simp) fun hcl hca => ?_
  have la := sqs_len ct a
  have lb := sqs_len ct b
  obtain ⟨one, hone⟩ : ∃ l, l = visOf ct a m := ⟨_, rfl⟩
  obtain ⟨two, htwo⟩ : ∃ l, l = visOf ct b n := ⟨_, rfl⟩
  have lo : one.length = (sqs ct a).1.length := by rw [hone]; exact visFrom_len ..
  have lt : two.length = (sqs ct b).1.length := by rw [htwo]; exact visFrom_len ..
  have oo : ∀ v, v ∈ one → v.Ok := by rw [hone]; exact visFrom_ok h1 h2 h3 h4 _ _ (by omega)
  have ot : ∀ v, v ∈ two → v.Ok := by rw [htwo]; exact visFrom_ok h5 h6 h7 h8 _ _ (by omega)
  rw [show crossing ct a b m n = crOut ct.brk a.path b.path two 0 one by rw [hone, htwo]; rfl]
  obtain ⟨res, hres⟩ : ∃ r, crOut ct.brk a.path b.path two 0 one = r := ⟨_, rfl⟩
  rw [hres]
  refine W_seq fun kz1 kq1 => ?_
  refine W_region [3, 4, 5, 6, 7] fun R hR => ?_   -- r0
  simp only [go_sem]
  refine hR _ _ (kq1 _ _ ?_); clear hR R; try clear kq1 kz1
  try simp only [go_sem]
  refine W_seq fun kz2 kq2 => ?_
  refine W_draw [5, 6, 7, 11, 12] [0, 1, 2, 3, 4, 5, 6, 7, 8, 9] [(4, 3), (5, 3), (6, 3)] [[], [], [], [0, 1, 2], [], [], [], [0, 1, 2, 3, 4, 5, 6], [0, 1, 2, 3, 4, 5, 6, 7], [0, 1, 2, 3, 4, 5, 6, 7, 8]] mixed (by kernel_rfl) fun R hR => ?_   -- r1
  simp only [go_sem]
  refine GCall_of (PC.val (v' := .isl (one.map vsPV) .ro) (visits_pc Y _ ct a m hc ha h1 h2 h3 h4) (by rw [hone])) ?_   -- t20
  simp only [go_sem]
  refine GCall_of (PC.val (v' := .isl (two.map vsPV) .ro) (visits_pc Y _ ct b n hc hb h5 h6 h7 h8) (by rw [htwo])) ?_   -- t24
  simp only [go_sem]
  refine hR _ _ (kq2 _ _ ?_); clear hR R; try clear kq2 kz2
  try simp only [go_sem]
  refine W_seq fun kz3 kq3 => ?_
  refine W_seq fun kz4 kq4 => ?_
  refine W_region [5, 6, 7, 12, 25, 26, 27] fun R hR => ?_   -- r2
  simp only [go_sem]
  refine hR _ _ (kq4 _ _ ?_); clear hR R; try clear kq4 kz4
  try simp only [go_sem]
  refine W_block ?_
  refine W_loopS (α := Nat) (fun (i : Nat) => [(27, I i)]) (fun (i : Nat) => i ≤ one.length ∧ res = crOut ct.brk a.path b.path two i (one.drop i)) (fun (i : Nat) => one.length - i) (0) rfl (⟨Nat.zero_le _, hres.symm⟩) ?_
  rintro i ⟨hi, hinv⟩
  refine W_seq fun kz5 kq5 => ?_
  refine W_region [5, 6, 7, 12, 25, 26, 27, 28] fun R hR => ?_   -- r3
  simp only [go_sem]
  refine hR _ _ (kq5 _ _ ?_); clear hR R; try clear kq5 kz5
  try simp only [go_sem]
  refine W_seq fun kz6 kq6 => ?_
  refine W_cond rfl (fun c1 => ?_) (fun c1 => ?_)
  · -- c1 true
    try simp only [nrm] at c1
    have hi' : i < one.length := by first | assumption | omega
    obtain ⟨v, hx⟩ : ∃ v, one[i]? = some v := ⟨one[i], by simp [hi']⟩
    have hdrop : one.drop i = v :: one.drop (i + 1) := by
      rw [List.drop_eq_getElem_cons hi']; congr 1; exact (List.getElem?_eq_some_iff.1 hx).2
    rw [hdrop] at hinv
    simp only [crOut] at hinv
    refine W_skip (kq6 _ _ ?_)
    refine W_seq fun kz7 kq7 => ?_
    refine W_block ?_
    refine W_seq fun kz8 kq8 => ?_
    refine W_region [5, 6, 7, 12, 13, 14, 25, 26, 27] fun R hR => ?_   -- r4
    simp only [go_sem, hx]
    refine hR _ _ (kq8 _ _ ?_); clear hR R; try clear kq8 kz8
    try simp only [go_sem, hx]
    refine W_seq fun kz9 kq9 => ?_
    refine W_region [5, 6, 7, 12, 13, 14, 25, 26, 27, 32, 33, 34] fun R hR => ?_   -- r5
    simp only [go_sem, hx]
    refine hR _ _ (kq9 _ _ ?_); clear hR R; try clear kq9 kz9
    try simp only [go_sem, hx]
    refine W_block ?_
    refine W_loopS (α := Nat) (fun (k : Nat) => [(34, I k)]) (fun (k : Nat) => k ≤ two.length ∧ crIn ct.brk a.path b.path i v 0 two = crIn ct.brk a.path b.path i v k (two.drop k)) (fun (k : Nat) => two.length - k) (0) rfl (⟨Nat.zero_le _, rfl⟩) ?_
    rintro k ⟨hk, hin⟩
    refine W_seq fun kz10 kq10 => ?_
    refine W_region [5, 6, 7, 12, 13, 14, 25, 26, 27, 32, 33, 34, 35] fun R hR => ?_   -- r6
    simp only [go_sem, hx]
    refine hR _ _ (kq10 _ _ ?_); clear hR R; try clear kq10 kz10
    try simp only [go_sem, hx]
    refine W_seq fun kz11 kq11 => ?_
    refine W_cond rfl (fun c2 => ?_) (fun c2 => ?_)
    · -- c2 true
      try simp only [nrm] at c2
      have hk' : k < two.length := by first | assumption | omega
      obtain ⟨w, hy⟩ : ∃ w, two[k]? = some w := ⟨two[k], by simp [hk']⟩
      have hdrop2 : two.drop k = w :: two.drop (k + 1) := by
        rw [List.drop_eq_getElem_cons hk']; congr 1; exact (List.getElem?_eq_some_iff.1 hy).2
      rw [hdrop2] at hin
      simp only [crIn] at hin
      refine W_skip (kq11 _ _ ?_)
      refine W_seq fun kz12 kq12 => ?_
      refine W_block ?_
      refine W_seq fun kz13 kq13 => ?_
      refine W_region [5, 6, 7, 12, 13, 14, 15, 16, 25, 26, 27, 32, 33, 34] fun R hR => ?_   -- r7
      simp only [go_sem, hx, hy]
      refine hR _ _ (kq13 _ _ ?_); clear hR R; try clear kq13 kz13
      try simp only [go_sem, hx, hy]
      refine W_seq fun kz14 kq14 => ?_
      refine W_seq fun kz15 kq15 => ?_
      refine W_region [5, 6, 7, 12, 13, 14, 15, 16, 25, 26, 27, 32, 33, 34, 42] fun R hR => ?_   -- r8
      simp only [go_sem, hx, hy]
      refine GCall_of (near_pc Y _ ct v w (oo v (List.mem_of_getElem? hx)) (ot w (List.mem_of_getElem? hy))) ?_   -- t42
      simp only [go_sem, hx, hy]
      refine hR _ _ (kq15 _ _ ?_); clear hR R; try clear kq15 kz15
      try simp only [go_sem, hx, hy]
      refine W_cond rfl (fun c3 => ?_) (fun c3 => ?_)
      · -- c3 true
        try simp only [nrm] at c3
        refine W_seq fun kz16 kq16 => ?_
        refine W_region [10] fun R hR => ?_   -- r9
        simp only [go_sem, hx, hy]
        refine hR _ _ (kq16 _ _ ?_); clear hR R; try clear kq16 kz16
        try simp only [go_sem, hx, hy]
        refine W_ret ?_
        simp only [go_sem, hx, hy]
        refine ⟨.inr (by trivial), ?_⟩
        first | refine Fin_same hcl rfl (Wk_eq ?_ (by simp only [go_sem])) | refine Fin_self hcl rfl (Wk_eq ?_ (by simp only [go_sem]))
        try simp only [go_sem]
        all_goals
          first | rfl | (simp_all; done) | (simp_all; omega)
      · -- c3 false
        try simp only [nrm] at c3
        refine W_skip (kq14 _ _ ?_)
        refine W_seq fun kz17 kq17 => ?_
        have hp1 : 0 < i → ∃ x, a.path[i - 1]? = some x := fun h => ⟨a.path[i - 1]'(by omega), by simp⟩
        have hp2 : 0 < k → ∃ x, b.path[k - 1]? = some x := fun h => ⟨b.path[k - 1]'(by omega), by simp⟩
        refine W_draw [5, 6, 7, 12, 13, 14, 25, 26, 27, 32, 33, 34, 72] [0, 1, 2, 3, 4, 5, 6, 7, 8, 9, 10, 11, 12, 13, 14, 15, 16, 17, 18, 19, 20, 21, 22, 23, 24, 25, 26, 27, 28, 29] [] [[], [0], [0, 1], [0, 1, 2], [0, 1, 2, 3], [0, 1, 2, 3, 4], [0, 1, 2, 3, 4, 5], [0, 1, 2, 3, 4, 5, 6], [0, 1, 2, 3, 4, 5, 6, 7], [0, 1, 2, 3, 4, 5, 6, 7, 8], [0, 1, 2, 3, 4, 5, 6], [0, 1, 2, 3, 4, 5, 6, 10], [0, 1, 2, 3, 4, 5, 6, 10, 11], [0, 1, 2, 3, 4, 5, 6, 7, 8, 9, 10, 11, 12], [0, 1, 2, 3, 4, 5, 6, 7, 8, 9, 10, 11, 12, 13], [0, 1, 2, 3, 4, 5, 6, 7, 8, 9, 10, 11, 12, 13, 14], [0, 1, 2, 3, 4, 5, 6, 7, 8, 9, 10, 11, 12, 13, 14, 15], [0, 1, 2, 3, 4, 5, 6, 7, 8, 9, 10, 11, 12, 13, 14, 15, 16], [0, 1, 2, 3, 4, 5, 6, 7, 8, 9, 10, 11, 12, 13, 14, 15], [0, 1, 2, 3, 4, 5, 6, 7, 8, 9, 10, 11, 12, 13, 14, 15, 18], [0, 1, 2, 3, 4, 5, 6, 7, 8, 9, 10, 11, 12, 13, 14, 15, 16, 17, 18, 19], [0, 1, 2, 3, 4, 5, 6, 7, 8, 9, 10, 11, 12, 13, 14, 15, 16, 17, 18, 19, 20], [0, 1, 2, 3, 4, 5, 6, 7, 8, 9, 10, 11, 12, 13, 14, 15], [0, 1, 2, 3, 4, 5, 6, 7, 8, 9, 10, 11, 12, 13, 14, 15, 22], [0, 1, 2, 3, 4, 5, 6, 7, 8, 9, 10, 11, 12, 13, 14, 15], [0, 1, 2, 3, 4, 5, 6, 7, 8, 9, 10, 11, 12, 13, 14, 15, 24], [0, 1, 2, 3, 4, 5, 6, 7, 8, 9, 10, 11, 12, 13, 14, 15, 22, 23, 24, 25], [0, 1, 2, 3, 4, 5, 6, 7, 8, 9, 10, 11, 12, 13, 14, 15, 22, 23, 24, 25, 26], [0, 1, 2, 3, 4, 5, 6, 7, 8, 9, 10, 11, 12, 13, 14, 15, 16, 17, 18, 19, 20, 21, 22, 23, 24, 25, 26, 27], [0, 1, 2, 3, 4, 5, 6, 7, 8, 9, 10, 11, 12, 13, 14, 15, 16, 17, 18, 19, 20, 21, 22, 23, 24, 25, 26, 27, 28]] mixed (by kernel_rfl) fun R hR => ?_   -- r10
        simp only [go_sem, hx, hy]
        refine GWant_split (fun g1 => ?_) (fun g1 => ?_)
        · try simp only [Bool.not_eq_true', Bool.not_eq_false'] at g1
          have n1 := g1; try simp only [nrm] at n1
          simp only [go_sem, hx, hy, g1]
          refine GWant_split (fun g2 => ?_) (fun g2 => ?_)
          · try simp only [Bool.not_eq_true', Bool.not_eq_false'] at g2
            have n2 := g2; try simp only [nrm] at n2
            simp only [go_sem, hx, hy, g2]
            refine GWant_split (fun g3 => ?_) (fun g3 => ?_)
            · try simp only [Bool.not_eq_true', Bool.not_eq_false'] at g3
              have n3 := g3; try simp only [nrm] at n3
              obtain ⟨x1, hx1⟩ := hp1 (by omega)
              obtain ⟨y1, hy1⟩ := hp2 (by omega)
              have e1 : ((i : Int) - 1).toNat = i - 1 := by omega
              have e2 : ((k : Int) - 1).toNat = k - 1 := by omega
              have e3 : (0 : Int) ≤ (i : Int) - 1 := by omega
              have e4 : (0 : Int) ≤ (k : Int) - 1 := by omega
              have w1 : IntKind.i64.wrap ((i : Int) - 1) = (i : Int) - 1 := wrapI (by omega) (by omega)
              have w2 : IntKind.i64.wrap ((k : Int) - 1) = (k : Int) - 1 := wrapI (by omega) (by omega)
              simp only [go_sem, hx, hy, w1, w2, e1, e2, e3, e4, hx1, hy1, g3]
              try simp (disch := omega) only [wrapI]
              refine hR _ _ (kq17 _ _ ?_); clear hR R; try clear kq17 kz17
              try simp only [go_sem, hx, hy, w1, w2, e1, e2, e3, e4, hx1, hy1]
              refine W_cond rfl (fun c4 => ?_) (fun c4 => ?_)
              · -- c4 true
                try simp only [nrm] at c4
                refine W_seq fun kz18 kq18 => ?_
                refine W_region [10] fun R hR => ?_   -- r11
                simp only [go_sem, hx, hy, w1, w2, e1, e2, e3, e4, hx1, hy1]
                refine hR _ _ (kq18 _ _ ?_); clear hR R; try clear kq18 kz18
                try simp only [go_sem, hx, hy, w1, w2, e1, e2, e3, e4, hx1, hy1]
                refine W_ret ?_
                simp only [go_sem, hx, hy, w1, w2, e1, e2, e3, e4, hx1, hy1]
                refine ⟨.inr (by trivial), ?_⟩
                first | refine Fin_same hcl rfl (Wk_eq ?_ (by simp only [go_sem])) | refine Fin_self hcl rfl (Wk_eq ?_ (by simp only [go_sem]))
                try simp only [go_sem]
                all_goals
                  first | rfl | (simp_all; done) | (simp_all; omega)
              · -- c4 false
                try simp only [nrm] at c4
                refine W_skip (kq12 _ _ ?_)
                refine W_region [5, 6, 7, 12, 13, 14, 25, 26, 27, 32, 33, 34] fun R hR => ?_   -- r12
                simp only [go_sem, hx, hy, w1, w2, e1, e2, e3, e4, hx1, hy1]
                try simp (disch := omega) only [wrapI]
                refine hR _ _ ?_; clear hR R
                try simp only [go_sem, hx, hy, w1, w2, e1, e2, e3, e4, hx1, hy1]
                refine ⟨k + 1, ?_, by (try simp only []); omega, ?_⟩
                · refine Weak.trans (Weak.cutX 4 0 (by omega) (by omega) hcl (by simp only [go_sem]) (by simp only [go_sem] <;> omega)) ?_
                  simp only [go_sem]
                  exact Weak.eq (by first | rfl | (simp only [go_sem]; done) | (simp only [go_sem]; rfl) | (simp [go_sem]; done) | (simp [go_sem]; omega)) (by first | rfl | (simp only [go_sem]; done) | (simp [go_sem]; done))
                · try dsimp only
                  refine ⟨hk', ?_⟩
                  rw [hin, if_neg (by simp [c3]), if_neg (by first | omega | (rw [hx1, hy1]; intro h; simp at h; omega))]
            · try simp only [Bool.not_eq_true', Bool.not_eq_false'] at g3
              have n3 := g3; try simp only [nrm] at n3
              simp only [go_sem, hx, hy, g3]
              try simp (disch := omega) only [wrapI]
              refine hR _ _ (kq17 _ _ ?_); clear hR R; try clear kq17 kz17
              try simp only [go_sem, hx, hy]
              refine W_cond_false rfl ?_
              refine W_skip (kq12 _ _ ?_)
              refine W_region [5, 6, 7, 12, 13, 14, 25, 26, 27, 32, 33, 34] fun R hR => ?_   -- r12
              simp only [go_sem, hx, hy]
              try simp (disch := omega) only [wrapI]
              refine hR _ _ ?_; clear hR R
              try simp only [go_sem, hx, hy]
              refine ⟨k + 1, ?_, by (try simp only []); omega, ?_⟩
              · refine Weak.trans (Weak.cutX 4 0 (by omega) (by omega) hcl (by simp only [go_sem]) (by simp only [go_sem] <;> omega)) ?_
                simp only [go_sem]
                exact Weak.eq (by first | rfl | (simp only [go_sem]; done) | (simp only [go_sem]; rfl) | (simp [go_sem]; done) | (simp [go_sem]; omega)) (by first | rfl | (simp only [go_sem]; done) | (simp [go_sem]; done))
              · try dsimp only
                refine ⟨hk', ?_⟩
                rw [hin, if_neg (by simp [c3]), if_neg (by first | omega | (rw [hx1, hy1]; intro h; simp at h; omega))]
          · try simp only [Bool.not_eq_true', Bool.not_eq_false'] at g2
            have n2 := g2; try simp only [nrm] at n2
            simp only [go_sem, hx, hy, g2]
            try simp (disch := omega) only [wrapI]
            refine hR _ _ (kq17 _ _ ?_); clear hR R; try clear kq17 kz17
            try simp only [go_sem, hx, hy]
            refine W_cond_false rfl ?_
            refine W_skip (kq12 _ _ ?_)
            refine W_region [5, 6, 7, 12, 13, 14, 25, 26, 27, 32, 33, 34] fun R hR => ?_   -- r12
            simp only [go_sem, hx, hy]
            try simp (disch := omega) only [wrapI]
            refine hR _ _ ?_; clear hR R
            try simp only [go_sem, hx, hy]
            refine ⟨k + 1, ?_, by (try simp only []); omega, ?_⟩
            · refine Weak.trans (Weak.cutX 4 0 (by omega) (by omega) hcl (by simp only [go_sem]) (by simp only [go_sem] <;> omega)) ?_
              simp only [go_sem]
              exact Weak.eq (by first | rfl | (simp only [go_sem]; done) | (simp only [go_sem]; rfl) | (simp [go_sem]; done) | (simp [go_sem]; omega)) (by first | rfl | (simp only [go_sem]; done) | (simp [go_sem]; done))
            · try dsimp only
              refine ⟨hk', ?_⟩
              rw [hin, if_neg (by simp [c3]), if_neg (by first | omega | (rw [hx1, hy1]; intro h; simp at h; omega))]
        · try simp only [Bool.not_eq_true', Bool.not_eq_false'] at g1
          have n1 := g1; try simp only [nrm] at n1
          simp only [go_sem, hx, hy, g1]
          try simp (disch := omega) only [wrapI]
          refine hR _ _ (kq17 _ _ ?_); clear hR R; try clear kq17 kz17
          try simp only [go_sem, hx, hy]
          refine W_cond_false rfl ?_
          refine W_skip (kq12 _ _ ?_)
          refine W_region [5, 6, 7, 12, 13, 14, 25, 26, 27, 32, 33, 34] fun R hR => ?_   -- r12
          simp only [go_sem, hx, hy]
          try simp (disch := omega) only [wrapI]
          refine hR _ _ ?_; clear hR R
          try simp only [go_sem, hx, hy]
          refine ⟨k + 1, ?_, by (try simp only []); omega, ?_⟩
          · refine Weak.trans (Weak.cutX 4 0 (by omega) (by omega) hcl (by simp only [go_sem]) (by simp only [go_sem] <;> omega)) ?_
            simp only [go_sem]
            exact Weak.eq (by first | rfl | (simp only [go_sem]; done) | (simp only [go_sem]; rfl) | (simp [go_sem]; done) | (simp [go_sem]; omega)) (by first | rfl | (simp only [go_sem]; done) | (simp [go_sem]; done))
          · try dsimp only
            refine ⟨hk', ?_⟩
            rw [hin, if_neg (by simp [c3]), if_neg (by first | omega | (rw [hx1, hy1]; intro h; simp at h; omega))]
    · -- c2 false
      try simp only [nrm] at c2
      have hdrop2 : two.drop k = [] := List.drop_eq_nil_of_le (by omega)
      rw [hdrop2] at hin
      simp only [crIn] at hin
      have hinner := hin
      refine W_exit ?_
      simp only [go_sem, hx]
      refine kq7 _ _ ?_
      refine W_region [5, 6, 7, 12, 25, 26, 27] fun R hR => ?_   -- r13
      simp only [go_sem, hx]
      try simp (disch := omega) only [wrapI]
      refine hR _ _ ?_; clear hR R
      try simp only [go_sem, hx]
      refine ⟨i + 1, ?_, by (try simp only []); omega, ?_⟩
      · refine Weak.trans (Weak.cutX 3 0 (by omega) (by omega) hcl (by simp only [go_sem]) (by simp only [go_sem] <;> omega)) ?_
        simp only [go_sem]
        exact Weak.eq (by first | rfl | (simp only [go_sem]; done) | (simp only [go_sem]; rfl) | (simp [go_sem]; done) | (simp [go_sem]; omega)) (by first | rfl | (simp only [go_sem]; done) | (simp [go_sem]; done))
      · try dsimp only
        exact ⟨hi', by rw [hinv, if_neg (by simp [hinner])]⟩
  · -- c1 false
    try simp only [nrm] at c1
    have hdrop : one.drop i = [] := List.drop_eq_nil_of_le (by omega)
    rw [hdrop] at hinv
    simp only [crOut] at hinv
    refine W_exit ?_
    simp only [go_sem]
    refine kq3 _ _ ?_
    refine W_seq fun kz19 kq19 => ?_
    refine W_region [10] fun R hR => ?_   -- r14
    simp only [go_sem]
    refine hR _ _ (kq19 _ _ ?_); clear hR R; try clear kq19 kz19
    try simp only [go_sem]
    refine W_ret ?_
    simp only [go_sem]
    refine ⟨.inr (by trivial), ?_⟩
    first | refine Fin_same hcl rfl (Wk_eq ?_ (by simp only [go_sem])) | refine Fin_self hcl rfl (Wk_eq ?_ (by simp only [go_sem]))
    try simp only [go_sem]
    all_goals
      first | rfl | (simp_all; done) | (simp_all; omega)
end Go.Proofs.Ytnpamcpoaklgeaa
namespace Go.Proofs.Ytnpamcpoaklgeaa
open Go Go.RowKit
theorem appg22 {σ : Sg} {x : PV} {m : List PV} {own : Own} : appendG Try.prog σ 22 22 x (.isl m own) = appG 1 8 σ x m := appG_of Try.underlying22 Try.underlying3 cells3 bytes3 (by decide) (by decide) zero3 rfl
theorem iag22 {id len es : Nat} {k : IntKind} {i : Int} : indexAddrPV Try.prog 22 (.gsl id len es) (.int k i) = iaM 1 id 0 len i := iaG_of Try.underlying22 Try.underlying3 cells3 k len i
theorem leng22 {id n es : Nat} : lenPV Try.prog 22 (.gsl id n es) = some (.int .i64 n) := lenG_of Try.underlying22 n
theorem lenn22 : lenPV Try.prog 22 .gnil = some (.int .i64 0) := lenN_of Try.underlying22
theorem appg23 {σ : Sg} {x : PV} {m : List PV} {own : Own} : appendG Try.prog σ 23 23 x (.isl m own) = appG 2 16 σ x m := appG_of Try.underlying23 Try.underlying76 cells76 bytes76 (by decide) (by decide) zero76 rfl
theorem iag23 {id len es : Nat} {k : IntKind} {i : Int} : indexAddrPV Try.prog 23 (.gsl id len es) (.int k i) = iaM 2 id 0 len i := iaG_of Try.underlying23 Try.underlying76 cells76 k len i
theorem leng23 {id n es : Nat} : lenPV Try.prog 23 (.gsl id n es) = some (.int .i64 n) := lenG_of Try.underlying23 n
theorem lenn23 : lenPV Try.prog 23 .gnil = some (.int .i64 0) := lenN_of Try.underlying23
theorem appg24 {σ : Sg} {x : PV} {m : List PV} {own : Own} : appendG Try.prog σ 24 24 x (.isl m own) = appG 7 72 σ x m := appG_of Try.underlying24 Try.underlying86 cells86 bytes86 (by decide) (by decide) zero86 rfl
theorem iag24 {id len es : Nat} {k : IntKind} {i : Int} : indexAddrPV Try.prog 24 (.gsl id len es) (.int k i) = iaM 7 id 0 len i := iaG_of Try.underlying24 Try.underlying86 cells86 k len i
theorem leng24 {id n es : Nat} : lenPV Try.prog 24 (.gsl id n es) = some (.int .i64 n) := lenG_of Try.underlying24 n
theorem lenn24 : lenPV Try.prog 24 .gnil = some (.int .i64 0) := lenN_of Try.underlying24
theorem appg29 {σ : Sg} {x : PV} {m : List PV} {own : Own} : appendG Try.prog σ 29 29 x (.isl m own) = appG 6 64 σ x m := appG_of Try.underlying29 Try.underlying33 cells33 bytes33 (by decide) (by decide) zero33 rfl
theorem iag29 {id len es : Nat} {k : IntKind} {i : Int} : indexAddrPV Try.prog 29 (.gsl id len es) (.int k i) = iaM 6 id 0 len i := iaG_of Try.underlying29 Try.underlying33 cells33 k len i
theorem leng29 {id n es : Nat} : lenPV Try.prog 29 (.gsl id n es) = some (.int .i64 n) := lenG_of Try.underlying29 n
theorem lenn29 : lenPV Try.prog 29 .gnil = some (.int .i64 0) := lenN_of Try.underlying29
theorem appg41 {σ : Sg} {x : PV} {m : List PV} {own : Own} : appendG Try.prog σ 41 41 x (.isl m own) = appG 6 112 σ x m := appG_of Try.underlying41 Try.underlying28 cells28 bytes28 (by decide) (by decide) zero28 rfl
theorem iag41 {id len es : Nat} {k : IntKind} {i : Int} : indexAddrPV Try.prog 41 (.gsl id len es) (.int k i) = iaM 6 id 0 len i := iaG_of Try.underlying41 Try.underlying28 cells28 k len i
theorem leng41 {id n es : Nat} : lenPV Try.prog 41 (.gsl id n es) = some (.int .i64 n) := lenG_of Try.underlying41 n
theorem lenn41 : lenPV Try.prog 41 .gnil = some (.int .i64 0) := lenN_of Try.underlying41
theorem appg43 {σ : Sg} {x : PV} {m : List PV} {own : Own} : appendG Try.prog σ 43 43 x (.isl m own) = appG 1 24 σ x m := appG_of Try.underlying43 Try.underlying29 cells29 bytes29 (by decide) (by decide) zero29 rfl
theorem iag43 {id len es : Nat} {k : IntKind} {i : Int} : indexAddrPV Try.prog 43 (.gsl id len es) (.int k i) = iaM 1 id 0 len i := iaG_of Try.underlying43 Try.underlying29 cells29 k len i
theorem leng43 {id n es : Nat} : lenPV Try.prog 43 (.gsl id n es) = some (.int .i64 n) := lenG_of Try.underlying43 n
theorem lenn43 : lenPV Try.prog 43 .gnil = some (.int .i64 0) := lenN_of Try.underlying43
theorem appg54 {σ : Sg} {x : PV} {m : List PV} {own : Own} : appendG Try.prog σ 54 54 x (.isl m own) = appG 1 8 σ x m := appG_of Try.underlying54 Try.underlying46 cells46 bytes46 (by decide) (by decide) zero46 rfl
theorem iag54 {id len es : Nat} {k : IntKind} {i : Int} : indexAddrPV Try.prog 54 (.gsl id len es) (.int k i) = iaM 1 id 0 len i := iaG_of Try.underlying54 Try.underlying46 cells46 k len i
theorem leng54 {id n es : Nat} : lenPV Try.prog 54 (.gsl id n es) = some (.int .i64 n) := lenG_of Try.underlying54 n
theorem lenn54 : lenPV Try.prog 54 .gnil = some (.int .i64 0) := lenN_of Try.underlying54
theorem appg71 {σ : Sg} {x : PV} {m : List PV} {own : Own} : appendG Try.prog σ 71 71 x (.isl m own) = appG 1 24 σ x m := appG_of Try.underlying71 Try.underlying22 cells22 bytes22 (by decide) (by decide) zero22 rfl
theorem iag71 {id len es : Nat} {k : IntKind} {i : Int} : indexAddrPV Try.prog 71 (.gsl id len es) (.int k i) = iaM 1 id 0 len i := iaG_of Try.underlying71 Try.underlying22 cells22 k len i
theorem leng71 {id n es : Nat} : lenPV Try.prog 71 (.gsl id n es) = some (.int .i64 n) := lenG_of Try.underlying71 n
theorem lenn71 : lenPV Try.prog 71 .gnil = some (.int .i64 0) := lenN_of Try.underlying71
theorem appg117 {σ : Sg} {x : PV} {m : List PV} {own : Own} : appendG Try.prog σ 117 117 x (.isl m own) = appG 3 24 σ x m := appG_of Try.underlying117 Try.underlying119 cells119 bytes119 (by decide) (by decide) zero119 rfl
theorem iag117 {id len es : Nat} {k : IntKind} {i : Int} : indexAddrPV Try.prog 117 (.gsl id len es) (.int k i) = iaM 3 id 0 len i := iaG_of Try.underlying117 Try.underlying119 cells119 k len i
theorem leng117 {id n es : Nat} : lenPV Try.prog 117 (.gsl id n es) = some (.int .i64 n) := lenG_of Try.underlying117 n
theorem lenn117 : lenPV Try.prog 117 .gnil = some (.int .i64 0) := lenN_of Try.underlying117
theorem appg123 {σ : Sg} {x : PV} {m : List PV} {own : Own} : appendG Try.prog σ 123 123 x (.isl m own) = appG 1 1 σ x m := appG_of Try.underlying123 Try.underlying4 cells4 bytes4 (by decide) (by decide) zero4 rfl
theorem iag123 {id len es : Nat} {k : IntKind} {i : Int} : indexAddrPV Try.prog 123 (.gsl id len es) (.int k i) = iaM 1 id 0 len i := iaG_of Try.underlying123 Try.underlying4 cells4 k len i
theorem leng123 {id n es : Nat} : lenPV Try.prog 123 (.gsl id n es) = some (.int .i64 n) := lenG_of Try.underlying123 n
theorem lenn123 : lenPV Try.prog 123 .gnil = some (.int .i64 0) := lenN_of Try.underlying123
theorem appg150 {σ : Sg} {x : PV} {m : List PV} {own : Own} : appendG Try.prog σ 150 150 x (.isl m own) = appG 1 8 σ x m := appG_of Try.underlying150 Try.underlying107 cells107 bytes107 (by decide) (by decide) zero107 rfl
theorem iag150 {id len es : Nat} {k : IntKind} {i : Int} : indexAddrPV Try.prog 150 (.gsl id len es) (.int k i) = iaM 1 id 0 len i := iaG_of Try.underlying150 Try.underlying107 cells107 k len i
theorem leng150 {id n es : Nat} : lenPV Try.prog 150 (.gsl id n es) = some (.int .i64 n) := lenG_of Try.underlying150 n
theorem lenn150 : lenPV Try.prog 150 .gnil = some (.int .i64 0) := lenN_of Try.underlying150
attribute [go_sem] appg22 iag22 leng22 lenn22 appg23 iag23 leng23 lenn23 appg24 iag24 leng24 lenn24 appg29 iag29 leng29 lenn29 appg41 iag41 leng41 lenn41 appg43 iag43 leng43 lenn43 appg54 iag54 leng54 lenn54 appg71 iag71 leng71 lenn71 appg117 iag117 leng117 lenn117 appg123 iag123 leng123 lenn123 appg150 iag150 leng150 lenn150
end Go.Proofs.Ytnpamcpoaklgeaa
namespace Go.Proofs.Ytnpamcpoaklgeaa
open Go Go.RowKit
set_option maxRecDepth 100000
def vIdx (q : Vis → Bool) : Nat → List Vis → Int
  | _, [] => -1
  | i, x :: r => if q x then i else vIdx q (i + 1) r
set_option maxHeartbeats 2000000 in
theorem where1_pc (Y : YEnv) (σ : Sg) (v : Vis) (minute : Int) (d : Nat) (hd : σ.store[d]? = some (some [I minute])) :
    PC Try.prog Y 91 [vsPV v, .ptr d 0] σ (.bool (inR minute v.lo v.hi)) (σ) := by
  refine PC_of_W Try.func91 rfl (by kernel_rfl) Try.ntmps91 (by simp) fun hcl hca => ?_
  have hlt := lt_of_get hd
  refine W_seq fun kz1 kq1 => ?_
  refine W_region [1, 2] fun R hR => ?_   -- r0
  simp only [go_sem, ldS_at hd, ldS_old hlt]
  refine hR _ _ (kq1 _ _ ?_); clear hR R; try clear kq1 kz1
  try simp only [go_sem, ldS_at hd, ldS_old hlt]
  refine W_seq fun kz2 kq2 => ?_
  refine W_region [3] fun R hR => ?_   -- r1
  simp only [go_sem, ldS_at hd, ldS_old hlt]
  refine GCall_of (in_pc Y _ minute v.lo v.hi) ?_   -- t11
  simp only [go_sem, ldS_at hd, ldS_old hlt]
  refine hR _ _ (kq2 _ _ ?_); clear hR R; try clear kq2 kz2
  try simp only [go_sem, ldS_at hd, ldS_old hlt]
  refine W_ret ?_
  simp only [go_sem, ldS_at hd, ldS_old hlt]
  refine ⟨.inr (by trivial), ?_⟩
  first | refine Fin_same hcl rfl (Wk_eq ?_ (by simp only [go_sem])) | refine Fin_self hcl rfl (Wk_eq ?_ (by simp only [go_sem]))
  try simp only [go_sem]
  all_goals
    first | rfl | (simp_all; done) | (simp_all; omega)
set_option maxHeartbeats 2000000 in
theorem vindex_pc (Y : YEnv) (σ : Sg) (l : List Vis) (o : Own) (hl : l.length < 2 ^ 62) (g : FuncId) (cap : PV) (q : Vis → Bool) (hq : ∀ (x : Vis), PC Try.prog Y g [vsPV x, cap] σ (.bool (q x)) σ) :
    PC Try.prog Y 89 [.isl (l.map vsPV) o, .func (.func g) [] [cap]] σ (I (vIdx q 0 l)) (σ) := by
  refine PC_of_W Try.func89 rfl (by kernel_rfl) Try.ntmps89 (by simp) fun hcl hca => ?_
  refine W_seq fun kz1 kq1 => ?_
  refine W_region [0, 1] fun R hR => ?_   -- r0
  simp only [go_sem]
  refine hR _ _ (kq1 _ _ ?_); clear hR R; try clear kq1 kz1
  try simp only [go_sem]
  refine W_seq fun kz2 kq2 => ?_
  refine W_seq fun kz3 kq3 => ?_
  refine W_region [0, 1, 7, 8] fun R hR => ?_   -- r1
  simp only [go_sem]
  refine hR _ _ (kq3 _ _ ?_); clear hR R; try clear kq3 kz3
  try simp only [go_sem]
  refine W_block ?_
  refine W_loopS (α := Nat) (fun (i : Nat) => [(8, I i)]) (fun (i : Nat) => i ≤ l.length ∧ vIdx q i (l.drop i) = vIdx q 0 l) (fun (i : Nat) => l.length - i) (0) rfl (by simp) ?_
  rintro i ⟨hi, hinv⟩
  refine W_seq fun kz4 kq4 => ?_
  refine W_region [0, 1, 7, 8, 9] fun R hR => ?_   -- r2
  simp only [go_sem]
  refine hR _ _ (kq4 _ _ ?_); clear hR R; try clear kq4 kz4
  try simp only [go_sem]
  refine W_seq fun kz5 kq5 => ?_
  refine W_cond rfl (fun c1 => ?_) (fun c1 => ?_)
  · -- c1 true
    try simp only [nrm] at c1
    have hi' : i < l.length := by first | assumption | omega
    obtain ⟨x, hx⟩ : ∃ x, l[i]? = some x := ⟨l[i], by simp [hi']⟩
    have hdrop : l.drop i = x :: l.drop (i + 1) := by
      rw [List.drop_eq_getElem_cons hi']; congr 1; exact (List.getElem?_eq_some_iff.1 hx).2
    rw [hdrop] at hinv
    simp only [vIdx] at hinv
    refine W_skip (kq5 _ _ ?_)
    refine W_seq fun kz6 kq6 => ?_
    refine W_block ?_
    refine W_seq fun kz7 kq7 => ?_
    refine W_region [0, 1, 5, 7, 8] fun R hR => ?_   -- r3
    simp only [go_sem, hx]
    refine hR _ _ (kq7 _ _ ?_); clear hR R; try clear kq7 kz7
    try simp only [go_sem, hx]
    refine W_seq fun kz8 kq8 => ?_
    refine W_region [0, 1, 5, 7, 8, 16] fun R hR => ?_   -- r4
    simp only [go_sem, hx]
    refine GCall_of (hq x) ?_   -- t16
    simp only [go_sem, hx]
    refine hR _ _ (kq8 _ _ ?_); clear hR R; try clear kq8 kz8
    try simp only [go_sem, hx]
    refine W_cond rfl (fun c2 => ?_) (fun c2 => ?_)
    · -- c2 true
      try simp only [nrm] at c2
      refine W_seq fun kz9 kq9 => ?_
      refine W_region [4] fun R hR => ?_   -- r5
      simp only [go_sem, hx]
      refine hR _ _ (kq9 _ _ ?_); clear hR R; try clear kq9 kz9
      try simp only [go_sem, hx]
      refine W_ret ?_
      simp only [go_sem, hx]
      refine ⟨.inr (by trivial), ?_⟩
      first | refine Fin_same hcl rfl (Wk_eq ?_ (by simp only [go_sem])) | refine Fin_self hcl rfl (Wk_eq ?_ (by simp only [go_sem]))
      try simp only [go_sem]
      all_goals
        first | rfl | (simp_all; done) | (simp_all; omega)
    · -- c2 false
      try simp only [nrm] at c2
      refine W_skip (kq6 _ _ ?_)
      refine W_region [0, 1, 7, 8] fun R hR => ?_   -- r6
      simp only [go_sem, hx]
      try simp (disch := omega) only [wrapI, wrapU]
      try rw [wrapI (by omega) (by omega)]
      refine hR _ _ ?_; clear hR R
      try simp only [go_sem, hx]
      refine ⟨i + 1, ?_, by (try simp only []); omega, ?_⟩
      · first | exact Weak.refl | exact Weak.eq (by first | rfl | (simp only [go_sem]; done) | (simp only [go_sem]; rfl) | (simp [go_sem]; done) | (simp [go_sem]; omega)) (by first | rfl | (simp only [go_sem]; done) | (simp [go_sem]; done))
      · try dsimp only
        exact ⟨hi', by simp_all⟩
  · -- c1 false
    try simp only [nrm] at c1
    have hdrop : l.drop i = [] := List.drop_eq_nil_of_le (by omega)
    rw [hdrop] at hinv
    simp only [vIdx] at hinv
    refine W_exit ?_
    simp only [go_sem]
    refine kq2 _ _ ?_
    refine W_seq fun kz10 kq10 => ?_
    refine W_region [4] fun R hR => ?_   -- r7
    simp only [go_sem]
    refine hR _ _ (kq10 _ _ ?_); clear hR R; try clear kq10 kz10
    try simp only [go_sem]
    refine W_ret ?_
    simp only [go_sem]
    refine ⟨.inr (by trivial), ?_⟩
    first | refine Fin_same hcl rfl (Wk_eq ?_ (by simp only [go_sem])) | refine Fin_self hcl rfl (Wk_eq ?_ (by simp only [go_sem]))
    try simp only [go_sem]
    all_goals
      first | rfl | (simp_all; done) | (simp_all; omega)
end Go.Proofs.Ytnpamcpoaklgeaa
namespace Go.Proofs.Ytnpamcpoaklgeaa
open Go Go.RowKit
set_option maxRecDepth 100000
theorem timesOf_ok {b : Band} (h : timesOf b = 0) : 0 ≤ b.lo ∧ b.lo ≤ b.hi ∧ b.hi ≤ 720 ∧ b.hi - b.lo ≤ 30 ∧ 1 ≤ b.stay ∧ b.stay ≤ 120 ∧ 0 ≤ b.people ∧ b.people ≤ 1000000 ∧ b.hi + b.stay * ((b.path.length : Int) + 1) ≤ 720 := by
  unfold timesOf at h
  split at h <;> try (simp at h; done)
  split at h <;> try (simp at h; done)
  split at h <;> try (simp at h; done)
  split at h <;> try (simp at h; done)
  split at h <;> try (simp at h; done)
  split at h <;> try (simp at h; done)
  split at h <;> try (simp at h; done)
  simp only [Bool.not_eq_false, inR_true] at *
  omega
theorem chkBand_ok {c : City} {b : Band} (h : chkBand c b = 0) : (sqs c b).2 = 0 ∧ timesOf b = 0 := by
  unfold chkBand at h
  split at h
  · exact absurd h ‹_›
  · exact ⟨by simp_all, h⟩
theorem chkBands_ok {c : City} : ∀ {l : List Band}, chkBands c l = 0 → ∀ b, b ∈ l → chkBand c b = 0 := by
  intro l
  induction l with
  | nil => intro _ b hb; cases hb
  | cons a l ih =>
    intro h b hb
    simp only [chkBands] at h
    split at h
    · exact absurd h ‹_›
    · rcases List.mem_cons.1 hb with rfl | hb
      · simp_all
      · exact ih h b hb
theorem askedOf_ok {c : City} {l : List Band} (h : askedOf c l = 0) : chkCity c = 0 ∧ chkBands c l = 0 := by
  unfold askedOf at h
  split at h
  · exact absurd h ‹_›
  · exact ⟨by simp_all, h⟩
theorem chkAll_ok {c : City} {l : List Band} (h : chkAll c l = 0) : chkCity c = 0 ∧ l.length ≤ 10 ∧ chkBands c l = 0 := by
  unfold chkAll at h
  split at h
  · exact absurd h ‹_›
  · split at h
    · simp at h
    · exact ⟨by simp_all, by omega, h⟩
/-- What is asked of two bands' cross. -/
def crossVal (c : City) (a b : Band) : Int := crossOf (crossing c a b) a.lo a.hi b.lo b.hi
def crossAns (c : City) (a b : Band) : Int × Int := if askedOf c [a, b] ≠ 0 then (0, askedOf c [a, b]) else (crossVal c a b, 0)
theorem bcross_pc (Y : YEnv) (σ : Sg) (ct : City) (a b : Band) (hc : ct.Ok) (ha : a.path.length < 2 ^ 50) (hb : b.path.length < 2 ^ 50) (ta : timesOf a = 0) (tb : timesOf b = 0) :
    PC Try.prog Y 67 [ctPV ct, bdPV a, bdPV b] σ (I (crossVal ct a b)) σ := by
  obtain ⟨a1, a2, a3, a4, a5, a6, a7, a8, a9⟩ := timesOf_ok ta
  obtain ⟨b1, b2, b3, b4, b5, b6, b7, b8, b9⟩ := timesOf_ok tb
  exact cross_pc (crossing ct a b) (ints ct.town.rooms) (.isl (ct.town.streets.map stPV) .ro) (.isl (ct.town.groups.map grPV) .ro) (I ct.town.steps) (I ct.brk) (ints ct.sleep) (I a.first) (ints a.path) (I a.stay) (I a.people) (I b.first) (ints b.path) (I b.stay) (I b.people) a.lo a.hi b.lo b.hi
    (by omega) (by omega) (by omega) (by omega) (by omega) (by omega)
    (fun Y σ i j h1 h2 h3 h4 => crosses_pc Y σ ct a b i j hc ha hb (by omega) (by omega) (by omega) (by omega) (by omega) (by omega) (by omega) (by omega)) Y σ
set_option maxHeartbeats 2000000 in
theorem bCross_pc (Y : YEnv) (σ : Sg) (ct : City) (a b : Band) (hc : ct.Ok) (ha : a.path.length < 2 ^ 50) (hb : b.path.length < 2 ^ 50) :
    PC Try.prog Y 24 [ctPV ct, bdPV a, bdPV b] σ (.tuple [I (crossAns ct a b).1, I (crossAns ct a b).2]) (σ) := by
  refine PC_of_W Try.func24 rfl (by kernel_rfl) Try.ntmps24 (by simp) fun hcl hca => ?_
  refine W_seq fun kz1 kq1 => ?_
  refine W_region [3, 4, 5] fun R hR => ?_   -- r0
  simp only [go_sem]
  refine hR _ _ (kq1 _ _ ?_); clear hR R; try clear kq1 kz1
  try simp only [go_sem]
  refine W_seq fun kz2 kq2 => ?_
  refine W_seq fun kz3 kq3 => ?_
  refine W_region [3, 4, 5, 8] fun R hR => ?_   -- r1
  simp only [go_sem]
  refine GCall_of (PC.ofRo (asked_pc Y _ ct [a, b] hc ⟨by simp, fun x hx => by simp at hx; rcases hx with rfl | rfl <;> assumption⟩) (by simp only [go_sem] <;> rfl)) ?_   -- t13
  simp only [go_sem]
  refine hR _ _ (kq3 _ _ ?_); clear hR R; try clear kq3 kz3
  try simp only [go_sem]
  refine W_seq fun kz4 kq4 => ?_
  refine W_region [3, 4, 5, 8, 15] fun R hR => ?_   -- r2
  simp only [go_sem]
  refine hR _ _ (kq4 _ _ ?_); clear hR R; try clear kq4 kz4
  try simp only [go_sem]
  refine W_cond rfl (fun c1 => ?_) (fun c1 => ?_)
  · -- c1 true
    try simp only [nrm] at c1
    refine W_seq fun kz5 kq5 => ?_
    refine W_region [6, 7] fun R hR => ?_   -- r3
    simp only [go_sem]
    refine hR _ _ (kq5 _ _ ?_); clear hR R; try clear kq5 kz5
    try simp only [go_sem]
    refine W_ret ?_
    simp only [go_sem]
    refine ⟨.inr (by trivial), ?_⟩
    first | refine Fin_same hcl rfl (Wk_eq ?_ (by simp only [go_sem])) | refine Fin_self hcl rfl (Wk_eq ?_ (by simp only [go_sem]))
    try simp only [go_sem]
    all_goals
      simp [crossAns, c1]
  · -- c1 false
    try simp only [nrm] at c1
    have tc : timesOf a = 0 ∧ timesOf b = 0 := by
      have h := chkBands_ok (askedOf_ok c1).2
      exact ⟨(chkBand_ok (h a (by simp))).2, (chkBand_ok (h b (by simp))).2⟩
    refine W_skip (kq2 _ _ ?_)
    refine W_seq fun kz6 kq6 => ?_
    refine W_region [6, 7] fun R hR => ?_   -- r4
    simp only [go_sem]
    refine GCall_of (bcross_pc Y _ ct a b hc ha hb tc.1 tc.2) ?_   -- t20
    simp only [go_sem]
    refine hR _ _ (kq6 _ _ ?_); clear hR R; try clear kq6 kz6
    try simp only [go_sem]
    refine W_ret ?_
    simp only [go_sem]
    refine ⟨.inr (by trivial), ?_⟩
    first | refine Fin_same hcl rfl (Wk_eq ?_ (by simp only [go_sem])) | refine Fin_self hcl rfl (Wk_eq ?_ (by simp only [go_sem]))
    try simp only [go_sem]
    all_goals
      simp [crossAns, c1]
/-- In minute t of the night, may a band be in a square? Its k-th visits are looked at, from k on. -/
def hFrom (b : Band) (sq : Int) (t : Int) : Nat → List Int → Bool
  | _, [] => false
  | k, s :: r => (decide (s = sq) && decide (b.lo + (k : Int) * b.stay ≤ t) && decide (t ≤ b.hi + (k : Int) * b.stay + b.stay - 1)) || hFrom b sq t (k + 1) r
def heardB (c : City) (b : Band) (sq : Int) (t : Int) : Bool := hFrom b sq t 0 (sqs c b).1
def loudAt (c : City) (l : List Band) (sq : Int) (t : Int) : Bool := l.any fun b => heardB c b sq t
/-- The minutes of a night. -/
def tab (f : Int → Bool) : List PV := (List.range 720).map fun t : Nat => .bool (f t)
theorem tab_len (f : Int → Bool) : (tab f).length = 720 := by simp [tab]
theorem tab_get (f : Int → Bool) {t : Nat} (h : t < 720) : (tab f)[t]? = some (.bool (f t)) := by simp [tab, h]
theorem tab_set (f : Int → Bool) {t : Nat} (h : t < 720) : (tab f).set t (.bool true) = tab fun s => f s || decide (s = (t : Int)) := by
  refine List.ext_getElem? fun i => ?_
  rw [List.getElem?_set]
  by_cases hi : i < 720
  · by_cases ht : t = i
    · subst ht; rw [if_pos rfl, if_pos (by rw [tab_len]; exact h), tab_get (fun s => f s || decide (s = (t : Int))) hi]; simp
    · rw [if_neg ht, tab_get (fun s => f s || decide (s = (t : Int))) hi, tab_get f hi]
      have : decide ((i : Int) = (t : Int)) = false := by simp; omega
      simp only [this, Bool.or_false]
  · rw [List.getElem?_eq_none (l := tab fun s => f s || decide (s = (t : Int))) (by rw [tab_len]; omega)]
    rw [if_neg (by omega), List.getElem?_eq_none (by rw [tab_len]; omega)]
theorem tab_none : List.replicate 720 (PV.bool false) = tab fun _ => false := by
  refine List.ext_getElem? fun i => ?_
  rw [List.getElem?_replicate]
  by_cases hi : i < 720
  · rw [if_pos hi, tab_get (fun _ => false) hi]
  · rw [if_neg hi, List.getElem?_eq_none (by rw [tab_len]; omega)]
theorem clean_tab {a b c : Nat} (f : Int → Bool) : CleanAll a b c (tab f) = True := eq_true fun p hp => by
  unfold tab at hp
  obtain ⟨t, _, rfl⟩ := List.mem_map.1 hp
  exact .bool _
theorem put_tab (f : Int → Bool) (t : Nat) : putCells (tab f) t [PV.bool true] = (tab f).set t (.bool true) := by simp [putCells]
attribute [go_sem] clean_tab tab_len
theorem visFrom_get (start stay : Int) : ∀ (l : List Int) (k i : Nat), (visFrom start stay k l)[i]? = (l[i]?).map fun s => ⟨start + ((k + i : Nat) : Int) * stay, start + ((k + i : Nat) : Int) * stay + stay - 1, s⟩ := by
  intro l
  induction l with
  | nil => intro k i; simp [visFrom]
  | cons s r ih =>
    intro k i
    cases i with
    | zero => simp [visFrom]
    | succ i =>
      simp only [visFrom, List.getElem?_cons_succ]
      rw [ih]
      rw [show k + 1 + i = k + (i + 1) by omega]
end Go.Proofs.Ytnpamcpoaklgeaa
namespace Go.Proofs.Ytnpamcpoaklgeaa
open Go
set_option maxRecDepth 100000
theorem wrapU {n : Int} (h1 : 0 ≤ n) (h2 : n ≤ 18446744073709551615) : IntKind.u64.wrap n = n := IntWalk.u64_in n ⟨h1, h2⟩
theorem sv_ext_sv {σ : Sg} {d : Nat} {cs cs0 : List PV} {l : List (Option (List PV))} {rm : List Nat} {ys : List LState} (h : d < σ.store.length) : ((σ.setVar d cs0).ext l rm ys).setVar d cs = (σ.setVar d cs).ext l rm ys := by
  rw [sv_ext (by rw [sv_len]; exact h), sv_sv]
theorem sv_self {σ : Sg} {d : Nat} {cs : List PV} (h : σ.store[d]? = some (some cs)) : σ.setVar d cs = σ := by
  have : σ.store.set d (some cs) = σ.store := by
    refine List.ext_getElem? fun i => ?_
    rw [List.getElem?_set]
    by_cases e : d = i
    · subst e; rw [if_pos rfl, if_pos (List.getElem?_eq_some_iff.1 h).1, h]
    · rw [if_neg e]
  unfold Sg.setVar
  rw [this]
theorem get_svx {σ : Sg} {d : Nat} {cs : List PV} {l : List (Option (List PV))} {rm : List Nat} {ys : List LState} (h : d < σ.store.length) : ((σ.setVar d cs).ext l rm ys).store[d]? = some (some cs) := by
  rw [ext_get (by rw [sv_len]; exact h)]; exact sv_get h
theorem get_extx {σ : Sg} {d : Nat} {cs : List PV} {l : List (Option (List PV))} {rm : List Nat} {ys : List LState} (hd : σ.store[d]? = some (some cs)) : (σ.ext l rm ys).store[d]? = some (some cs) := by
  rw [ext_get (lt_of_get hd)]; exact hd
theorem shr1 {a : Int} : shiftPV .shr .u64 a 1 = some (.int .u64 (a.fdiv 2)) := rfl
theorem shr32 {a : Int} : shiftPV .shr .u64 a 32 = some (.int .u64 (a.fdiv 4294967296)) := rfl
theorem cv3_90 {k : IntKind} {n : Int} : convPV Try.prog 3 90 (.int k n) = some (.int .u64 (IntKind.u64.wrap n)) := by kernel_rfl
theorem cv3_97 {k : IntKind} {n : Int} : convPV Try.prog 3 97 (.int k n) = some (.int .u64 (IntKind.u64.wrap n)) := by kernel_rfl
theorem cv3_163 {k : IntKind} {n : Int} : convPV Try.prog 3 163 (.int k n) = some (.int .u64 (IntKind.u64.wrap n)) := by kernel_rfl
theorem cv5_3 {k : IntKind} {n : Int} : convPV Try.prog 5 3 (.int k n) = some (.int .i64 (IntKind.i64.wrap n)) := by kernel_rfl
theorem cv90_3 {k : IntKind} {n : Int} : convPV Try.prog 90 3 (.int k n) = some (.int .i64 (IntKind.i64.wrap n)) := by kernel_rfl
theorem cv90_5 {k : IntKind} {n : Int} : convPV Try.prog 90 5 (.int k n) = some (.int .u8 (IntKind.u8.wrap n)) := by kernel_rfl
theorem cv97_3 {k : IntKind} {n : Int} : convPV Try.prog 97 3 (.int k n) = some (.int .i64 (IntKind.i64.wrap n)) := by kernel_rfl
theorem cv97_160 {k : IntKind} {n : Int} : convPV Try.prog 97 160 (.int k n) = some (.int .u32 (IntKind.u32.wrap n)) := by kernel_rfl
theorem cv160_5 {k : IntKind} {n : Int} : convPV Try.prog 160 5 (.int k n) = some (.int .u8 (IntKind.u8.wrap n)) := by kernel_rfl
attribute [go_sem] cv3_90 cv3_97 cv3_163 cv5_3 cv90_3 cv90_5 cv97_3 cv97_160 cv160_5 nilCheckPV shr1 shr32 Sg.ext_nil
end Go.Proofs.Ytnpamcpoaklgeaa
namespace Go.Proofs.Ytnpamcpoaklgeaa
open Go Go.RowKit
theorem keyInt : KeyOK Try.prog 3 I := fun a b => by
  simp only [I, keyEq, if_true]
  congr 1
theorem lk137 {σ : Sg} {id : Nat} {k : Int} {ok : Bool} : lookupPV Try.prog σ 137 (.map id) (.int .i64 k) ok = lkX Try.prog 3 (I 0) σ id (.int .i64 k) ok := lk_of Try.underlying137 Try.underlying3 (by kernel_rfl) rfl σ id ok
theorem up137 {σ : Sg} {id : Nat} {k : Int} {v : PV} : updatePV Try.prog σ 137 (.map id) (.int .i64 k) v = upX Try.prog 3 σ id (.int .i64 k) v := up_of Try.underlying137 Try.underlying3 rfl v σ id
theorem lkI {m : List (Int × Int)} {k : Int} {ok : Bool} : lkM Try.prog 3 (I 0) (some (some (.mark :: mapE I I m))) (.int .i64 k) ok = some (packPV ok (I ((aget k m).getD 0)) (aget k m).isSome) := by
  have := lkM_map (z := I 0) keyInt I m k ok
  simp only [I] at this ⊢
  rw [this]
  cases aget k m <;> rfl
theorem upI {m : List (Int × Int)} {k v : Int} : upM Try.prog 3 (some (some (.mark :: mapE I I m))) (.int .i64 k) (.int .i64 v) = some (.mark :: mapE I I (aput k v m)) := upM_map keyInt I m k v
theorem upI0 {k v : Int} : upM Try.prog 3 (some (some [.mark])) (.int .i64 k) (.int .i64 v) = some (.mark :: mapE I I [(k, v)]) := upM_map keyInt I [] k v
theorem packT {v : PV} {b : Bool} : packPV true v b = .tuple [v, .bool b] := rfl
theorem packF {v : PV} {b : Bool} : packPV false v b = v := rfl
theorem evN_tmp {E : Env} {t : Nat} : evN E (.tmp t) = E.get t := rfl
theorem evN_int {E : Env} {k : IntKind} {n : Int} : evN E (.const (.int k n)) = .int k n := rfl
theorem evN_bool {E : Env} {b : Bool} : evN E (.const (.bool b)) = .bool b := rfl
theorem evN_nil {E : Env} : evN E (.const (.slice none 0 0)) = .nilsl := rfl
theorem sll22 {xs : List Int} {own : Own} {k : IntKind} {n : Int} : slicePV Try.prog 22 (.isl (xs.map I) own) (some (.int k n)) none none = if 0 ≤ n then if n.toNat ≤ xs.length then some (.isl ((xs.drop n.toNat).map I) own) else none else none := slLo_of Try.underlying22 Try.underlying3 cells3 (fun _ => rfl) xs own k n
attribute [go_sem] sll22 lk137 up137 lkI upI upI0 packT packF evN_tmp evN_int evN_bool evN_nil lkX_ext lkX_ext0 upX_ext upX_ext0 lkX_svx Cl_map Cl_nilmap Cl_mark Cl_gsl Cl_gnil CleanAll_mapI setI setB
end Go.Proofs.Ytnpamcpoaklgeaa
namespace Go.Proofs.Ytnpamcpoaklgeaa
open Go Go.RowKit
/-- A slice of numbers that grows in place: nothing yet, or the last of a row of variables (those before it are gone). -/
def glI (n : Nat) (out : List Int) : PV := match out with
  | [] => .gnil
  | _ :: t => .gsl (n + t.length) (t.length + 1) 1
def gsI (out : List Int) : List (Option (List PV)) := match out with
  | [] => []
  | _ :: t => List.replicate t.length none ++ [some (out.map I)]
theorem gsI_len (out : List Int) : (gsI out).length = out.length := by cases out <;> simp [gsI]
theorem glI_cells (n : Nat) (out : List Int) : (glI n out).cells = [glI n out] := by cases out <;> rfl
theorem glI_scalar (n : Nat) (out : List Int) : (glI n out).scalar = true := by cases out <;> rfl
theorem glI_defd (n : Nat) (out : List Int) : defd (glI n out) = true := by cases out <;> rfl
theorem appendAny_gl {P : Program} {σ : Sg} {t t' : TypeId} {n : Nat} {out : List Int} {y : PV} : appendAny P σ t t' (glI n out) y = appendG P σ t t' (glI n out) y := by cases out <;> rfl
theorem cells_gsl (a b c : Nat) : (PV.gsl a b c).cells = [PV.gsl a b c] := rfl
theorem cells_gnil : PV.gnil.cells = [PV.gnil] := rfl
attribute [go_sem] appendAny_gl cells_gsl cells_gnil
attribute [go_sem high] glI_cells glI_scalar glI_defd
theorem stX_glI {σ : Sg} {l : List (Option (List PV))} {rm : List Nat} {ys : List LState} {j off n : Nat} {out : List Int} : stX 1 (σ.ext l rm ys) (σ.store.length + j) off (glI n out) = match l[j]? with
    | some (some cs) => if off + 1 ≤ cs.length then some (σ.ext (l.set j (some (putCells cs off [glI n out]))) rm ys) else none
    | _ => none := by
  simp only [stX_ext, glI_defd, glI_cells, List.all_cons, List.all_nil, glI_scalar]
  rcases l[j]? with _ | _ | cs <;> simp
attribute [go_sem high] stX_glI
theorem glI_clean {a b c n : Nat} {out : List Int} (h : n + out.length ≤ a) : Clean a b c (glI n out) := by
  cases out with
  | nil => exact .gnil
  | cons x out => exact .gsl _ _ _ (by simp at h; omega)
theorem CleanLs_append {a b c : Nat} {l m : List (Option (List PV))} (h : CleanLs a b c l) (k : CleanLs a b c m) : CleanLs a b c (l ++ m) := fun cs hcs => by
  rcases List.mem_append.1 hcs with h' | h'
  · exact h cs h'
  · exact k cs h'
theorem CleanLs_rep {a b c : Nat} (n : Nat) : CleanLs a b c (List.replicate n none) := fun cs hcs => by
  have := List.eq_of_mem_replicate hcs
  cases this
theorem gsI_clean {a b c : Nat} (out : List Int) : CleanLs a b c (gsI out) := by
  cases out with
  | nil => simp only [gsI, CleanLs_nil]
  | cons x out =>
    refine CleanLs_append (CleanLs_rep _) ?_
    simp only [CleanLs_cons, CleanLs_nil, and_true]
    intro p hp
    obtain ⟨y, _, rfl⟩ := List.mem_map.1 hp
    exact .int _ _
section
variable {σ : Sg} {A : List (Option (List PV))} {rm : List Nat} {ys : List LState} {N : Nat} {lo : Nat × Nat} {E : Env} {out : List Int}
theorem get_mid {α : Type} {A B : List α} {x : α} : (A ++ x :: B)[A.length]? = some x := by simp
theorem set_mid {α : Type} {A B : List α} {x y : α} : (A ++ x :: B).set A.length y = A ++ y :: B := by simp
theorem gsI_get {x : Int} : (A ++ gsI (x :: out))[A.length + out.length]? = some (some ((x :: out).map I)) := by
  have : A.length + out.length = (A ++ List.replicate out.length (none : Option (List PV))).length := by simp
  rw [this, gsI, ← List.append_assoc]
  exact get_mid
theorem gsI_set {x : Int} {y : Option (List PV)} : (A ++ gsI (x :: out)).set (A.length + out.length) y = A ++ (List.replicate out.length none ++ [y]) := by
  have : A.length + out.length = (A ++ List.replicate out.length (none : Option (List PV))).length := by simp
  rw [this, gsI, ← List.append_assoc, ← List.append_assoc]
  exact set_mid
theorem appG_gl (x : Int) (h : (out.length + 1) * 8 ≤ 2 ^ 47) : appG 1 8 (σ.ext (A ++ gsI out) rm ys) (glI (σ.store.length + A.length) out) [I x] = some (glI (σ.store.length + A.length) (out ++ [x]), σ.ext (A ++ gsI (out ++ [x])) rm ys) := by
  cases out with
  | nil =>
    rw [glI, appG_nil (by rfl) (by simp) (by simp)]
    simp [gsI, glI, rowC, Sg.push_ext, Sg.len_ext]
  | cons y out =>
    simp only [glI]
    rw [appG_more (cs := (y :: out).map I) (by rw [Nat.add_assoc, Sg.get_ext]; exact gsI_get) (by simp) (by rfl) (by simp) (by simpa using h)]
    rw [Nat.add_assoc (Sg.store σ).length, Sg.drop_ext, gsI_set]
    simp only [Sg.push_ext, Sg.len_ext, rowC]
    have e : List.replicate (out ++ [x]).length (none : Option (List PV)) = List.replicate out.length none ++ [none] := by simp [List.replicate_succ']
    simp only [List.cons_append, gsI, e]
    simp [Nat.add_assoc]
theorem sortI_nil : sortI [] = [] := by simp [sortI]
theorem compact_nil : Lib.compact ([] : List Int) = [] := by simp [Lib.compact, Lib.compactUpTo]
theorem glI_sort (n : Nat) : glI n (sortI out) = glI n out := by
  have hl := sortI_len out
  cases h : sortI out with
  | nil =>
    rw [h] at hl
    cases out with
    | nil => rfl
    | cons x out => simp at hl
  | cons y s =>
    rw [h] at hl
    cases out with
    | nil => simp at hl
    | cons x out => simp only [List.length_cons] at hl; simp only [glI]; rw [show s.length = out.length by omega]
theorem sort_gl {P : Program} {Y : YEnv} {f : FuncId} (h : SortsI P f) (hl : out.length < 2 ^ 60) : PC P Y f [glI (σ.store.length + A.length) out] (σ.ext (A ++ gsI out) rm ys) (.tuple []) (σ.ext (A ++ gsI (sortI out)) rm ys) := by
  cases out with
  | nil => rw [sortI_nil]; exact PC_sort0 h
  | cons x out =>
    have h1 := PC_sortI (Y := Y) (σ := σ.ext (A ++ gsI (x :: out)) rm ys) (id := σ.store.length + A.length + out.length) (xs := x :: out) h (by rw [Nat.add_assoc, Sg.get_ext]; exact gsI_get) hl
    rw [Nat.add_assoc, Sg.set_ext, gsI_set] at h1
    have e : A ++ (List.replicate out.length none ++ [some ((sortI (x :: out)).map I)]) = A ++ gsI (sortI (x :: out)) := by
      have hs := sortI_len (x :: out)
      cases hc : sortI (x :: out) with
      | nil => rw [hc] at hs; simp at hs
      | cons y s =>
        rw [hc] at hs
        simp only [List.length_cons] at hs
        simp only [gsI]
        rw [show out.length = s.length by omega]
    rw [e] at h1
    simp only [glI]
    rw [Nat.add_assoc]
    exact h1
/-- Compacted. -/
def glC (n : Nat) (s : List Int) : PV := match s with
  | [] => .gnil
  | _ :: t => .gsl (n + t.length) (Lib.compact s).length 1
def gsC (s : List Int) : List (Option (List PV)) := match s with
  | [] => []
  | _ :: t => List.replicate t.length none ++ [some ((Lib.compact s).map I ++ (List.replicate (s.length - (Lib.compact s).length) 0).map I)]
theorem glC_cells (n : Nat) (out : List Int) : (glC n out).cells = [glC n out] := by cases out <;> rfl
theorem glC_scalar (n : Nat) (out : List Int) : (glC n out).scalar = true := by cases out <;> rfl
theorem glC_defd (n : Nat) (out : List Int) : defd (glC n out) = true := by cases out <;> rfl
attribute [go_sem high] glC_cells glC_scalar glC_defd
theorem stX_glC {σ : Sg} {l : List (Option (List PV))} {rm : List Nat} {ys : List LState} {j off n : Nat} {out : List Int} : stX 1 (σ.ext l rm ys) (σ.store.length + j) off (glC n out) = match l[j]? with
    | some (some cs) => if off + 1 ≤ cs.length then some (σ.ext (l.set j (some (putCells cs off [glC n out]))) rm ys) else none
    | _ => none := by
  simp only [stX_ext, glC_defd, glC_cells, List.all_cons, List.all_nil, glC_scalar]
  rcases l[j]? with _ | _ | cs <;> simp
attribute [go_sem high] stX_glC
theorem compact_gl {P : Program} {Y : YEnv} {f : FuncId} (h : CompactsI P f) (hl : out.length < 2 ^ 60) : PC P Y f [glI (σ.store.length + A.length) out] (σ.ext (A ++ gsI out) rm ys) (glC (σ.store.length + A.length) out) (σ.ext (A ++ gsC out) rm ys) := by
  cases out with
  | nil => exact PC_compact0 h
  | cons x out =>
    have h1 := PC_compactI (Y := Y) (σ := σ.ext (A ++ gsI (x :: out)) rm ys) (id := σ.store.length + A.length + out.length) (xs := x :: out) h (by rw [Nat.add_assoc, Sg.get_ext]; exact gsI_get) hl
    rw [Nat.add_assoc, Sg.set_ext, gsI_set, List.map_append] at h1
    simp only [glI, glC, gsC]
    rw [Nat.add_assoc]
    exact h1
/-- Read at last. -/
theorem Weak.readC {j : Nat} (hj : A[j]? = some (some [glC (σ.store.length + A.length) out])) :
    Weak N lo E (σ.ext (A ++ gsC out) rm ys) E (σ.ext (A.set j (some [.isl ((Lib.compact out).map I) .ro]) ++ List.replicate out.length none) rm ys) := by
  have hlt := (List.getElem?_eq_some_iff.1 hj).1
  cases out with
  | nil =>
    have h := Weak.ungnilX (N := N) (lo := lo) (E := E) (σ := σ) (l := A) (rm := rm) (ys := ys) (j := j) (off := 0) hj rfl
    rw [compact_nil]; simpa [gsC] using h
  | cons x out =>
    have hlen : A.length + out.length = (A ++ List.replicate out.length (none : Option (List PV))).length := by simp
    have h := Weak.freezeX (N := N) (lo := lo) (E := E) (σ := σ) (l := A ++ gsC (x :: out)) (rm := rm) (ys := ys) (j := j) (k := A.length + out.length) (off := 0) (ccs := [glC (σ.store.length + A.length) (x :: out)]) (len := (Lib.compact (x :: out)).length) (es := 1) (m := (Lib.compact (x :: out)).map I) (by omega) (by rw [List.getElem?_append_left hlt]; exact hj) (by simp only [glC, Nat.add_assoc]; rfl)
      (by rw [rowC_ints, gsC, ← List.append_assoc, hlen]; exact get_mid) (by simp) (fun q hq => by obtain ⟨y, _, rfl⟩ := List.mem_map.1 hq; rfl)
    have e : ((A ++ gsC (x :: out)).set (A.length + out.length) none).set j (some ([glC (σ.store.length + A.length) (x :: out)].set 0 (.isl ((Lib.compact (x :: out)).map I) .ro))) = A.set j (some [.isl ((Lib.compact (x :: out)).map I) .ro]) ++ List.replicate (x :: out).length none := by
      have e1 : (A ++ gsC (x :: out)).set (A.length + out.length) none = A ++ (List.replicate out.length none ++ [none]) := by
        rw [gsC, ← List.append_assoc, hlen, set_mid, List.append_assoc]
      rw [e1, List.set_append_left _ _ hlt]
      simp [List.replicate_succ']
    rw [e] at h
    exact h
end
end Go.Proofs.Ytnpamcpoaklgeaa
namespace Go.Proofs.Ytnpamcpoaklgeaa
open Go Go.RowKit
set_option maxRecDepth 100000
theorem Fin_more {P : Program} {fn : Func} {σ σ' : Sg} {E : Env} {rs : List PV} {v : PV} (hcl : CleanSg σ') (h1 : σ.store.length ≤ σ'.store.length) (h2 : σ.rooms.length ≤ σ'.rooms.length) (h3 : σ'.ys.length = σ.ys.length)
    (hr : resPV P σ' E fn.results.toList = some rs) (hv : Wk σ'.store.length σ'.rooms.length σ.ys.length (oneOr rs) v) : Fin P fn σ v σ' E σ' := by
  refine ⟨rs, _, _, hr, h1, h2, hv, ?_, ?_, h3⟩
  · rw [← h3]; simp [Sg.cut]
  · unfold CleanSg at hcl; rw [h3] at hcl; exact hcl
theorem startsM_pc (Y : YEnv) (y id : Nat) (a b e f : PV) (lo hi : Int) (τ : Int → Sg) (hlo : -2 ^ 63 ≤ lo) (hhi : hi < 2 ^ 63 - 1) (hm : lo ≤ hi + 1)
    (hst : ∀ s, lo ≤ s → s ≤ hi + 1 → (τ s).store[id]? = some (some [a, b, .int .i64 lo, .int .i64 hi, e, f]))
    (hY : ∀ s, lo ≤ s → s ≤ hi → Y y [.int .i64 s] (τ s) true (τ (s + 1))) (hlen : (τ lo).store.length ≤ (τ (hi + 1)).store.length) (hr : (τ lo).rooms.length ≤ (τ (hi + 1)).rooms.length) (hy : (τ (hi + 1)).ys.length = (τ lo).ys.length)
    (hcl' : CleanSg (τ lo) → CleanSg (τ (hi + 1))) : PC Try.prog Y 125 [.yield y, .ptr id 0] (τ lo) (.tuple []) (τ (hi + 1)) := by
  refine PC_of_W Try.func125 rfl (by kernel_rfl) Try.ntmps125 (by simp) fun hcl hca => ?_
  refine W_seq fun K1 h1 => ?_
  refine W_region [0, 1, 3] fun K2 h2 => ?_
  have hs0 := hst lo (by omega) (by omega)
  simp only [go_sem, ldS_at hs0]
  refine h2 _ _ (h1 _ _ ?_); clear h1 h2 K1 K2
  refine W_block ?_
  simp only [go_sem]
  refine W_loopK (fun k E σ' => ∃ s, (k : Int) = hi + 1 - s ∧ lo ≤ s ∧ s ≤ hi + 1 ∧ E = [(0, .yield y), (1, .ptr id 0), (3, .int .i64 s)] ∧ σ' = τ s) (hi + 1 - lo).toNat ⟨lo, by omega, by omega, by omega, rfl, rfl⟩ ?_
  rintro k E σ' ⟨s, hk, hs1, hs2, rfl, rfl⟩
  have hs := hst s hs1 hs2
  refine W_seq fun K1 h1 => ?_
  refine W_seq fun K3 h3 => ?_
  refine W_region [0, 1, 3, 16] fun K2 h2 => ?_
  simp only [go_sem, ldS_at hs]
  refine GWant_split (fun c => ?_) (fun c => ?_)
  · simp only [go_sem, c]
    refine GYield_of (hY s hs1 (by simpa using c)) ?_
    simp only [go_sem, c]
    refine h2 _ _ (h3 _ _ ?_); clear h2 h3 K2 K3
    simp only [go_sem]
    refine W_cond_true rfl (W_skip ?_)
    refine h1 _ _ ?_; clear h1 K1
    refine W_seq fun K1 h1 => ?_
    refine W_block (W_skip (h1 _ _ ?_)); clear h1 K1
    refine W_region [0, 1, 3] fun K2 h2 => ?_
    have hsh : s ≤ hi := by simpa using c
    simp only [go_sem]
    refine h2 _ _ ?_
    simp only [go_sem]
    rw [wrap_i64_id (by omega) (by omega)]
    exact ⟨k - 1, by omega, s + 1, by omega, by omega, by omega, rfl, rfl⟩
  · simp only [go_sem, c]
    refine h2 _ _ (h3 _ _ ?_); clear h2 h3 K2 K3
    simp only [go_sem]
    refine W_cond_false rfl (W_exit ?_)
    simp only [go_sem]
    have : s = hi + 1 := by simp at c; omega
    subst this
    refine ⟨.inl (by trivial), Fin_more (hcl' hcl) hlen hr hy rfl (Wk.of_clean (.tuple _ Clean.all_nil))⟩
/-- Where in its visits a band is in a minute. -/
def whAt (c : City) (b : Band) (minute s : Int) : Int := vIdx (fun v => inR minute v.lo v.hi) 0 (visOf c b s)
def whStep (c : City) (b : Band) (minute s : Int) (p : List Int × Bool) : List Int × Bool :=
  if whAt c b minute s < 0 then (p.1, true) else match (visOf c b s)[(whAt c b minute s).toNat]? with
    | some v => (p.1 ++ [v.sq], p.2)
    | none => p
def whAll (c : City) (b : Band) (minute : Int) : List Int × Bool := upTo (whStep c b minute) b.lo (b.hi + 1) ([], false)
def whereAns (c : City) (b : Band) (minute : Int) : (List Int × Bool) × Int :=
  if askedOf c [b] ≠ 0 then (([], false), askedOf c [b]) else if !(inR minute 0 719) then (([], false), 2) else ((Lib.compact (sortI (whAll c b minute).1), (whAll c b minute).2), 0)
theorem vIdx_at (q : Vis → Bool) : ∀ (l : List Vis) (i : Nat), vIdx q i l = -1 ∨ ∃ k v, vIdx q i l = ((i + k : Nat) : Int) ∧ l[k]? = some v ∧ q v = true := by
  intro l
  induction l with
  | nil => intro i; exact .inl rfl
  | cons x l ih =>
    intro i
    simp only [vIdx]
    by_cases h : q x = true
    · rw [if_pos h]; exact .inr ⟨0, x, rfl, rfl, h⟩
    · rw [if_neg h]
      rcases ih (i + 1) with h2 | ⟨k, v, h2, h3, h4⟩
      · exact .inl h2
      · exact .inr ⟨k + 1, v, by rw [h2]; congr 1; omega, h3, h4⟩
theorem whAt_get {c : City} {b : Band} {minute s : Int} (h : ¬ whAt c b minute s < 0) : ∃ v, (visOf c b s)[(whAt c b minute s).toNat]? = some v ∧ 0 ≤ whAt c b minute s ∧ inR minute v.lo v.hi = true := by
  unfold whAt at h ⊢
  rcases vIdx_at (fun v => inR minute v.lo v.hi) (visOf c b s) 0 with h2 | ⟨k, v, h2, h3, h4⟩
  · omega
  · rw [h2] at h ⊢
    exact ⟨v, by simpa using h3, by omega, h4⟩
theorem whStep_len (c : City) (b : Band) (minute s : Int) (p : List Int × Bool) : (whStep c b minute s p).1.length ≤ p.1.length + 1 := by
  unfold whStep
  split
  · simp
  · split <;> simp
theorem foldUp_len (c : City) (b : Band) (minute lo : Int) : ∀ (n : Nat) (p : List Int × Bool), (foldUp (whStep c b minute) lo n p).1.length ≤ p.1.length + n := by
  intro n
  induction n with
  | zero => intro p; simp [foldUp]
  | succ n ih =>
    intro p
    simp only [foldUp]
    have := whStep_len c b minute (lo + n) (foldUp (whStep c b minute) lo n p)
    have := ih p
    omega
set_option maxHeartbeats 4000000 in
theorem Where_pc (Y : YEnv) (σ : Sg) (ct : City) (b : Band) (minute : Int) (hc : ct.Ok) (hb : b.path.length < 2 ^ 50) :
    PC Try.prog Y 49 [ctPV ct, bdPV b, I minute] σ (.tuple [ints (whereAns ct b minute).1.1, .bool (whereAns ct b minute).1.2, I (whereAns ct b minute).2]) (σ) := by
  refine PC_of_W Try.func49 rfl (by kernel_rfl) Try.ntmps49 (by simp) fun hcl hca => ?_
  refine W_seq fun kz1 kq1 => ?_
  refine W_region [3, 4, 5, 6, 7] fun R hR => ?_   -- r0
  simp only [go_sem]
  refine hR _ _ (kq1 _ _ ?_); clear hR R; try clear kq1 kz1
  try simp only [go_sem]
  refine W_seq fun kz2 kq2 => ?_
  refine W_seq fun kz3 kq3 => ?_
  refine W_region [3, 4, 5, 6, 7, 9] fun R hR => ?_   -- r1
  simp only [go_sem]
  refine GCall_of (PC.ofRo (asked_pc Y _ ct [b] hc ⟨by simp, fun x hx => by simp at hx; subst hx; assumption⟩) (by simp only [go_sem, bands] <;> rfl)) ?_   -- t15
  simp only [go_sem]
  refine hR _ _ (kq3 _ _ ?_); clear hR R; try clear kq3 kz3
  try simp only [go_sem]
  refine W_seq fun kz4 kq4 => ?_
  refine W_region [3, 4, 5, 6, 7, 9, 17] fun R hR => ?_   -- r2
  simp only [go_sem]
  refine hR _ _ (kq4 _ _ ?_); clear hR R; try clear kq4 kz4
  try simp only [go_sem]
  refine W_cond rfl (fun c1 => ?_) (fun c1 => ?_)
  · -- c1 true
    try simp only [nrm] at c1
    refine W_seq fun kz5 kq5 => ?_
    refine W_region [6, 7, 8] fun R hR => ?_   -- r3
    simp only [go_sem]
    refine hR _ _ (kq5 _ _ ?_); clear hR R; try clear kq5 kz5
    try simp only [go_sem]
    refine W_ret ?_
    simp only [go_sem]
    refine ⟨.inr (by trivial), ?_⟩
    refine Fin_same hcl (by show resPV Try.prog _ _ [.cell 6 22, .cell 7 4, .tmp 8] = some _; simp only [resPV, go_sem]; rfl) (Wk.ro (by simp only [go_sem]) ?_)
    try simp only [go_sem]
    all_goals
      unfold whereAns
      rw [if_pos (by simpa using c1)]
      rfl
  · -- c1 false
    try simp only [nrm] at c1
    have hask : askedOf ct [b] = 0 := by simpa using c1
    have hcb : chkBand ct b = 0 := by
      have := hask
      unfold askedOf at this
      split at this
      · omega
      · simp only [chkBands] at this
        split at this <;> omega
    have htm := timesOf_ok (chkBand_ok hcb).2
    refine W_skip (kq2 _ _ ?_)
    refine W_seq fun kz6 kq6 => ?_
    refine W_seq fun kz7 kq7 => ?_
    refine W_region [3, 4, 5, 6, 7, 21] fun R hR => ?_   -- r4
    simp only [go_sem]
    refine GCall_of (in_pc Y _ minute 0 719) ?_   -- t20
    simp only [go_sem]
    refine hR _ _ (kq7 _ _ ?_); clear hR R; try clear kq7 kz7
    try simp only [go_sem]
    refine W_cond rfl (fun c2 => ?_) (fun c2 => ?_)
    · -- c2 true
      try simp only [nrm] at c2
      refine W_seq fun kz8 kq8 => ?_
      refine W_region [6, 7, 8] fun R hR => ?_   -- r5
      simp only [go_sem]
      refine hR _ _ (kq8 _ _ ?_); clear hR R; try clear kq8 kz8
      try simp only [go_sem]
      refine W_ret ?_
      simp only [go_sem]
      refine ⟨.inr (by trivial), ?_⟩
      refine Fin_same hcl (by show resPV Try.prog _ _ [.cell 6 22, .cell 7 4, .tmp 8] = some _; simp only [resPV, go_sem]; rfl) (Wk.ro (by simp only [go_sem]) ?_)
      try simp only [go_sem]
      all_goals
        unfold whereAns
        rw [if_neg (by simpa using c1), if_pos (by simpa using c2)]
        rfl
    · -- c2 false
      try simp only [nrm] at c2
      refine W_skip (kq6 _ _ ?_)
      refine W_seq fun kz9 kq9 => ?_
      refine W_seq fun kz10 kq10 => ?_
      refine W_region [3, 4, 5, 6, 7, 23] fun R hR => ?_   -- r6
      simp only [go_sem]
      refine GCall_of (starts_pc Y _ _ _ _ _ _ _) ?_   -- t23
      simp only [go_sem]
      refine hR _ _ (kq10 _ _ ?_); clear hR R; try clear kq10 kz10
      try simp only [go_sem]
      refine W_block ?_
      let L : List Int × Bool → List (Option (List PV)) := fun p => [some (ctCells ct), some (bdCells b), some [I minute], some [glI (σ.store.length + 6) p.1], some [.bool p.2], some (bdCells b)] ++ gsI p.1
      let so : Int → Sg := fun i => σ.ext (L (upTo (whStep ct b minute) b.lo i ([], false))) [] [.ready]
      have hLc : ∀ p (n r y : Nat), σ.store.length + 6 + p.1.length ≤ n → CleanLs n r y (L p) := fun p n r y h1 => by
        refine CleanLs_append ?_ (gsI_clean _)
        have := glI_clean (a := n) (b := r) (c := y) h1
        simp only [go_sem, this]
      refine W_weak (Weak.gnilX (j := 3) (off := 0) rfl rfl) ?_
      simp only [go_sem]
      refine W_rangeFunc (gf := 125) (v := .tuple []) (s := .ready) (σ5 := so (b.hi + 1)) rfl (by simp) (fun args τ b' τ' => ∃ i, b.lo ≤ i ∧ i ≤ b.hi ∧ args = [I i] ∧ b' = true ∧ τ = so i ∧ τ' = so (i + 1)) ?_ ?_ ?_ ?_ ?_
      · rintro args τ b τ' ⟨i, hi1, hi2, rfl, rfl, rfl, rfl⟩
        refine ⟨rfl, ?_, ?_⟩
        · simp only [so, go_sem]
        · simp only [so, L, go_sem]
          refine W_region [3, 4, 5, 6, 7, 10] fun R hR => ?_   -- r7
          simp only [go_sem, putAll]
          refine hR _ _ ?_; clear hR R
          try simp only [go_sem, putAll]
          obtain ⟨p, hp⟩ : ∃ p, p = upTo (whStep ct b minute) b.lo i ([], false) := ⟨_, rfl⟩
          have hpl : p.1.length ≤ 720 := by
            rw [hp]
            unfold upTo
            have := foldUp_len ct b minute b.lo (i - b.lo).toNat ([], false)
            simp at this
            omega
          obtain ⟨out, aw⟩ := p
          rw [upTo_step _ hi1, ← hp]
          simp only [← hp]
          obtain ⟨vs, hvs⟩ : ∃ z, visOf ct b i = z := ⟨_, rfl⟩
          obtain ⟨k, hk⟩ : ∃ z, whAt ct b minute i = z := ⟨_, rfl⟩
          have hk' : vIdx (fun v => inR minute v.lo v.hi) 0 vs = k := by rw [← hvs]; exact hk
          have hvl : vs.length ≤ 13 := by rw [← hvs]; unfold visOf; rw [visFrom_len]; exact (sqs_len ct b).1
          refine W_post_weak ?_
          refine W_block ?_
          refine W_seq fun kz11 kq11 => ?_
          refine W_region [3, 4, 6, 7, 10, 11] fun R hR => ?_   -- r8
          simp only [go_sem, putAll]
          refine GCall_of (PC.val (v' := .isl (vs.map vsPV) .ro) (visits_pc Y _ ct b i hc hb (by omega) (by omega) (by omega) (by omega)) (by rw [hvs])) ?_   -- t28
          simp only [go_sem, putAll]
          refine GCall_of (PC.val (v' := I k) (vindex_pc Y _ vs .ro (by omega) 91 (.ptr (σ.store.length + 2) 0) _ (fun x => where1_pc Y _ x minute _ (Sg.get_ext ..))) (by rw [hk'])) ?_   -- t30
          simp only [go_sem, putAll]
          refine hR _ _ (kq11 _ _ ?_); clear hR R; try clear kq11 kz11
          try simp only [go_sem, putAll]
          refine W_seq fun kz12 kq12 => ?_
          refine W_seq fun kz13 kq13 => ?_
          refine W_region [3, 4, 6, 7, 10, 11, 32] fun R hR => ?_   -- r9
          simp only [go_sem, putAll]
          refine hR _ _ (kq13 _ _ ?_); clear hR R; try clear kq13 kz13
          try simp only [go_sem, putAll]
          refine W_cond rfl (fun c3 => ?_) (fun c3 => ?_)
          · -- c3 true
            try simp only [nrm] at c3
            refine W_seq fun kz14 kq14 => ?_
            refine W_region [] fun R hR => ?_   -- r10
            simp only [go_sem, putAll]
            refine hR _ _ (kq14 _ _ ?_); clear hR R; try clear kq14 kz14
            try simp only [go_sem, putAll]
            refine W_exit ?_
            simp only [go_sem, putAll]
            have hst : whStep ct b minute i (out, aw) = (out, true) := by unfold whStep; rw [hk, if_pos (by simpa using c3)]
            refine ⟨[], _, Weak.keep [], ?_⟩
            simp only [hst, RoundEnd, go_sem]
          · -- c3 false
            try simp only [nrm] at c3
            obtain ⟨v, hv, hk0, _⟩ := whAt_get (c := ct) (b := b) (minute := minute) (s := i) (by rw [hk]; simpa using c3)
            rw [hvs, hk] at hv
            rw [hk] at hk0
            have happ := appG_gl (σ := σ) (A := [some (ctCells ct), some (bdCells b), some [I minute], some [glI (σ.store.length + 6) out], some [.bool aw], some (bdCells b)]) (rm := []) (ys := [.busy]) (out := out) v.sq (by simp at hpl; omega)
            simp only [go_sem, List.length_cons, List.length_nil] at happ
            refine W_skip (kq12 _ _ ?_)
            refine W_draw [] [0, 1, 2, 3, 4, 5, 6, 7, 8, 9, 10, 11] [(0, 10), (5, 4)] [[], [], [], [], [1, 2, 3], [], [1, 2, 3, 4, 5], [1, 2, 3, 4, 5, 6], [1, 2, 3, 4, 5, 6, 7], [1, 2, 3, 4, 5, 6, 7, 8], [0, 1, 2, 3, 4, 5, 6, 7, 8, 9], [0, 1, 2, 3, 4, 5, 6, 7, 8, 9, 10]] mixed (by kernel_rfl) fun R hR => ?_   -- r11
            simp only [go_sem, putAll, hv, hk0, happ]
            refine GCall_of (PC.val (v' := .isl (vs.map vsPV) .ro) (visits_pc Y _ ct b i hc hb (by omega) (by omega) (by omega) (by omega)) (by rw [hvs])) ?_   -- t37
            simp only [go_sem, putAll, hv, hk0, happ]
            try simp (disch := first | omega | (simp only [go_sem] <;> omega)) only [wrapI, wrapU, appX_exact, appX_tok]
            try simp only [go_sem, putAll, hv, hk0, happ]
            try refine And.intro (by repeat' (first | refine And.intro ?_ ?_ | exact GOr_right (fun _ => by simp only [go_sem, putAll, hv, hk0, happ]))) ?_
            refine hR _ _ ?_; clear hR R
            try simp only [go_sem, putAll, hv, hk0, happ]
            have hst : whStep ct b minute i (out, aw) = (out ++ [v.sq], aw) := by unfold whStep; rw [hk, if_neg (by simpa using c3), hvs]; simp only [hv]
            refine ⟨[], _, Weak.keep [], ?_⟩
            simp only [hst, RoundEnd, go_sem]
      · have hst := startsM_pc (Y.at σ.ys.length (fun args τ b' τ' => ∃ i, b.lo ≤ i ∧ i ≤ b.hi ∧ args = [I i] ∧ b' = true ∧ τ = so i ∧ τ' = so (i + 1))) σ.ys.length (σ.store.length + 5) (I b.first) (ints b.path) (I b.stay) (I b.people) b.lo b.hi so (by omega) (by omega) (by omega)
          (fun s _ _ => by simp only [so, L]; exact Sg.get_ext ..) (fun s h1 h2 => by rw [YEnv.at_self]; exact ⟨s, h1, h2, rfl, rfl, rfl, rfl⟩) (by simp only [so, upTo_start]; simp only [L, gsI, go_sem] <;> omega) (by simp only [so, L, go_sem] <;> omega) (by simp only [so, L, go_sem])
          (fun _ => CleanSg_ext hcl (by refine hLc _ _ _ _ ?_; simp only [L, gsI_len, go_sem] <;> omega))
        have e0 : so b.lo = σ.ext (L ([], false)) [] [.ready] := by simp only [so]; rw [upTo_start]
        rw [e0] at hst
        simp only [L, glI, gsI, go_sem] at hst ⊢
        exact hst
      · simp only [so, L, go_sem]
      · simp only [go_sem]
        exact CleanCut_ext hcl (by simp only [so, L, go_sem]; omega) (by simp only [so, L, go_sem, Nat.le_add_right]) (by omega) (by refine hLc _ _ _ _ ?_; simp only [so, L, gsI_len, go_sem] <;> omega)
      · simp only [AfterLoop, so, L, go_sem]
        have hres : whereAns ct b minute = ((Lib.compact (sortI (whAll ct b minute).1), (whAll ct b minute).2), 0) := by
          unfold whereAns
          rw [if_neg (by simpa using c1), if_neg (by simpa using c2)]
        unfold whAll at hres
        have hpl : (upTo (whStep ct b minute) b.lo (b.hi + 1) ([], false)).1.length ≤ 720 := by
          unfold upTo
          have := foldUp_len ct b minute b.lo (b.hi + 1 - b.lo).toNat ([], false)
          simp at this
          omega
        generalize upTo (whStep ct b minute) b.lo (b.hi + 1) ([], false) = p at hres hpl ⊢
        obtain ⟨out, aw⟩ := p
        simp only at hres hpl ⊢
        refine kq9 _ _ ?_
        refine W_seq fun kz15 kq15 => ?_
        refine W_region [6, 7] fun R hR => ?_   -- r12
        simp only [go_sem]
        refine GCall_of (sort_gl (A := [_, _, _, _, _, _]) sortsI (by omega)) ?_   -- t45
        simp only [go_sem]
        refine hR _ _ (kq15 _ _ ?_); clear hR R; try clear kq15 kz15
        try simp only [go_sem]
        refine W_seq fun kz16 kq16 => ?_
        rw [← glI_sort]
        refine W_draw [6, 7, 8] [0, 1, 2, 3, 4, 5] [(2, 1), (2, 4)] [[], [0], [], [0, 1], [0, 1, 2, 3], [0, 1, 2, 3, 4]] mixed (by kernel_rfl) fun R hR => ?_   -- r13
        simp only [go_sem]
        refine GCall_of (compact_gl (A := [_, _, _, _, _, _]) (out := sortI out) compactsI (by rw [sortI_len]; omega)) ?_   -- t47
        simp only [go_sem]
        try refine And.intro (by repeat' (first | refine And.intro ?_ ?_ | exact GOr_right (fun _ => by simp only [go_sem]))) ?_
        refine hR _ _ (kq16 _ _ ?_); clear hR R; try clear kq16 kz16
        try simp only [go_sem]
        refine W_weak (Weak.readC (A := [_, _, _, _, _, _]) (j := 3) rfl) ?_
        simp only [go_sem]
        refine W_ret ?_
        simp only [go_sem]
        refine ⟨.inr (by trivial), ?_⟩
        refine Fin_same hcl (by show resPV Try.prog _ _ [.cell 6 22, .cell 7 4, .tmp 8] = some _; simp only [resPV, go_sem]; rfl) (Wk.ro (by simp only [go_sem]) ?_)
        try simp only [go_sem]
        all_goals
          rw [hres]
end Go.Proofs.Ytnpamcpoaklgeaa
namespace Go.Proofs.Ytnpamcpoaklgeaa
open Go Go.RowKit
set_option maxRecDepth 100000
theorem rep_tab : rep 720 (PV.bool false) = tab fun _ => false := tab_none
theorem tab_put (h : Int → Bool) {m : Int} (h0 : 0 ≤ m) (h1 : m < 720) : putCells (tab h) m.toNat [PV.bool true] = tab fun s => h s || decide (s = m) := by
  rw [put_tab, tab_set h (by omega), Int.toNat_of_nonneg h0]
theorem putCells_full : ∀ (ds cs : List PV), cs.length = ds.length → putCells cs 0 ds = ds := by
  have key : ∀ (ds cs pre : List PV), cs.length = ds.length → putCells (pre ++ cs) pre.length ds = pre ++ ds := by
    intro ds
    induction ds with
    | nil => intro cs pre h; cases cs <;> simp_all [putCells]
    | cons d ds ih =>
      intro cs pre h
      cases cs with
      | nil => simp at h
      | cons c cs =>
        simp only [putCells]
        have e : (pre ++ c :: cs).set pre.length d = (pre ++ [d]) ++ cs := by simp [List.set_append]
        rw [e]
        have := ih cs (pre ++ [d]) (by simpa using h)
        simp only [List.length_append, List.length_cons, List.length_nil, Nat.zero_add] at this
        rw [this]
        simp
  intro ds cs h
  exact key ds cs [] h
theorem put_full (f g : Int → Bool) : putCells (tab f) 0 (tab g) = tab g := putCells_full _ _ (by rw [tab_len, tab_len])
theorem tab_take (f : Int → Bool) : (tab f).take 720 = tab f := List.take_of_length_le (by rw [tab_len]; omega)
theorem tab_scalar (f : Int → Bool) : (tab f).all PV.scalar = true := by
  rw [List.all_eq_true]
  intro p hp
  unfold tab at hp
  obtain ⟨t, _, rfl⟩ := List.mem_map.1 hp
  rfl
attribute [go_sem] rep_tab put_full tab_take tab_scalar
theorem hFrom_snoc (b : Band) (sq t s : Int) : ∀ (l : List Int) (k : Nat), hFrom b sq t k (l ++ [s]) =
    (hFrom b sq t k l || (decide (s = sq) && decide (b.lo + ((k + l.length : Nat) : Int) * b.stay ≤ t) && decide (t ≤ b.hi + ((k + l.length : Nat) : Int) * b.stay + b.stay - 1))) := by
  intro l
  induction l with
  | nil => intro k; simp [hFrom]
  | cons a r ih =>
    intro k
    simp only [List.cons_append, hFrom, List.length_cons]
    rw [ih, show k + 1 + r.length = k + (r.length + 1) by omega, Bool.or_assoc]
theorem take_snoc {α : Type} {l : List α} {i : Nat} {x : α} (h : l[i]? = some x) : l.take (i + 1) = l.take i ++ [x] := by
  rw [List.take_add_one, h]; rfl
theorem loudAt_snoc (c : City) (l : List Band) (b : Band) (sq t : Int) : loudAt c (l ++ [b]) sq t = (loudAt c l sq t || heardB c b sq t) := by simp [loudAt]
set_option maxHeartbeats 2000000 in
theorem loudness_pc (Y : YEnv) (σ : Sg) (ct : City) (l : List Band) (sq : Int) (hc : ct.Ok) (hl : BandsOk l) (hv : ∀ b, b ∈ l → chkBand ct b = 0) :
    PC Try.prog Y 105 [ctPV ct, bands l, I sq] σ (.agg (tab fun t => loudAt ct l sq t)) (σ) := by
  refine PC_of_W Try.func105 rfl (by kernel_rfl) Try.ntmps105 (by simp) fun hcl hca => ?_
  have hl1 := hl.1
  have hl2 := hl.2
  refine W_seq fun kz1 kq1 => ?_
  refine W_region [1, 2, 3, 6] fun R hR => ?_   -- r0
  simp only [go_sem, rep_tab]
  refine hR _ _ (kq1 _ _ ?_); clear hR R; try clear kq1 kz1
  try simp only [go_sem, rep_tab]
  refine W_seq fun kz2 kq2 => ?_
  refine W_region [1, 2, 3, 6, 7] fun R hR => ?_   -- r1
  simp only [go_sem, rep_tab]
  refine hR _ _ (kq2 _ _ ?_); clear hR R; try clear kq2 kz2
  try simp only [go_sem, rep_tab]
  refine W_seq fun kz3 kq3 => ?_
  refine W_seq fun kz4 kq4 => ?_
  refine W_region [2, 3, 6, 7, 15, 16, 17] fun R hR => ?_   -- r2
  simp only [go_sem, rep_tab]
  refine hR _ _ (kq4 _ _ ?_); clear hR R; try clear kq4 kz4
  try simp only [go_sem, rep_tab]
  refine W_block ?_
  refine W_loopT (α := Nat × (Int → Bool)) (fun ⟨i, f⟩ => [(17, I i)]) (fun ⟨i, f⟩ => σ.ext [some (ctCells ct), some (tab fun _ => false), some (tab f)] []) (fun ⟨i, f⟩ => i ≤ l.length ∧ ∀ t, f t = loudAt ct (l.take i) sq t) (fun ⟨i, f⟩ => l.length - i) ((0, fun _ => false)) rfl (by first | rfl | (simp only [go_sem]; done) | (simp only [go_sem]; rfl)) (⟨Nat.zero_le _, fun t => rfl⟩) ?_
  rintro ⟨i, f⟩ ⟨hi, hf⟩
  refine W_seq fun kz5 kq5 => ?_
  refine W_region [2, 3, 6, 7, 15, 16, 17, 18] fun R hR => ?_   -- r3
  simp only [go_sem, rep_tab]
  refine hR _ _ (kq5 _ _ ?_); clear hR R; try clear kq5 kz5
  try simp only [go_sem, rep_tab]
  refine W_seq fun kz6 kq6 => ?_
  refine W_cond rfl (fun c1 => ?_) (fun c1 => ?_)
  · -- c1 true
    try simp only [nrm] at c1
    have hi' : i < l.length := by first | assumption | omega
    obtain ⟨b, hx⟩ : ∃ b, l[i]? = some b := ⟨l[i], by simp [hi']⟩
    have hdrop : l.drop i = b :: l.drop (i + 1) := by
      rw [List.drop_eq_getElem_cons hi']; congr 1; exact (List.getElem?_eq_some_iff.1 hx).2
    have hbl : b ∈ l := List.mem_of_getElem? hx
    have htk := take_snoc hx
    obtain ⟨b1, b2, b3, b4, b5, b6, b7, b8, b9⟩ := timesOf_ok (chkBand_ok (hv b hbl)).2
    have hsl := sqs_len ct b
    have hp := hl2 b hbl
    have hlf : (visOf ct b b.lo).length = (sqs ct b).1.length := visFrom_len ..
    refine W_skip (kq6 _ _ ?_)
    refine W_seq fun kz7 kq7 => ?_
    refine W_block ?_
    refine W_seq fun kz8 kq8 => ?_
    refine W_region [2, 3, 6, 7, 9, 15, 16, 17] fun R hR => ?_   -- r4
    simp only [go_sem, rep_tab, hx]
    refine hR _ _ (kq8 _ _ ?_); clear hR R; try clear kq8 kz8
    try simp only [go_sem, rep_tab, hx]
    refine W_seq fun kz9 kq9 => ?_
    refine W_draw [2, 3, 6, 7, 10, 11, 15, 16, 17] [0, 1, 2, 3, 4, 5, 6, 7, 8, 9, 10, 11, 12, 13] [(6, 5), (7, 5), (8, 5), (9, 5), (10, 5)] [[], [], [], [2], [2, 3], [0, 1, 2, 3, 4], [], [], [], [8], [8, 9], [0, 1, 2, 3, 4, 5, 6, 7, 8, 9, 10], [0, 1, 2, 3, 4, 5, 6, 7, 8, 9, 10, 11], [0, 1, 2, 3, 4, 5, 6, 7, 8, 9, 10, 11, 12]] mixed (by kernel_rfl) fun R hR => ?_   -- r5
    simp only [go_sem, rep_tab, hx]
    refine GCall_of (visits_pc Y _ ct b b.lo hc hp (by omega) (by omega) (by omega) (by omega)) ?_   -- t26
    simp only [go_sem, rep_tab, hx]
    refine GCall_of (visits_pc Y _ ct b b.hi hc hp (by omega) (by omega) (by omega) (by omega)) ?_   -- t32
    simp only [go_sem, rep_tab, hx]
    refine hR _ _ (kq9 _ _ ?_); clear hR R; try clear kq9 kz9
    try simp only [go_sem, rep_tab, hx]
    refine W_seq fun kz10 kq10 => ?_
    refine W_region [2, 3, 6, 7, 11, 15, 16, 17, 33, 34, 35] fun R hR => ?_   -- r6
    simp only [go_sem, rep_tab, hx]
    refine hR _ _ (kq10 _ _ ?_); clear hR R; try clear kq10 kz10
    try simp only [go_sem, rep_tab, hx]
    refine W_block ?_
    refine W_loopT (α := Nat × (Int → Bool)) (fun ⟨k, g⟩ => [(35, I k)]) (fun ⟨k, g⟩ => σ.ext [some (ctCells ct), some (tab fun _ => false), some (tab g), some (bdCells b)] []) (fun ⟨k, g⟩ => k ≤ (sqs ct b).1.length ∧ ∀ t, g t = (f t || hFrom b sq t 0 ((sqs ct b).1.take k))) (fun ⟨k, g⟩ => (sqs ct b).1.length - k) ((0, f)) rfl (by first | rfl | (simp only [go_sem]; done) | (simp only [go_sem]; rfl)) (⟨Nat.zero_le _, fun t => by simp [hFrom]⟩) ?_
    rintro ⟨k, g⟩ ⟨hk, hg⟩
    refine W_seq fun kz11 kq11 => ?_
    refine W_region [2, 3, 6, 7, 11, 15, 16, 17, 33, 34, 35, 36] fun R hR => ?_   -- r7
    simp only [go_sem, rep_tab, hx]
    refine hR _ _ (kq11 _ _ ?_); clear hR R; try clear kq11 kz11
    try simp only [go_sem, rep_tab, hx]
    refine W_seq fun kz12 kq12 => ?_
    refine W_cond rfl (fun c2 => ?_) (fun c2 => ?_)
    · -- c2 true
      try simp only [nrm] at c2
      have hk' : k < (visOf ct b b.lo).length := by first | assumption | omega
      obtain ⟨s, hs⟩ : ∃ s, (sqs ct b).1[k]? = some s := ⟨(sqs ct b).1[k]'(by omega), by simp⟩
      have htk2 := take_snoc hs
      have hy : (visOf ct b b.lo)[k]? = some ⟨b.lo + (k : Int) * b.stay, b.lo + (k : Int) * b.stay + b.stay - 1, s⟩ := by unfold visOf; rw [visFrom_get, hs]; simp
      have hz : (visOf ct b b.hi)[k]? = some ⟨b.hi + (k : Int) * b.stay, b.hi + (k : Int) * b.stay + b.stay - 1, s⟩ := by unfold visOf; rw [visFrom_get, hs]; simp
      have hmu := mul_bd (a := (k : Int)) (b := b.stay) (A := 13) (B := 120) (by omega) (by omega) (by omega) (by omega)
      have hm9 : (k : Int) * b.stay + b.stay ≤ b.stay * ((b.path.length : Int) + 1) := by
        have := Int.mul_le_mul_of_nonneg_right (show (k : Int) + 1 ≤ (b.path.length : Int) + 1 by omega) (show 0 ≤ b.stay by omega)
        rw [Int.add_mul, Int.one_mul] at this
        rw [Int.mul_comm b.stay]
        exact this
      refine W_skip (kq12 _ _ ?_)
      refine W_seq fun kz13 kq13 => ?_
      refine W_block ?_
      refine W_seq fun kz14 kq14 => ?_
      refine W_region [2, 3, 6, 7, 11, 12, 13, 15, 16, 17, 33, 34, 35] fun R hR => ?_   -- r8
      simp only [go_sem, rep_tab, hx, hy]
      refine hR _ _ (kq14 _ _ ?_); clear hR R; try clear kq14 kz14
      try simp only [go_sem, rep_tab, hx, hy]
      refine W_seq fun kz15 kq15 => ?_
      refine W_region [2, 3, 6, 7, 11, 12, 13, 14, 15, 16, 17, 33, 34, 35] fun R hR => ?_   -- r9
      simp only [go_sem, rep_tab, hx, hy]
      refine hR _ _ (kq15 _ _ ?_); clear hR R; try clear kq15 kz15
      try simp only [go_sem, rep_tab, hx, hy]
      refine W_block ?_
      refine W_loopT (α := Int × (Int → Bool)) (fun ⟨m, h⟩ => [(14, I m)]) (fun ⟨m, h⟩ => σ.ext [some (ctCells ct), some (tab fun _ => false), some (tab h), some (bdCells b), some [I (b.lo + (k : Int) * b.stay), I (b.lo + (k : Int) * b.stay + b.stay - 1), I s]] []) (fun ⟨m, h⟩ => b.lo + (k : Int) * b.stay ≤ m ∧ m ≤ b.hi + (k : Int) * b.stay + b.stay ∧ ∀ t, h t = (g t || (decide (s = sq) && decide (b.lo + (k : Int) * b.stay ≤ t) && decide (t < m)))) (fun ⟨m, h⟩ => (b.hi + (k : Int) * b.stay + b.stay - m).toNat) ((b.lo + (k : Int) * b.stay, g)) rfl (by first | rfl | (simp only [go_sem]; done) | (simp only [go_sem]; rfl)) (⟨Int.le_refl _, by (try dsimp only); omega, fun t => by simp; omega⟩) ?_
      rintro ⟨m, h⟩ ⟨hm1, hm2, hh⟩
      refine W_seq fun kz16 kq16 => ?_
      refine W_seq fun kz17 kq17 => ?_
      refine W_region [2, 3, 6, 7, 11, 12, 13, 14, 15, 16, 17, 33, 34, 35, 56] fun R hR => ?_   -- r10
      simp only [go_sem, rep_tab, hx, hy, hz]
      refine GWant_split (fun g1 => ?_) (fun g1 => ?_)
      · try simp only [Bool.not_eq_true', Bool.not_eq_false'] at g1
        have n1 := g1; try simp only [nrm] at n1
        simp only [go_sem, rep_tab, hx, hy, hz, g1]
        refine hR _ _ (kq17 _ _ ?_); clear hR R; try clear kq17 kz17
        try simp only [go_sem, rep_tab, hx, hy, hz]
        refine W_cond rfl (fun c3 => ?_) (fun c3 => ?_)
        · -- c3 true
          try simp only [nrm] at c3
          refine W_skip (kq16 _ _ ?_)
          refine W_seq fun kz18 kq18 => ?_
          refine W_block ?_
          have hmx0 : 0 ≤ m := by omega
          have hmx1 : m < 720 := by omega
          have hmx2 : m.toNat + 1 ≤ 720 := by omega
          refine W_region [2, 3, 6, 7, 11, 12, 13, 14, 15, 16, 17, 33, 34, 35] fun R hR => ?_   -- r12
          simp only [go_sem, rep_tab, hx, hy, hz, hmx0, hmx1, hmx2, tab_put h hmx0 hmx1, Nat.mul_one]
          refine hR _ _ (kq18 _ _ ?_); clear hR R; try clear kq18 kz18
          try simp only [go_sem, rep_tab, hx, hy, hz]
          refine W_region [2, 3, 6, 7, 11, 12, 13, 14, 15, 16, 17, 33, 34, 35] fun R hR => ?_   -- r11
          simp only [go_sem, rep_tab, hx, hy, hz]
          try simp (disch := omega) only [wrapI]
          refine hR _ _ ?_; clear hR R
          try simp only [go_sem, rep_tab, hx, hy, hz]
          refine ⟨(m + 1, fun t => h t || decide (t = m)), ?_, by (try simp only []); omega, ?_⟩
          · first | exact Weak.refl | exact Weak.eq (by first | rfl | (simp only [go_sem]; done) | (simp only [go_sem]; rfl) | (simp [go_sem]; done) | (simp [go_sem]; omega)) (by first | rfl | (simp only [go_sem]; done) | (simp [go_sem]; done))
          · try dsimp only
            exact ⟨by omega, by omega, fun t => by rw [hh]; rw [Bool.eq_iff_iff]; cases g t <;> simp [c3] <;> omega⟩
        · -- c3 false
          try simp only [nrm] at c3
          refine W_exit ?_
          simp only [go_sem, rep_tab, hx, hy, hz]
          refine kq13 _ _ ?_
          refine W_region [2, 3, 6, 7, 11, 15, 16, 17, 33, 34, 35] fun R hR => ?_   -- r13
          simp only [go_sem, rep_tab, hx, hy, hz]
          try simp (disch := omega) only [wrapI]
          refine hR _ _ ?_; clear hR R
          try simp only [go_sem, rep_tab, hx, hy, hz]
          refine ⟨(k + 1, h), ?_, by (try simp only []); omega, ?_⟩
          · refine Weak.trans (Weak.cutX 4 0 (by omega) (by omega) hcl (by simp only [go_sem]) (by simp only [go_sem] <;> omega)) ?_
            simp only [go_sem]
            exact Weak.eq (by first | rfl | (simp only [go_sem]; done) | (simp only [go_sem]; rfl) | (simp [go_sem]; done) | (simp [go_sem]; omega)) (by first | rfl | (simp only [go_sem]; done) | (simp [go_sem]; done))
          · try dsimp only
            refine ⟨by omega, fun t => ?_⟩
            rw [htk2, hFrom_snoc, ← Bool.or_assoc, ← hg, hh]
            have e : 0 + ((sqs ct b).1.take k).length = k := by simp; omega
            rw [e]
            congr 1
            rw [Bool.and_assoc, Bool.and_assoc]
            by_cases hss : s = sq
            · rw [decide_eq_true hss]
              rw [Bool.eq_iff_iff]; simp; omega
            · rw [decide_eq_false hss]; rfl
      · try simp only [Bool.not_eq_true', Bool.not_eq_false'] at g1
        have n1 := g1; try simp only [nrm] at n1
        simp only [go_sem, rep_tab, hx, hy, hz, g1]
        refine hR _ _ (kq17 _ _ ?_); clear hR R; try clear kq17 kz17
        try simp only [go_sem, rep_tab, hx, hy, hz]
        refine W_cond_false rfl ?_
        refine W_exit ?_
        simp only [go_sem, rep_tab, hx, hy, hz]
        refine kq13 _ _ ?_
        refine W_region [2, 3, 6, 7, 11, 15, 16, 17, 33, 34, 35] fun R hR => ?_   -- r13
        simp only [go_sem, rep_tab, hx, hy, hz]
        try simp (disch := omega) only [wrapI]
        refine hR _ _ ?_; clear hR R
        try simp only [go_sem, rep_tab, hx, hy, hz]
        refine ⟨(k + 1, h), ?_, by (try simp only []); omega, ?_⟩
        · refine Weak.trans (Weak.cutX 4 0 (by omega) (by omega) hcl (by simp only [go_sem]) (by simp only [go_sem] <;> omega)) ?_
          simp only [go_sem]
          exact Weak.eq (by first | rfl | (simp only [go_sem]; done) | (simp only [go_sem]; rfl) | (simp [go_sem]; done) | (simp [go_sem]; omega)) (by first | rfl | (simp only [go_sem]; done) | (simp [go_sem]; done))
        · try dsimp only
          refine ⟨by omega, fun t => ?_⟩
          rw [htk2, hFrom_snoc, ← Bool.or_assoc, ← hg, hh]
          have e : 0 + ((sqs ct b).1.take k).length = k := by simp; omega
          rw [e]
          congr 1
          rw [Bool.and_assoc, Bool.and_assoc]
          by_cases hss : s = sq
          · rw [decide_eq_true hss]
            rw [Bool.eq_iff_iff]; simp; omega
          · rw [decide_eq_false hss]; rfl
    · -- c2 false
      try simp only [nrm] at c2
      have hke : k = (sqs ct b).1.length := by omega
      subst hke
      rw [List.take_length] at hg
      refine W_exit ?_
      simp only [go_sem, rep_tab, hx]
      refine kq7 _ _ ?_
      refine W_region [2, 3, 6, 7, 15, 16, 17] fun R hR => ?_   -- r14
      simp only [go_sem, rep_tab, hx]
      try simp (disch := omega) only [wrapI]
      refine hR _ _ ?_; clear hR R
      try simp only [go_sem, rep_tab, hx]
      refine ⟨(i + 1, g), ?_, by (try simp only []); omega, ?_⟩
      · refine Weak.trans (Weak.cutX 3 0 (by omega) (by omega) hcl (by simp only [go_sem]) (by simp only [go_sem] <;> omega)) ?_
        simp only [go_sem]
        exact Weak.eq (by first | rfl | (simp only [go_sem]; done) | (simp only [go_sem]; rfl) | (simp [go_sem]; done) | (simp [go_sem]; omega)) (by first | rfl | (simp only [go_sem]; done) | (simp [go_sem]; done))
      · try dsimp only
        exact ⟨hi', fun t => by rw [hg, hf, htk, loudAt_snoc]; rfl⟩
  · -- c1 false
    try simp only [nrm] at c1
    have hie : i = l.length := by omega
    subst hie
    rw [List.take_length] at hf
    refine W_exit ?_
    simp only [go_sem, rep_tab]
    refine kq3 _ _ ?_
    refine W_seq fun kz19 kq19 => ?_
    refine W_region [6] fun R hR => ?_   -- r15
    simp only [go_sem, rep_tab]
    refine hR _ _ (kq19 _ _ ?_); clear hR R; try clear kq19 kz19
    try simp only [go_sem, rep_tab]
    refine W_ret ?_
    simp only [go_sem, rep_tab]
    refine ⟨.inr (by trivial), ?_⟩
    first | refine Fin_same hcl (by show resPV Try.prog _ _ [.cell 6 130] = some _; simp only [resPV, go_sem]; rfl) (Wk_eq ?_ (by simp only [go_sem])) | refine Fin_same hcl rfl (Wk_eq ?_ (by simp only [go_sem]))
    try simp only [go_sem]
    all_goals
      rw [show f = fun t => loudAt ct l sq t from funext hf]
end Go.Proofs.Ytnpamcpoaklgeaa
namespace Go.Proofs.Ytnpamcpoaklgeaa
open Go Go.RowKit
set_option maxRecDepth 100000
/-- The longest silent run so far: from, how many, and the run at work. -/
def slStep (f : Int → Bool) (t : Nat) (s : Int × Int × Int) : Int × Int × Int :=
  if s.2.1 < (if f t then 0 else s.2.2 + 1) then ((t : Int) - (if f t then 0 else s.2.2 + 1) + 1, (if f t then 0 else s.2.2 + 1), (if f t then 0 else s.2.2 + 1)) else (s.1, s.2.1, if f t then 0 else s.2.2 + 1)
def slRun (f : Int → Bool) : Nat → Int × Int × Int
  | 0 => (0, 0, 0)
  | t + 1 => slStep f t (slRun f t)
def sleepOf (f : Int → Bool) : Int × Int := ((slRun f 720).1, (slRun f 720).2.1)
theorem slRun_bd (f : Int → Bool) : ∀ t : Nat, 0 ≤ (slRun f t).1 ∧ (slRun f t).1 ≤ t ∧ 0 ≤ (slRun f t).2.1 ∧ (slRun f t).2.1 ≤ t ∧ 0 ≤ (slRun f t).2.2 ∧ (slRun f t).2.2 ≤ t := by
  intro t
  induction t with
  | zero => simp [slRun]
  | succ t ih =>
    rcases h : slRun f t with ⟨a, b, c⟩
    rw [h] at ih
    simp only [slRun, slStep, h]
    simp only at ih
    split <;> split <;> simp only [] <;> omega
set_option maxHeartbeats 2000000 in
theorem bsleep_pc (Y : YEnv) (σ : Sg) (ct : City) (l : List Band) (sq : Int) (hc : ct.Ok) (hl : BandsOk l) (hv : ∀ b, b ∈ l → chkBand ct b = 0) :
    PC Try.prog Y 70 [ctPV ct, bands l, I sq] σ (.tuple [I (sleepOf (loudAt ct l sq)).1, I (sleepOf (loudAt ct l sq)).2]) (σ) := by
  refine PC_of_W Try.func70 rfl (by kernel_rfl) Try.ntmps70 (by simp) fun hcl hca => ?_
  obtain ⟨f, hf⟩ : ∃ f, f = loudAt ct l sq := ⟨_, rfl⟩
  rw [← hf]
  refine W_seq fun kz1 kq1 => ?_
  refine W_region [1, 2, 3, 6, 7] fun R hR => ?_   -- r0
  simp only [go_sem]
  refine hR _ _ (kq1 _ _ ?_); clear hR R; try clear kq1 kz1
  try simp only [go_sem]
  refine W_seq fun kz2 kq2 => ?_
  refine W_region [1, 2, 3, 6, 7, 8] fun R hR => ?_   -- r1
  simp only [go_sem]
  refine hR _ _ (kq2 _ _ ?_); clear hR R; try clear kq2 kz2
  try simp only [go_sem]
  refine W_seq fun kz3 kq3 => ?_
  refine W_seq fun kz4 kq4 => ?_
  refine W_region [6, 7, 8, 14, 15] fun R hR => ?_   -- r2
  simp only [go_sem]
  refine GCall_of (PC.val (v' := .agg (tab f)) (loudness_pc Y _ ct l sq hc hl hv) (by rw [hf])) ?_   -- t14
  simp only [go_sem]
  refine hR _ _ (kq4 _ _ ?_); clear hR R; try clear kq4 kz4
  try simp only [go_sem]
  refine W_block ?_
  refine W_loopS (α := Nat × Int × Int × Int) (fun ⟨t, frm, many, run⟩ => [(6, I frm), (7, I many), (8, I run), (15, I t)]) (fun ⟨t, frm, many, run⟩ => t ≤ 720 ∧ slRun f t = (frm, many, run)) (fun ⟨t, frm, many, run⟩ => 720 - t) ((0, 0, 0, 0)) rfl (⟨Nat.zero_le _, rfl⟩) ?_
  rintro ⟨t, frm, many, run⟩ ⟨hi, hr⟩
  clear hf
  have hb := slRun_bd f t
  rw [hr] at hb
  dsimp only at hb
  obtain ⟨hb1, hb2, hb3, hb4, hb5, hb6⟩ := hb
  refine W_seq fun kz5 kq5 => ?_
  refine W_region [6, 7, 8, 14, 15, 16] fun R hR => ?_   -- r3
  simp only [go_sem]
  refine hR _ _ (kq5 _ _ ?_); clear hR R; try clear kq5 kz5
  try simp only [go_sem]
  refine W_seq fun kz6 kq6 => ?_
  refine W_cond rfl (fun c1 => ?_) (fun c1 => ?_)
  · -- c1 true
    try simp only [nrm] at c1
    have ht : t < 720 := by omega
    have hs : slRun f (t + 1) = slStep f t (frm, many, run) := by rw [← hr]; rfl
    have hz : (0 : Int) ≤ (t : Int) := by omega
    have hy : (t : Int) < 720 := by omega
    refine W_skip (kq6 _ _ ?_)
    refine W_seq fun kz7 kq7 => ?_
    refine W_block ?_
    refine W_seq fun kz8 kq8 => ?_
    refine W_region [6, 7, 8, 9, 10, 14, 15] fun R hR => ?_   -- r4
    simp only [go_sem, hz, hy, ht, tab_get f ht]
    refine hR _ _ (kq8 _ _ ?_); clear hR R; try clear kq8 kz8
    try simp only [go_sem]
    refine W_seq fun kz9 kq9 => ?_
    refine W_region [6, 7, 8, 9, 10, 14, 15] fun R hR => ?_   -- r5
    simp only [go_sem]
    try simp (disch := omega) only [wrapI]
    refine hR _ _ (kq9 _ _ ?_); clear hR R; try clear kq9 kz9
    try simp only [go_sem]
    refine W_seq fun kz10 kq10 => ?_
    refine W_seq fun kz11 kq11 => ?_
    refine W_region [6, 7, 8, 9, 14, 15, 21] fun R hR => ?_   -- r6
    simp only [go_sem]
    refine hR _ _ (kq11 _ _ ?_); clear hR R; try clear kq11 kz11
    try simp only [go_sem]
    refine W_cond rfl (fun c2 => ?_) (fun c2 => ?_)
    · -- c2 true
      try simp only [nrm] at c2
      refine W_region [6, 7, 8, 9, 14, 15] fun R hR => ?_   -- r7
      simp only [go_sem]
      refine hR _ _ (kq10 _ _ ?_); clear hR R; try clear kq10 kz10
      try simp only [go_sem]
      refine W_seq fun kz12 kq12 => ?_
      refine W_region [6, 7, 8, 9, 14, 15, 24] fun R hR => ?_   -- r8
      simp only [go_sem]
      refine hR _ _ (kq12 _ _ ?_); clear hR R; try clear kq12 kz12
      try simp only [go_sem]
      refine W_cond rfl (fun c3 => ?_) (fun c3 => ?_)
      · -- c3 true
        try simp only [nrm] at c3
        exfalso
        omega
      · -- c3 false
        try simp only [nrm] at c3
        refine W_skip (kq7 _ _ ?_)
        refine W_region [6, 7, 8, 14, 15] fun R hR => ?_   -- r10
        simp only [go_sem]
        try simp (disch := omega) only [wrapI]
        refine hR _ _ ?_; clear hR R
        try simp only [go_sem]
        refine ⟨(t + 1, frm, many, 0), ?_, by (try simp only []); omega, ?_⟩
        · first | exact Weak.refl | exact Weak.eq (by first | rfl | (simp only [go_sem]; done) | (simp only [go_sem]; rfl) | (simp [go_sem]; done) | (simp [go_sem]; omega)) (by first | rfl | (simp only [go_sem]; done) | (simp [go_sem]; done))
        · try dsimp only
          refine ⟨by omega, ?_⟩
          rw [hs]
          simp [slStep, *]
          try omega
    · -- c2 false
      try simp only [nrm] at c2
      refine W_skip (kq10 _ _ ?_)
      refine W_seq fun kz13 kq13 => ?_
      refine W_region [6, 7, 8, 9, 14, 15, 24] fun R hR => ?_   -- r8
      simp only [go_sem]
      refine hR _ _ (kq13 _ _ ?_); clear hR R; try clear kq13 kz13
      try simp only [go_sem]
      refine W_cond rfl (fun c4 => ?_) (fun c4 => ?_)
      · -- c4 true
        try simp only [nrm] at c4
        refine W_region [6, 7, 8, 14, 15] fun R hR => ?_   -- r9
        simp only [go_sem]
        try simp (disch := omega) only [wrapI]
        refine hR _ _ (kq7 _ _ ?_); clear hR R; try clear kq7 kz7
        try simp only [go_sem]
        refine W_region [6, 7, 8, 14, 15] fun R hR => ?_   -- r10
        simp only [go_sem]
        try simp (disch := omega) only [wrapI]
        refine hR _ _ ?_; clear hR R
        try simp only [go_sem]
        refine ⟨(t + 1, (t : Int) - (run + 1) + 1, run + 1, run + 1), ?_, by (try simp only []); omega, ?_⟩
        · first | exact Weak.refl | exact Weak.eq (by first | rfl | (simp only [go_sem]; done) | (simp only [go_sem]; rfl) | (simp [go_sem]; done) | (simp [go_sem]; omega)) (by first | rfl | (simp only [go_sem]; done) | (simp [go_sem]; done))
        · try dsimp only
          refine ⟨by omega, ?_⟩
          rw [hs]
          simp [slStep, *]
          try omega
      · -- c4 false
        try simp only [nrm] at c4
        refine W_skip (kq7 _ _ ?_)
        refine W_region [6, 7, 8, 14, 15] fun R hR => ?_   -- r10
        simp only [go_sem]
        try simp (disch := omega) only [wrapI]
        refine hR _ _ ?_; clear hR R
        try simp only [go_sem]
        refine ⟨(t + 1, frm, many, run + 1), ?_, by (try simp only []); omega, ?_⟩
        · first | exact Weak.refl | exact Weak.eq (by first | rfl | (simp only [go_sem]; done) | (simp only [go_sem]; rfl) | (simp [go_sem]; done) | (simp [go_sem]; omega)) (by first | rfl | (simp only [go_sem]; done) | (simp [go_sem]; done))
        · try dsimp only
          refine ⟨by omega, ?_⟩
          rw [hs]
          simp [slStep, *]
          try omega
  · -- c1 false
    try simp only [nrm] at c1
    have hte : t = 720 := by omega
    subst hte
    refine W_exit ?_
    simp only [go_sem]
    refine kq3 _ _ ?_
    refine W_seq fun kz14 kq14 => ?_
    refine W_region [6, 7] fun R hR => ?_   -- r11
    simp only [go_sem]
    refine hR _ _ (kq14 _ _ ?_); clear hR R; try clear kq14 kz14
    try simp only [go_sem]
    refine W_ret ?_
    simp only [go_sem]
    refine ⟨.inr (by trivial), ?_⟩
    first | refine Fin_same hcl rfl (Wk_eq ?_ (by simp only [go_sem])) | refine Fin_self hcl rfl (Wk_eq ?_ (by simp only [go_sem]))
    try simp only [go_sem]
    all_goals
      simp [sleepOf, hr]
def sleepAns (c : City) (l : List Band) (sq : Int) : Int × Int × Int :=
  if chkAll c l ≠ 0 then (0, 0, chkAll c l) else if inR sq 0 ((c.town.rooms.length : Int) - 1) = false then (0, 0, 7) else ((sleepOf (loudAt c l sq)).1, (sleepOf (loudAt c l sq)).2, 0)
set_option maxHeartbeats 2000000 in
theorem bSleep_pc (Y : YEnv) (σ : Sg) (ct : City) (l : List Band) (sq : Int) (hc : ct.Ok) (hl : BandsOk l) :
    PC Try.prog Y 26 [ctPV ct, bands l, I sq] σ (.tuple [I (sleepAns ct l sq).1, I (sleepAns ct l sq).2.1, I (sleepAns ct l sq).2.2]) (σ) := by
  refine PC_of_W Try.func26 rfl (by kernel_rfl) Try.ntmps26 (by simp) fun hcl hca => ?_
  have hr := hc.hr
  refine W_seq fun kz1 kq1 => ?_
  refine W_region [1, 2, 3] fun R hR => ?_   -- r0
  simp only [go_sem]
  refine hR _ _ (kq1 _ _ ?_); clear hR R; try clear kq1 kz1
  try simp only [go_sem]
  refine W_seq fun kz2 kq2 => ?_
  refine W_seq fun kz3 kq3 => ?_
  refine W_region [1, 2, 3, 9] fun R hR => ?_   -- r1
  simp only [go_sem]
  refine GCall_of (checkBands_pc Y _ ct l hc hl) ?_   -- t12
  simp only [go_sem]
  refine hR _ _ (kq3 _ _ ?_); clear hR R; try clear kq3 kz3
  try simp only [go_sem]
  refine W_seq fun kz4 kq4 => ?_
  refine W_region [1, 2, 3, 9, 14] fun R hR => ?_   -- r2
  simp only [go_sem]
  refine hR _ _ (kq4 _ _ ?_); clear hR R; try clear kq4 kz4
  try simp only [go_sem]
  refine W_cond rfl (fun c1 => ?_) (fun c1 => ?_)
  · -- c1 true
    try simp only [nrm] at c1
    refine W_seq fun kz5 kq5 => ?_
    refine W_region [6, 7, 8] fun R hR => ?_   -- r3
    simp only [go_sem]
    refine hR _ _ (kq5 _ _ ?_); clear hR R; try clear kq5 kz5
    try simp only [go_sem]
    refine W_ret ?_
    simp only [go_sem]
    refine ⟨.inr (by trivial), ?_⟩
    first | refine Fin_same hcl rfl (Wk_eq ?_ (by simp only [go_sem])) | refine Fin_self hcl rfl (Wk_eq ?_ (by simp only [go_sem]))
    try simp only [go_sem]
    all_goals
      simp [sleepAns, c1, *]
  · -- c1 false
    try simp only [nrm] at c1
    refine W_skip (kq2 _ _ ?_)
    refine W_seq fun kz6 kq6 => ?_
    refine W_seq fun kz7 kq7 => ?_
    refine W_region [1, 2, 3, 23] fun R hR => ?_   -- r4
    simp only [go_sem]
    try simp (disch := omega) only [wrapI]
    refine GCall_of (in_pc Y _ sq 0 _) ?_   -- t22
    simp only [go_sem]
    try simp (disch := omega) only [wrapI]
    refine hR _ _ (kq7 _ _ ?_); clear hR R; try clear kq7 kz7
    try simp only [go_sem]
    refine W_cond rfl (fun c2 => ?_) (fun c2 => ?_)
    · -- c2 true
      try simp only [nrm] at c2
      refine W_seq fun kz8 kq8 => ?_
      refine W_region [6, 7, 8] fun R hR => ?_   -- r5
      simp only [go_sem]
      refine hR _ _ (kq8 _ _ ?_); clear hR R; try clear kq8 kz8
      try simp only [go_sem]
      refine W_ret ?_
      simp only [go_sem]
      refine ⟨.inr (by trivial), ?_⟩
      first | refine Fin_same hcl rfl (Wk_eq ?_ (by simp only [go_sem])) | refine Fin_self hcl rfl (Wk_eq ?_ (by simp only [go_sem]))
      try simp only [go_sem]
      all_goals
        simp [sleepAns, c1, *]
    · -- c2 false
      try simp only [nrm] at c2
      refine W_skip (kq6 _ _ ?_)
      refine W_seq fun kz9 kq9 => ?_
      refine W_region [6, 7] fun R hR => ?_   -- r6
      simp only [go_sem]
      refine GCall_of (bsleep_pc Y _ ct l sq hc hl (chkBands_ok (chkAll_ok c1).2.2)) ?_   -- t28
      simp only [go_sem]
      refine hR _ _ (kq9 _ _ ?_); clear hR R; try clear kq9 kz9
      try simp only [go_sem]
      refine W_seq fun kz10 kq10 => ?_
      refine W_region [6, 7, 8] fun R hR => ?_   -- r7
      simp only [go_sem]
      refine hR _ _ (kq10 _ _ ?_); clear hR R; try clear kq10 kz10
      try simp only [go_sem]
      refine W_ret ?_
      simp only [go_sem]
      refine ⟨.inr (by trivial), ?_⟩
      first | refine Fin_same hcl rfl (Wk_eq ?_ (by simp only [go_sem])) | refine Fin_self hcl rfl (Wk_eq ?_ (by simp only [go_sem]))
      try simp only [go_sem]
      all_goals
        simp [sleepAns, c1, *]
end Go.Proofs.Ytnpamcpoaklgeaa
namespace Go.Proofs.Ytnpamcpoaklgeaa
open Go Go.RowKit
set_option maxRecDepth 100000
set_option maxHeartbeats 2000000 in
theorem rin_pc (Y : YEnv) (σ : Sg) (n lo hi : Int) :
    PC Try.prog Y 71 [I n, I lo, I hi] σ (.bool (inR n lo hi)) (σ) := by
  refine PC_of_W Try.func71 rfl (by kernel_rfl) Try.ntmps71 (by simp) fun hcl hca => ?_
  refine W_seq fun kz1 kq1 => ?_
  refine W_region [0, 1, 2] fun R hR => ?_   -- r0
  simp only [go_sem]
  refine hR _ _ (kq1 _ _ ?_); clear hR R; try clear kq1 kz1
  try simp only [go_sem]
  refine W_seq fun kz2 kq2 => ?_
  refine W_region [6] fun R hR => ?_   -- r1
  simp only [go_sem]
  refine GWant_split (fun g1 => ?_) (fun g1 => ?_)
  · try simp only [Bool.not_eq_true', Bool.not_eq_false'] at g1
    have n1 := g1; try simp only [nrm] at n1
    simp only [go_sem, g1]
    refine hR _ _ (kq2 _ _ ?_); clear hR R; try clear kq2 kz2
    try simp only [go_sem]
    refine W_ret ?_
    simp only [go_sem]
    refine ⟨.inr (by trivial), ?_⟩
    first | refine Fin_same hcl rfl (Wk_eq ?_ (by simp only [go_sem])) | refine Fin_self hcl rfl (Wk_eq ?_ (by simp only [go_sem]))
    try simp only [go_sem]
    all_goals
      simp only [inR]; first | rfl | (simp [*]; done) | (simp [*]; omega)
  · try simp only [Bool.not_eq_true', Bool.not_eq_false'] at g1
    have n1 := g1; try simp only [nrm] at n1
    simp only [go_sem, g1]
    refine hR _ _ (kq2 _ _ ?_); clear hR R; try clear kq2 kz2
    try simp only [go_sem]
    refine W_ret ?_
    simp only [go_sem]
    refine ⟨.inr (by trivial), ?_⟩
    first | refine Fin_same hcl rfl (Wk_eq ?_ (by simp only [go_sem])) | refine Fin_self hcl rfl (Wk_eq ?_ (by simp only [go_sem]))
    try simp only [go_sem]
    all_goals
      simp only [inR]; first | rfl | (simp [*]; done) | (simp [*]; omega)
set_option maxHeartbeats 2000000 in
theorem rother_pc (Y : YEnv) (σ : Sg) (s : Int × Int) (at' : Int) :
    PC Try.prog Y 64 [stPV s, I at'] σ (I (other s at')) (σ) := by
  refine PC_of_W Try.func64 rfl (by kernel_rfl) Try.ntmps64 (by simp) fun hcl hca => ?_
  refine W_seq fun kz1 kq1 => ?_
  refine W_region [1, 2] fun R hR => ?_   -- r0
  simp only [go_sem]
  refine hR _ _ (kq1 _ _ ?_); clear hR R; try clear kq1 kz1
  try simp only [go_sem]
  refine W_seq fun kz2 kq2 => ?_
  refine W_seq fun kz3 kq3 => ?_
  refine W_region [2, 5] fun R hR => ?_   -- r1
  simp only [go_sem]
  refine hR _ _ (kq3 _ _ ?_); clear hR R; try clear kq3 kz3
  try simp only [go_sem]
  refine W_block ?_
  refine W_seq fun kz4 kq4 => ?_
  refine W_region [2, 5, 6] fun R hR => ?_   -- r2
  simp only [go_sem]
  refine hR _ _ (kq4 _ _ ?_); clear hR R; try clear kq4 kz4
  try simp only [go_sem]
  refine W_cond rfl (fun c1 => ?_) (fun c1 => ?_)
  · -- c1 true
    try simp only [nrm] at c1
    refine W_seq fun kz5 kq5 => ?_
    refine W_region [4] fun R hR => ?_   -- r3
    simp only [go_sem]
    refine hR _ _ (kq5 _ _ ?_); clear hR R; try clear kq5 kz5
    try simp only [go_sem]
    refine W_ret ?_
    simp only [go_sem]
    refine ⟨.inr (by trivial), ?_⟩
    first | refine Fin_same hcl rfl (Wk_eq ?_ (by simp only [go_sem])) | refine Fin_self hcl rfl (Wk_eq ?_ (by simp only [go_sem]))
    try simp only [go_sem]
    all_goals
      simp_all [other]
  · -- c1 false
    try simp only [nrm] at c1
    refine W_seq fun kz6 kq6 => ?_
    refine W_region [2, 12] fun R hR => ?_   -- r4
    simp only [go_sem]
    refine hR _ _ (kq6 _ _ ?_); clear hR R; try clear kq6 kz6
    try simp only [go_sem]
    refine W_cond rfl (fun c2 => ?_) (fun c2 => ?_)
    · -- c2 true
      try simp only [nrm] at c2
      refine W_seq fun kz7 kq7 => ?_
      refine W_region [4] fun R hR => ?_   -- r5
      simp only [go_sem]
      refine hR _ _ (kq7 _ _ ?_); clear hR R; try clear kq7 kz7
      try simp only [go_sem]
      refine W_ret ?_
      simp only [go_sem]
      refine ⟨.inr (by trivial), ?_⟩
      first | refine Fin_same hcl rfl (Wk_eq ?_ (by simp only [go_sem])) | refine Fin_self hcl rfl (Wk_eq ?_ (by simp only [go_sem]))
      try simp only [go_sem]
      all_goals
        simp_all [other]
    · -- c2 false
      try simp only [nrm] at c2
      refine W_skip (kq2 _ _ ?_)
      refine W_seq fun kz8 kq8 => ?_
      refine W_region [4] fun R hR => ?_   -- r6
      simp only [go_sem]
      refine hR _ _ (kq8 _ _ ?_); clear hR R; try clear kq8 kz8
      try simp only [go_sem]
      refine W_ret ?_
      simp only [go_sem]
      refine ⟨.inr (by trivial), ?_⟩
      first | refine Fin_same hcl rfl (Wk_eq ?_ (by simp only [go_sem])) | refine Fin_self hcl rfl (Wk_eq ?_ (by simp only [go_sem]))
      try simp only [go_sem]
      all_goals
        simp_all [other]
end Go.Proofs.Ytnpamcpoaklgeaa
namespace Go.Proofs.Ytnpamcpoaklgeaa
open Go Go.RowKit
set_option maxRecDepth 100000
theorem walkSq_ok (st : List (Int × Int)) : ∀ (l : List Int) (a : Int) (out : List Int), (walkSq st l a out).2 = 0 → (walkSq st l a out).1.length = out.length + l.length := by
  intro l
  induction l with
  | nil => intro a out _; simp [walkSq]
  | cons n r ih =>
    intro a out
    simp only [walkSq]
    split
    · simp
    · split
      · simp
      · rename_i s _
        split
        · intro h; have := ih s.2 (out ++ [s.2]) h; simp at this ⊢; omega
        · split
          · intro h; have := ih s.1 (out ++ [s.1]) h; simp at this ⊢; omega
          · simp
theorem sqs_ok {c : City} {b : Band} (h : (sqs c b).2 = 0) : (sqs c b).1.length = b.path.length + 1 := by
  unfold sqs at h ⊢
  split
  · simp_all
  · split
    · simp_all
    · rename_i h1 h2
      rw [if_neg h1, if_neg h2] at h
      have := walkSq_ok _ _ _ _ h
      simp at this; omega
end Go.Proofs.Ytnpamcpoaklgeaa
namespace Go.Proofs.Ytnpamcpoaklgeaa
open Go Go.RowKit
set_option maxRecDepth 100000
end Go.Proofs.Ytnpamcpoaklgeaa
namespace Go.Proofs.Ytnpamcpoaklgeaa
open Go Go.RowKit
set_option maxRecDepth 100000
theorem visOf_get (c : City) (b : Band) (m : Int) (i : Nat) (v : Vis) : (visOf c b m)[i]? = some v ↔ ∃ s, (sqs c b).1[i]? = some s ∧ v = ⟨m + (i : Int) * b.stay, m + (i : Int) * b.stay + b.stay - 1, s⟩ := by
  unfold visOf
  rw [visFrom_get]
  cases (sqs c b).1[i]? with
  | none => simp
  | some s => simp [eq_comm]
end Go.Proofs.Ytnpamcpoaklgeaa
namespace Go.Proofs.Ytnpamcpoaklgeaa
open Go Go.RowKit
theorem upTo_ind {α : Type} {f : Int → α → α} {lo : Int} (Pr : Int → α → Prop) {a : α} (h0 : Pr lo a) (hs : ∀ i x, lo ≤ i → Pr i x → Pr (i + 1) (f i x)) : ∀ {s : Int}, lo ≤ s → Pr s (upTo f lo s a) := by
  intro s hls
  obtain ⟨n, rfl⟩ : ∃ n : Nat, s = lo + n := ⟨(s - lo).toNat, by omega⟩
  induction n with
  | zero => simpa [upTo_start] using h0
  | succ n ih =>
    have := hs (lo + n) _ (by omega) (ih (by omega))
    rw [← upTo_step f (by omega)] at this
    have e : lo + ((n + 1 : Nat) : Int) = lo + n + 1 := by omega
    rw [e]
    exact this
end Go.Proofs.Ytnpamcpoaklgeaa
namespace Go.Proofs.Ytnpamcpoaklgeaa
open Go Go.RowKit
set_option maxRecDepth 100000
/-- A list of numbers, in a list. -/
def lsPV (xs : List Int) : PV := .isl (xs.map I) .ro
theorem okC_ls {xs : List (List Int)} : okC 1 (xs.map lsPV) = True := okC_map fun x => by simp [okC, lsPV, PV.cells, PV.scalar]
theorem roL_ls {xs : List (List Int)} : PV.roL (xs.map lsPV) = xs.map lsPV := roL_enc fun x => by simp only [lsPV, ro_isl, roL_ints]
theorem cA_ls {a b c : Nat} {xs : List (List Int)} : CleanAll a b c (xs.map lsPV) = True := CleanAll_map fun x => by simp only [lsPV, go_sem]
attribute [go_sem] lsPV okC_ls roL_ls cA_ls
end Go.Proofs.Ytnpamcpoaklgeaa
namespace Go.Proofs.Ytnpamcpoaklgeaa
open Go Go.RowKit
set_option maxRecDepth 100000
end Go.Proofs.Ytnpamcpoaklgeaa
namespace Go.Proofs.Ytnpamcpoaklgeaa
open Go Go.RowKit
set_option maxRecDepth 100000
/-- Small enough that it can be copied. -/
structure City.Small (c : City) : Prop where
  hr : c.town.rooms.length < 2 ^ 40
  hs : c.town.streets.length < 2 ^ 40
  hg : c.town.groups.length < 2 ^ 40
  hp : ∀ g, g ∈ c.town.groups → g.path.length < 2 ^ 40
  hsl : c.sleep.length < 2 ^ 40
end Go.Proofs.Ytnpamcpoaklgeaa
namespace Go.Proofs.Ytnpamcpoaklgeaa
open Go Go.RowKit
set_option maxRecDepth 100000
attribute [go_sem] Sg.ext_nil
end Go.Proofs.Ytnpamcpoaklgeaa
namespace Go.Proofs.Ytnpamcpoaklgeaa
open Go Go.RowKit
set_option maxRecDepth 100000
/-- What depends on the drum's beat, and the beat behind it. -/
abbrev D (α : Type) := Int → α × Int
def dret {α : Type} (a : α) : D α := fun b => (a, b)
def dbind {α β : Type} (m : D α) (f : α → D β) : D β := fun b => f (m b).1 (m b).2
def Holds {α : Type} (m : D α) (R : α → Prop) : Prop := ∀ b, R (m b).1
theorem Holds.ret {α : Type} {a : α} {R : α → Prop} (h : R a) : Holds (dret a) R := fun _ => h
theorem Holds.bind {α β : Type} {m : D α} {f : α → D β} {R : α → Prop} {S : β → Prop} (h : Holds m R) (k : ∀ a, R a → Holds (f a) S) : Holds (dbind m f) S := fun b => k _ (h b) _
def xorU (a b : Int) : Int := match arith .xor .u64 a b with | some (.int _ n) => n | _ => 0
def hitB (b : Int) : Int := IntKind.u64.wrap (IntKind.u64.wrap (b * 15074714826142052245) + 11400714819323198485)
def hitM (x : Int) : Int := IntKind.u64.wrap (xorU x (x.fdiv 4294967296) * 15760922415973212899)
def hitX (b : Int) : Int := xorU (hitM (hitM (hitB b))) ((hitM (hitM (hitB b))).fdiv 4294967296)
theorem wrapU_bd (n : Int) : 0 ≤ IntKind.u64.wrap n ∧ IntKind.u64.wrap n ≤ 18446744073709551615 := by
  have h : IntKind.u64.wrap n = n % 18446744073709551616 := rfl
  rw [h]; omega
theorem hitX_bd (b : Int) : 0 ≤ hitX b ∧ hitX b ≤ 18446744073709551615 := wrapU_bd _
def roll (n : Int) : D Int := fun b => if n < 2 then (0, b) else ((hitX b / 2) % n, hitB b)
def mid (lo hi : Int) : D Int := fun b => (lo + (roll (hi - lo + 1) b).1, (roll (hi - lo + 1) b).2)
def anyOf (l : List Int) : D Int := fun b => ((l[(roll l.length b).1.toNat]?).getD 0, (roll l.length b).2)
theorem roll_bd (n : Int) : Holds (roll n) fun r => 0 ≤ r ∧ r < max n 1 := by
  intro b
  unfold roll
  have := hitX_bd b
  by_cases h : n < 2
  · rw [if_pos h]; simp only []; omega
  · rw [if_neg h]
    have h1 := Int.emod_nonneg (hitX b / 2) (show n ≠ 0 by omega)
    have h2 := Int.emod_lt_of_pos (hitX b / 2) (show 0 < n by omega)
    simp only []; omega
theorem mid_bd (lo hi : Int) (h : lo ≤ hi) : Holds (mid lo hi) fun r => lo ≤ r ∧ r ≤ hi := by
  intro b
  have := roll_bd (hi - lo + 1) b
  simp only [mid] at *
  omega
theorem anyOf_mem (l : List Int) (h : l ≠ []) : Holds (anyOf l) fun r => r ∈ l := by
  intro b
  have := roll_bd l.length b
  simp only [anyOf] at *
  have hl : 0 < l.length := by cases l with | nil => exact absurd rfl h | cons => simp
  have hlt : (roll (l.length : Int) b).1.toNat < l.length := by omega
  rw [List.getElem?_eq_getElem hlt]
  exact List.getElem_mem hlt
set_option maxHeartbeats 2000000 in
theorem hit_pc (Y : YEnv) (σ : Sg) (d : Nat) (b : Int) (hd : σ.store[d]? = some (some [.int .u64 b])) :
    PC Try.prog Y 61 [.ptr d 0] σ (.int .u64 (hitX b)) (σ.setVar d [.int .u64 (hitB b)]) := by
  refine PC_of_W Try.func61 rfl (by kernel_rfl) Try.ntmps61 (by simp) fun hcl hca => ?_
  have hlt := lt_of_get hd
  refine W_seq fun kz1 kq1 => ?_
  refine W_region [0] fun R hR => ?_   -- r0
  simp only [go_sem, ldS_at hd, stX_at hd, ldS_sv hlt, stX_sv hlt, sv_ext hlt, sv_ext_sv hlt]
  refine hR _ _ (kq1 _ _ ?_); clear hR R; try clear kq1 kz1
  try simp only [go_sem, ldS_at hd, stX_at hd, ldS_sv hlt, stX_sv hlt, sv_ext hlt, sv_ext_sv hlt]
  refine W_seq fun kz2 kq2 => ?_
  refine W_region [0] fun R hR => ?_   -- r1
  simp only [go_sem, ldS_at hd, stX_at hd, ldS_sv hlt, stX_sv hlt, sv_ext hlt, sv_ext_sv hlt]
  try simp (disch := omega) only [wrapI, wrapU]
  refine hR _ _ (kq2 _ _ ?_); clear hR R; try clear kq2 kz2
  try simp only [go_sem, ldS_at hd, stX_at hd, ldS_sv hlt, stX_sv hlt, sv_ext hlt, sv_ext_sv hlt]
  refine W_seq fun kz3 kq3 => ?_
  refine W_region [3] fun R hR => ?_   -- r2
  simp only [go_sem, ldS_at hd, stX_at hd, ldS_sv hlt, stX_sv hlt, sv_ext hlt, sv_ext_sv hlt]
  refine hR _ _ (kq3 _ _ ?_); clear hR R; try clear kq3 kz3
  try simp only [go_sem, ldS_at hd, stX_at hd, ldS_sv hlt, stX_sv hlt, sv_ext hlt, sv_ext_sv hlt]
  refine W_seq fun kz4 kq4 => ?_
  refine W_region [3] fun R hR => ?_   -- r3
  simp only [go_sem, ldS_at hd, stX_at hd, ldS_sv hlt, stX_sv hlt, sv_ext hlt, sv_ext_sv hlt]
  try simp (disch := omega) only [wrapI, wrapU]
  refine hR _ _ (kq4 _ _ ?_); clear hR R; try clear kq4 kz4
  try simp only [go_sem, ldS_at hd, stX_at hd, ldS_sv hlt, stX_sv hlt, sv_ext hlt, sv_ext_sv hlt]
  refine W_seq fun kz5 kq5 => ?_
  refine W_region [3] fun R hR => ?_   -- r4
  simp only [go_sem, ldS_at hd, stX_at hd, ldS_sv hlt, stX_sv hlt, sv_ext hlt, sv_ext_sv hlt]
  try simp (disch := omega) only [wrapI, wrapU]
  refine hR _ _ (kq5 _ _ ?_); clear hR R; try clear kq5 kz5
  try simp only [go_sem, ldS_at hd, stX_at hd, ldS_sv hlt, stX_sv hlt, sv_ext hlt, sv_ext_sv hlt]
  refine W_seq fun kz6 kq6 => ?_
  refine W_region [2] fun R hR => ?_   -- r5
  simp only [go_sem, ldS_at hd, stX_at hd, ldS_sv hlt, stX_sv hlt, sv_ext hlt, sv_ext_sv hlt]
  refine hR _ _ (kq6 _ _ ?_); clear hR R; try clear kq6 kz6
  try simp only [go_sem, ldS_at hd, stX_at hd, ldS_sv hlt, stX_sv hlt, sv_ext hlt, sv_ext_sv hlt]
  refine W_ret ?_
  simp only [go_sem, ldS_at hd, stX_at hd, ldS_sv hlt, stX_sv hlt, sv_ext hlt, sv_ext_sv hlt]
  refine ⟨.inr (by trivial), ?_⟩
  first | refine Fin_set hcl (by simp only [go_sem]) rfl (Wk_eq ?_ (by simp only [go_sem])) | refine Fin_set0 hcl (by simp only [go_sem]) rfl (Wk_eq ?_ (by simp only [go_sem]))
  try simp only [go_sem]
  all_goals
    simp only [hitX, hitM, hitB, xorU, go_sem]; simp (disch := omega) only [wrapU]
set_option maxHeartbeats 2000000 in
theorem Roll_lo (Y : YEnv) (σ : Sg) (d : Nat) (n : Int) (hn : n < 2) :
    PC Try.prog Y 22 [.ptr d 0, I n] σ (I 0) (σ) := by
  refine PC_of_W Try.func22 rfl (by kernel_rfl) Try.ntmps22 (by simp) fun hcl hca => ?_
  refine W_seq fun kz1 kq1 => ?_
  refine W_region [0, 1] fun R hR => ?_   -- r0
  simp only [go_sem]
  refine hR _ _ (kq1 _ _ ?_); clear hR R; try clear kq1 kz1
  try simp only [go_sem]
  refine W_seq fun kz2 kq2 => ?_
  refine W_seq fun kz3 kq3 => ?_
  refine W_region [0, 1, 6] fun R hR => ?_   -- r1
  simp only [go_sem]
  refine hR _ _ (kq3 _ _ ?_); clear hR R; try clear kq3 kz3
  try simp only [go_sem]
  refine W_cond rfl (fun c1 => ?_) (fun c1 => ?_)
  · -- c1 true
    try simp only [nrm] at c1
    refine W_seq fun kz4 kq4 => ?_
    refine W_region [4] fun R hR => ?_   -- r2
    simp only [go_sem]
    refine hR _ _ (kq4 _ _ ?_); clear hR R; try clear kq4 kz4
    try simp only [go_sem]
    refine W_ret ?_
    simp only [go_sem]
    refine ⟨.inr (by trivial), ?_⟩
    first | refine Fin_same hcl rfl (Wk_eq ?_ (by simp only [go_sem])) | refine Fin_self hcl rfl (Wk_eq ?_ (by simp only [go_sem]))
    try simp only [go_sem]
    all_goals
      first | rfl | (simp_all; done) | (simp_all; omega)
  · -- c1 false
    try simp only [nrm] at c1
    exfalso
    omega
set_option maxHeartbeats 2000000 in
theorem Roll_hi (Y : YEnv) (σ : Sg) (d : Nat) (b : Int) (hd : σ.store[d]? = some (some [.int .u64 b])) (n : Int) (hn : 2 ≤ n) (hn2 : n < 2 ^ 62) :
    PC Try.prog Y 22 [.ptr d 0, I n] σ (I ((hitX b / 2) % n)) (σ.setVar d [.int .u64 (hitB b)]) := by
  refine PC_of_W Try.func22 rfl (by kernel_rfl) Try.ntmps22 (by simp) fun hcl hca => ?_
  have hlt := lt_of_get hd
  have hb := hitX_bd b
  have e1 : (hitX b).fdiv 2 = hitX b / 2 := Int.fdiv_eq_ediv_of_nonneg _ (by omega)
  have e2 : (hitX b / 2).tmod n = (hitX b / 2) % n := Int.tmod_eq_emod_of_nonneg (by omega)
  have h1 := Int.emod_nonneg (hitX b / 2) (show n ≠ 0 by omega)
  have h2 := Int.emod_lt_of_pos (hitX b / 2) (show 0 < n by omega)
  have e3 : ¬ n = 0 := by omega
  have e4 : IntKind.u64.wrap n = n := wrapU (by omega) (by omega)
  refine W_seq fun kz1 kq1 => ?_
  refine W_region [0, 1] fun R hR => ?_   -- r0
  simp only [go_sem, ldS_at hd, stX_at hd, ldS_sv hlt, stX_sv hlt, sv_ext hlt, sv_ext_sv hlt]
  refine hR _ _ (kq1 _ _ ?_); clear hR R; try clear kq1 kz1
  try simp only [go_sem, ldS_at hd, stX_at hd, ldS_sv hlt, stX_sv hlt, sv_ext hlt, sv_ext_sv hlt]
  refine W_seq fun kz2 kq2 => ?_
  refine W_seq fun kz3 kq3 => ?_
  refine W_region [0, 1, 6] fun R hR => ?_   -- r1
  simp only [go_sem, ldS_at hd, stX_at hd, ldS_sv hlt, stX_sv hlt, sv_ext hlt, sv_ext_sv hlt]
  refine hR _ _ (kq3 _ _ ?_); clear hR R; try clear kq3 kz3
  try simp only [go_sem, ldS_at hd, stX_at hd, ldS_sv hlt, stX_sv hlt, sv_ext hlt, sv_ext_sv hlt]
  refine W_cond rfl (fun c1 => ?_) (fun c1 => ?_)
  · -- c1 true
    try simp only [nrm] at c1
    exfalso
    omega
  · -- c1 false
    try simp only [nrm] at c1
    refine W_skip (kq2 _ _ ?_)
    refine W_seq fun kz4 kq4 => ?_
    refine W_region [4] fun R hR => ?_   -- r3
    simp only [go_sem, ldS_at hd, stX_at hd, ldS_sv hlt, stX_sv hlt, sv_ext hlt, sv_ext_sv hlt, e4, e1, e2, e3]
    refine GCall_of (hit_pc Y _ d b hd) ?_   -- t8
    simp only [go_sem, ldS_at hd, stX_at hd, ldS_sv hlt, stX_sv hlt, sv_ext hlt, sv_ext_sv hlt, e4, e1, e2, e3]
    try simp (disch := omega) only [wrapI, wrapU]
    refine hR _ _ (kq4 _ _ ?_); clear hR R; try clear kq4 kz4
    try simp only [go_sem, ldS_at hd, stX_at hd, ldS_sv hlt, stX_sv hlt, sv_ext hlt, sv_ext_sv hlt]
    refine W_ret ?_
    simp only [go_sem, ldS_at hd, stX_at hd, ldS_sv hlt, stX_sv hlt, sv_ext hlt, sv_ext_sv hlt]
    refine ⟨.inr (by trivial), ?_⟩
    first | refine Fin_set hcl (by simp only [go_sem]) rfl (Wk_eq ?_ (by simp only [go_sem])) | refine Fin_set0 hcl (by simp only [go_sem]) rfl (Wk_eq ?_ (by simp only [go_sem]))
    try simp only [go_sem]
    all_goals
      first | rfl | (simp_all; done) | (simp_all; omega)
theorem Roll_pc (Y : YEnv) (σ : Sg) (d : Nat) (b : Int) (hd : σ.store[d]? = some (some [.int .u64 b])) (n : Int) (hn2 : n < 2 ^ 62) : PC Try.prog Y 22 [.ptr d 0, I n] σ (I (roll n b).1) (σ.setVar d [.int .u64 (roll n b).2]) := by
  unfold roll
  by_cases h : n < 2
  · rw [if_pos h]; simp only []; rw [sv_self hd]; exact Roll_lo Y σ d n h
  · rw [if_neg h]; exact Roll_hi Y σ d b hd n (by omega) hn2
set_option maxHeartbeats 2000000 in
theorem Mid_pc (Y : YEnv) (σ : Sg) (d : Nat) (b : Int) (hd : σ.store[d]? = some (some [.int .u64 b])) (lo hi : Int) (h1 : -2 ^ 60 ≤ lo) (h2 : lo ≤ 2 ^ 60) (h3 : -2 ^ 60 ≤ hi) (h4 : hi ≤ 2 ^ 60) :
    PC Try.prog Y 63 [.ptr d 0, I lo, I hi] σ (I (mid lo hi b).1) (σ.setVar d [.int .u64 (mid lo hi b).2]) := by
  refine PC_of_W Try.func63 rfl (by kernel_rfl) Try.ntmps63 (by simp) fun hcl hca => ?_
  have hlt := lt_of_get hd
  have hr := roll_bd (hi - lo + 1) b
  simp only [] at hr
  refine W_seq fun kz1 kq1 => ?_
  refine W_region [0, 1, 2] fun R hR => ?_   -- r0
  simp only [go_sem, ldS_at hd, stX_at hd, ldS_sv hlt, stX_sv hlt, sv_ext hlt, sv_ext_sv hlt]
  refine hR _ _ (kq1 _ _ ?_); clear hR R; try clear kq1 kz1
  try simp only [go_sem, ldS_at hd, stX_at hd, ldS_sv hlt, stX_sv hlt, sv_ext hlt, sv_ext_sv hlt]
  refine W_seq fun kz2 kq2 => ?_
  refine W_region [6] fun R hR => ?_   -- r1
  simp only [go_sem, ldS_at hd, stX_at hd, ldS_sv hlt, stX_sv hlt, sv_ext hlt, sv_ext_sv hlt]
  try simp (disch := omega) only [wrapI, wrapU]
  refine GCall_of (Roll_pc Y _ d b (by first | exact hd | exact sv_get hlt | exact get_svx hlt | exact get_extx hd) _ (by omega)) ?_   -- t13
  simp only [go_sem, ldS_at hd, stX_at hd, ldS_sv hlt, stX_sv hlt, sv_ext hlt, sv_ext_sv hlt]
  try simp (disch := omega) only [wrapI, wrapU]
  refine hR _ _ (kq2 _ _ ?_); clear hR R; try clear kq2 kz2
  try simp only [go_sem, ldS_at hd, stX_at hd, ldS_sv hlt, stX_sv hlt, sv_ext hlt, sv_ext_sv hlt]
  refine W_ret ?_
  simp only [go_sem, ldS_at hd, stX_at hd, ldS_sv hlt, stX_sv hlt, sv_ext hlt, sv_ext_sv hlt]
  refine ⟨.inr (by trivial), ?_⟩
  first | refine Fin_set hcl (by simp only [go_sem]) rfl (Wk_eq ?_ (by simp only [go_sem])) | refine Fin_set0 hcl (by simp only [go_sem]) rfl (Wk_eq ?_ (by simp only [go_sem]))
  try simp only [go_sem]
  all_goals
    first | rfl | (simp_all; done) | (simp_all; omega)
set_option maxHeartbeats 2000000 in
theorem Any_pc (Y : YEnv) (σ : Sg) (d : Nat) (b : Int) (hd : σ.store[d]? = some (some [.int .u64 b])) (l : List Int) (hl : l ≠ []) (hl2 : l.length < 2 ^ 50) :
    PC Try.prog Y 57 [.ptr d 0, .isl (l.map I) .exact] σ (I (anyOf l b).1) (σ.setVar d [.int .u64 (anyOf l b).2]) := by
  refine PC_of_W Try.func57 rfl (by kernel_rfl) Try.ntmps57 (by simp) fun hcl hca => ?_
  have hlt := lt_of_get hd
  have hr := roll_bd l.length b
  simp only [] at hr
  have hl0 : 0 < l.length := by cases l with | nil => exact absurd rfl hl | cons => simp
  have hlt2 : (roll (l.length : Int) b).1.toNat < l.length := by omega
  obtain ⟨x, hx⟩ : ∃ x, l[(roll (l.length : Int) b).1.toNat]? = some x := ⟨_, List.getElem?_eq_getElem hlt2⟩
  have hnn := hr.1
  refine W_seq fun kz1 kq1 => ?_
  refine W_region [0, 1] fun R hR => ?_   -- r0
  simp only [go_sem, ldS_at hd, stX_at hd, ldS_sv hlt, stX_sv hlt, sv_ext hlt, sv_ext_sv hlt]
  refine hR _ _ (kq1 _ _ ?_); clear hR R; try clear kq1 kz1
  try simp only [go_sem, ldS_at hd, stX_at hd, ldS_sv hlt, stX_sv hlt, sv_ext hlt, sv_ext_sv hlt]
  refine W_seq fun kz2 kq2 => ?_
  refine W_seq fun kz3 kq3 => ?_
  refine W_region [0, 1, 7] fun R hR => ?_   -- r1
  simp only [go_sem, ldS_at hd, stX_at hd, ldS_sv hlt, stX_sv hlt, sv_ext hlt, sv_ext_sv hlt]
  refine hR _ _ (kq3 _ _ ?_); clear hR R; try clear kq3 kz3
  try simp only [go_sem, ldS_at hd, stX_at hd, ldS_sv hlt, stX_sv hlt, sv_ext hlt, sv_ext_sv hlt]
  refine W_cond rfl (fun c1 => ?_) (fun c1 => ?_)
  · -- c1 true
    try simp only [nrm] at c1
    exfalso
    omega
  · -- c1 false
    try simp only [nrm] at c1
    refine W_skip (kq2 _ _ ?_)
    refine W_seq fun kz4 kq4 => ?_
    refine W_region [4] fun R hR => ?_   -- r3
    simp only [go_sem, ldS_at hd, stX_at hd, ldS_sv hlt, stX_sv hlt, sv_ext hlt, sv_ext_sv hlt, hnn, hx]
    refine GCall_of (Roll_pc Y _ d b (by first | exact hd | exact sv_get hlt | exact get_svx hlt | exact get_extx hd) _ (by omega)) ?_   -- t12
    simp only [go_sem, ldS_at hd, stX_at hd, ldS_sv hlt, stX_sv hlt, sv_ext hlt, sv_ext_sv hlt, hnn, hx]
    refine hR _ _ (kq4 _ _ ?_); clear hR R; try clear kq4 kz4
    try simp only [go_sem, ldS_at hd, stX_at hd, ldS_sv hlt, stX_sv hlt, sv_ext hlt, sv_ext_sv hlt]
    refine W_ret ?_
    simp only [go_sem, ldS_at hd, stX_at hd, ldS_sv hlt, stX_sv hlt, sv_ext hlt, sv_ext_sv hlt]
    refine ⟨.inr (by trivial), ?_⟩
    first | refine Fin_set hcl (by simp only [go_sem]) rfl (Wk_eq ?_ (by simp only [go_sem])) | refine Fin_set0 hcl (by simp only [go_sem]) rfl (Wk_eq ?_ (by simp only [go_sem]))
    try simp only [go_sem]
    all_goals
      simp only [anyOf, hx, Option.getD_some]
end Go.Proofs.Ytnpamcpoaklgeaa
namespace Go.Proofs.Ytnpamcpoaklgeaa
open Go Go.RowKit
set_option maxRecDepth 100000
def drumB : List Int → Int → Int
  | [], b => b
  | x :: r, b => drumB r (hitB (xorU b (IntKind.u64.wrap x)))
def fit (x n : Int) : Int := if n < 2 then 0 else if x.tmod n < 0 then x.tmod n + n else x.tmod n
theorem fit_bd (x n : Int) : 0 ≤ fit x n ∧ fit x n < max n 1 := by
  unfold fit
  split
  · omega
  · have h1 := Int.tmod_lt_of_pos x (show 0 < n by omega)
    have h2 := Int.lt_tmod_of_pos x (show 0 < n by omega)
    split <;> omega
def spanOf (lo hi : Int) : D (Int × Int) := dbind (mid lo hi) fun n => dbind (roll 3) fun k =>
  if k = 0 then dret (n, n) else if k = 1 then dbind (mid n (min hi (n + 3))) fun m => dret (n, m) else dbind (mid n hi) fun m => dret (n, m)
theorem spanOf_bd (lo hi : Int) (h : lo ≤ hi) : Holds (spanOf lo hi) fun s => lo ≤ s.1 ∧ s.1 ≤ s.2 ∧ s.2 ≤ hi := by
  unfold spanOf
  refine (mid_bd lo hi h).bind fun n hn => ?_
  refine (roll_bd 3).bind fun k _ => ?_
  split
  · exact .ret (by simp only []; omega)
  · split
    · refine (mid_bd n (min hi (n + 3)) (by omega)).bind fun m hm => .ret (by simp only []; omega)
    · refine (mid_bd n hi (by omega)).bind fun m hm => .ret (by simp only []; omega)
set_option maxHeartbeats 2000000 in
theorem Fit_pc (Y : YEnv) (σ : Sg) (x n : Int) (hn : n < 2 ^ 60) (h1 : -2 ^ 60 ≤ x) (h2 : x ≤ 2 ^ 60) :
    PC Try.prog Y 102 [I x, I n] σ (I (fit x n)) (σ) := by
  refine PC_of_W Try.func102 rfl (by kernel_rfl) Try.ntmps102 (by simp) fun hcl hca => ?_
  refine W_seq fun kz1 kq1 => ?_
  refine W_region [0, 1] fun R hR => ?_   -- r0
  simp only [go_sem]
  refine hR _ _ (kq1 _ _ ?_); clear hR R; try clear kq1 kz1
  try simp only [go_sem]
  refine W_seq fun kz2 kq2 => ?_
  refine W_seq fun kz3 kq3 => ?_
  refine W_region [0, 1, 6] fun R hR => ?_   -- r1
  simp only [go_sem]
  refine hR _ _ (kq3 _ _ ?_); clear hR R; try clear kq3 kz3
  try simp only [go_sem]
  refine W_cond rfl (fun c1 => ?_) (fun c1 => ?_)
  · -- c1 true
    try simp only [nrm] at c1
    refine W_seq fun kz4 kq4 => ?_
    refine W_region [4] fun R hR => ?_   -- r2
    simp only [go_sem]
    refine hR _ _ (kq4 _ _ ?_); clear hR R; try clear kq4 kz4
    try simp only [go_sem]
    refine W_ret ?_
    simp only [go_sem]
    refine ⟨.inr (by trivial), ?_⟩
    first | refine Fin_same hcl rfl (Wk_eq ?_ (by simp only [go_sem])) | refine Fin_self hcl rfl (Wk_eq ?_ (by simp only [go_sem]))
    try simp only [go_sem]
    all_goals
      simp [fit, *]
  · -- c1 false
    try simp only [nrm] at c1
    refine W_skip (kq2 _ _ ?_)
    refine W_seq fun kz5 kq5 => ?_
    have hn0 : ¬ n = 0 := by omega
    have t1 := Int.tmod_lt_of_pos x (show 0 < n by omega)
    have t2 := Int.lt_tmod_of_pos x (show 0 < n by omega)
    refine W_region [0, 1] fun R hR => ?_   -- r3
    simp only [go_sem, hn0]
    try simp (disch := omega) only [wrapI, wrapU]
    refine hR _ _ (kq5 _ _ ?_); clear hR R; try clear kq5 kz5
    try simp only [go_sem]
    refine W_seq fun kz6 kq6 => ?_
    refine W_seq fun kz7 kq7 => ?_
    refine W_region [0, 1, 11] fun R hR => ?_   -- r4
    simp only [go_sem]
    refine hR _ _ (kq7 _ _ ?_); clear hR R; try clear kq7 kz7
    try simp only [go_sem]
    refine W_cond rfl (fun c2 => ?_) (fun c2 => ?_)
    · -- c2 true
      try simp only [nrm] at c2
      refine W_region [0] fun R hR => ?_   -- r5
      simp only [go_sem]
      try simp (disch := omega) only [wrapI, wrapU]
      refine hR _ _ (kq6 _ _ ?_); clear hR R; try clear kq6 kz6
      try simp only [go_sem]
      refine W_seq fun kz8 kq8 => ?_
      refine W_region [4] fun R hR => ?_   -- r6
      simp only [go_sem]
      refine hR _ _ (kq8 _ _ ?_); clear hR R; try clear kq8 kz8
      try simp only [go_sem]
      refine W_ret ?_
      simp only [go_sem]
      refine ⟨.inr (by trivial), ?_⟩
      first | refine Fin_same hcl rfl (Wk_eq ?_ (by simp only [go_sem])) | refine Fin_self hcl rfl (Wk_eq ?_ (by simp only [go_sem]))
      try simp only [go_sem]
      all_goals
        simp [fit, *]
    · -- c2 false
      try simp only [nrm] at c2
      refine W_skip (kq6 _ _ ?_)
      refine W_seq fun kz9 kq9 => ?_
      refine W_region [4] fun R hR => ?_   -- r6
      simp only [go_sem]
      refine hR _ _ (kq9 _ _ ?_); clear hR R; try clear kq9 kz9
      try simp only [go_sem]
      refine W_ret ?_
      simp only [go_sem]
      refine ⟨.inr (by trivial), ?_⟩
      first | refine Fin_same hcl rfl (Wk_eq ?_ (by simp only [go_sem])) | refine Fin_self hcl rfl (Wk_eq ?_ (by simp only [go_sem]))
      try simp only [go_sem]
      all_goals
        simp [fit, *]
set_option maxHeartbeats 2000000 in
theorem DrumOf_pc (Y : YEnv) (σ : Sg) (nums : List Int) (hl : nums.length < 2 ^ 60) :
    PC Try.prog Y 18 [ints nums] σ (.ptr σ.store.length 0) (σ.ext [some [.int .u64 (drumB nums 2685821657736338717)]] []) := by
  refine PC_of_W Try.func18 rfl (by kernel_rfl) Try.ntmps18 (by simp) fun hcl hca => ?_
  refine W_seq fun kz1 kq1 => ?_
  refine W_region [0] fun R hR => ?_   -- r0
  simp only [go_sem]
  refine hR _ _ (kq1 _ _ ?_); clear hR R; try clear kq1 kz1
  try simp only [go_sem]
  refine W_seq fun kz2 kq2 => ?_
  refine W_region [0, 3] fun R hR => ?_   -- r1
  simp only [go_sem]
  refine hR _ _ (kq2 _ _ ?_); clear hR R; try clear kq2 kz2
  try simp only [go_sem]
  refine W_seq fun kz3 kq3 => ?_
  refine W_seq fun kz4 kq4 => ?_
  refine W_region [0, 3, 4] fun R hR => ?_   -- r2
  simp only [go_sem]
  refine hR _ _ (kq4 _ _ ?_); clear hR R; try clear kq4 kz4
  try simp only [go_sem]
  refine W_block ?_
  refine W_loopT (α := Nat × Int) (fun ⟨i, b⟩ => [(4, I i)]) (fun ⟨i, b⟩ => σ.ext [some [.int .u64 b]] []) (fun ⟨i, b⟩ => i ≤ nums.length ∧ drumB nums 2685821657736338717 = drumB (nums.drop i) b) (fun ⟨i, b⟩ => nums.length - i) ((0, 2685821657736338717)) rfl (by first | rfl | (simp only [go_sem]; done) | (simp only [go_sem]; rfl)) (⟨Nat.zero_le _, rfl⟩) ?_
  rintro ⟨i, b⟩ ⟨hi, hb⟩
  refine W_seq fun kz5 kq5 => ?_
  refine W_seq fun kz6 kq6 => ?_
  refine W_region [0, 3, 4, 10] fun R hR => ?_   -- r3
  simp only [go_sem]
  refine hR _ _ (kq6 _ _ ?_); clear hR R; try clear kq6 kz6
  try simp only [go_sem]
  refine W_cond rfl (fun c1 => ?_) (fun c1 => ?_)
  · -- c1 true
    try simp only [nrm] at c1
    have hi' : i < nums.length := by first | assumption | omega
    obtain ⟨x, hx⟩ : ∃ x, nums[i]? = some x := ⟨nums[i], by simp [hi']⟩
    have hdrop : nums.drop i = x :: nums.drop (i + 1) := by
      rw [List.drop_eq_getElem_cons hi']; congr 1; exact (List.getElem?_eq_some_iff.1 hx).2
    rw [hdrop] at hb
    simp only [drumB] at hb
    refine W_skip (kq5 _ _ ?_)
    refine W_seq fun kz7 kq7 => ?_
    refine W_block ?_
    refine W_seq fun kz8 kq8 => ?_
    refine W_draw [0, 3, 4] [0, 1, 2, 3, 4, 5, 6, 7, 8, 9, 10, 11, 12, 13] [] [[], [], [1], [1, 2], [1, 2, 3], [], [], [5, 6], [5, 6, 7], [5, 6, 7, 8], [1, 2, 3, 4, 5, 6, 7, 8, 9], [0, 1, 2, 3, 4, 5, 6, 7, 8, 9, 10], [0, 1, 2, 3, 4, 5, 6, 7, 8, 9, 10, 11], [0, 1, 2, 3, 4, 5, 6, 7, 8, 9, 10, 11, 12]] mixed (by kernel_rfl) fun R hR => ?_   -- r5
    simp only [go_sem, hx]
    try simp (disch := omega) only [wrapI, wrapU]
    try refine And.intro (by repeat' (first | refine And.intro ?_ ?_ | exact GOr_right (fun _ => by simp only [go_sem, hx]))) ?_
    refine hR _ _ (kq8 _ _ ?_); clear hR R; try clear kq8 kz8
    try simp only [go_sem, hx]
    refine W_region [0, 3, 4] fun R hR => ?_   -- r6
    simp only [go_sem, hx]
    refine GCall_of (hit_pc Y _ _ _ (Sg.get_ext0 _ _ _ _)) ?_   -- t27
    simp only [go_sem, hx]
    refine hR _ _ (kq7 _ _ ?_); clear hR R; try clear kq7 kz7
    try simp only [go_sem, hx]
    refine W_region [0, 3, 4] fun R hR => ?_   -- r4
    simp only [go_sem, hx]
    try simp (disch := omega) only [wrapI, wrapU]
    refine hR _ _ ?_; clear hR R
    try simp only [go_sem, hx]
    refine ⟨(i + 1, hitB (xorU b (IntKind.u64.wrap x))), ?_, by (try simp only []); omega, ?_⟩
    · exact Weak.eq (by rfl) (by simp only [xorU, go_sem]; simp (disch := omega) only [wrapU])
    · try dsimp only
      exact ⟨hi', hb⟩
  · -- c1 false
    try simp only [nrm] at c1
    have hdrop : nums.drop i = [] := List.drop_eq_nil_of_le (by omega)
    rw [hdrop] at hb
    simp only [drumB] at hb
    refine W_exit ?_
    simp only [go_sem]
    refine kq3 _ _ ?_
    refine W_seq fun kz9 kq9 => ?_
    refine W_region [2] fun R hR => ?_   -- r7
    simp only [go_sem]
    refine hR _ _ (kq9 _ _ ?_); clear hR R; try clear kq9 kz9
    try simp only [go_sem]
    refine W_ret ?_
    simp only [go_sem]
    refine ⟨.inr (by trivial), ?_⟩
    rw [hb]; exact Fin_ext 1 0 hcl rfl (Wk_eq rfl (by simp only [go_sem] <;> omega)) (by show CleanLs _ _ _ _; simp only [go_sem])
    try simp only [go_sem]
    all_goals
      skip
set_option maxHeartbeats 2000000 in
theorem Span_pc (Y : YEnv) (σ : Sg) (d : Nat) (b : Int) (hd : σ.store[d]? = some (some [.int .u64 b])) (lo hi : Int) (h0 : lo ≤ hi) (h1 : -2 ^ 50 ≤ lo) (h2 : lo ≤ 2 ^ 50) (h3 : -2 ^ 50 ≤ hi) (h4 : hi ≤ 2 ^ 50) :
    PC Try.prog Y 103 [.ptr d 0, I lo, I hi] σ (.agg [I (spanOf lo hi b).1.1, I (spanOf lo hi b).1.2]) (σ.setVar d [.int .u64 (spanOf lo hi b).2]) := by
  refine PC_of_W Try.func103 rfl (by kernel_rfl) Try.ntmps103 (by simp) fun hcl hca => ?_
  have hlt := lt_of_get hd
  obtain ⟨n, hn⟩ : ∃ n, (mid lo hi b).1 = n := ⟨_, rfl⟩
  have nb := mid_bd lo hi h0 b
  simp only [hn] at nb
  obtain ⟨b1, hb1⟩ : ∃ n, (mid lo hi b).2 = n := ⟨_, rfl⟩
  obtain ⟨k, hk⟩ : ∃ n, (roll 3 b1).1 = n := ⟨_, rfl⟩
  obtain ⟨b2, hb2⟩ : ∃ n, (roll 3 b1).2 = n := ⟨_, rfl⟩
  have e1 : ∀ {α : Type} (f : Int → D α), dbind (mid lo hi) f b = f n b1 := fun f => by simp only [dbind, hn, hb1]
  have e2 : ∀ {α : Type} (f : Int → D α), dbind (roll 3) f b1 = f k b2 := fun f => by simp only [dbind, hk, hb2]
  simp only [spanOf, e1, e2]
  refine W_seq fun kz1 kq1 => ?_
  refine W_region [0, 1, 2, 6] fun R hR => ?_   -- r0
  simp only [go_sem, ldS_at hd, stX_at hd, ldS_sv hlt, stX_sv hlt, sv_ext hlt, sv_ext_sv hlt, hn, hb1, hk, hb2]
  refine hR _ _ (kq1 _ _ ?_); clear hR R; try clear kq1 kz1
  try simp only [go_sem, ldS_at hd, stX_at hd, ldS_sv hlt, stX_sv hlt, sv_ext hlt, sv_ext_sv hlt, hn, hb1, hk, hb2]
  refine W_seq fun kz2 kq2 => ?_
  refine W_region [0, 2, 6, 7] fun R hR => ?_   -- r1
  simp only [go_sem, ldS_at hd, stX_at hd, ldS_sv hlt, stX_sv hlt, sv_ext hlt, sv_ext_sv hlt, hn, hb1, hk, hb2]
  refine GCall_of (Mid_pc Y _ d b (by first | exact hd | exact sv_get hlt | exact get_svx hlt | exact get_extx hd) lo hi (by omega) (by omega) (by omega) (by omega)) ?_   -- t11
  simp only [go_sem, ldS_at hd, stX_at hd, ldS_sv hlt, stX_sv hlt, sv_ext hlt, sv_ext_sv hlt, hn, hb1, hk, hb2]
  refine hR _ _ (kq2 _ _ ?_); clear hR R; try clear kq2 kz2
  try simp only [go_sem, ldS_at hd, stX_at hd, ldS_sv hlt, stX_sv hlt, sv_ext hlt, sv_ext_sv hlt, hn, hb1, hk, hb2]
  refine W_seq fun kz3 kq3 => ?_
  refine W_seq fun kz4 kq4 => ?_
  refine W_region [0, 2, 6, 7, 13] fun R hR => ?_   -- r2
  simp only [go_sem, ldS_at hd, stX_at hd, ldS_sv hlt, stX_sv hlt, sv_ext hlt, sv_ext_sv hlt, hn, hb1, hk, hb2]
  refine GCall_of (Roll_pc Y _ d b1 (by first | exact hd | exact sv_get hlt | exact get_svx hlt | exact get_extx hd) 3 (by omega)) ?_   -- t13
  simp only [go_sem, ldS_at hd, stX_at hd, ldS_sv hlt, stX_sv hlt, sv_ext hlt, sv_ext_sv hlt, hn, hb1, hk, hb2]
  refine hR _ _ (kq4 _ _ ?_); clear hR R; try clear kq4 kz4
  try simp only [go_sem, ldS_at hd, stX_at hd, ldS_sv hlt, stX_sv hlt, sv_ext hlt, sv_ext_sv hlt, hn, hb1, hk, hb2]
  refine W_block ?_
  refine W_seq fun kz5 kq5 => ?_
  refine W_region [0, 2, 6, 7, 13, 14] fun R hR => ?_   -- r3
  simp only [go_sem, ldS_at hd, stX_at hd, ldS_sv hlt, stX_sv hlt, sv_ext hlt, sv_ext_sv hlt, hn, hb1, hk, hb2]
  refine hR _ _ (kq5 _ _ ?_); clear hR R; try clear kq5 kz5
  try simp only [go_sem, ldS_at hd, stX_at hd, ldS_sv hlt, stX_sv hlt, sv_ext hlt, sv_ext_sv hlt, hn, hb1, hk, hb2]
  refine W_cond rfl (fun c1 => ?_) (fun c1 => ?_)
  · -- c1 true
    try simp only [nrm] at c1
    refine W_seq fun kz6 kq6 => ?_
    refine W_region [6] fun R hR => ?_   -- r4
    simp only [go_sem, ldS_at hd, stX_at hd, ldS_sv hlt, stX_sv hlt, sv_ext hlt, sv_ext_sv hlt, hn, hb1, hk, hb2]
    refine hR _ _ (kq6 _ _ ?_); clear hR R; try clear kq6 kz6
    try simp only [go_sem, ldS_at hd, stX_at hd, ldS_sv hlt, stX_sv hlt, sv_ext hlt, sv_ext_sv hlt, hn, hb1, hk, hb2]
    refine W_ret ?_
    simp only [go_sem, ldS_at hd, stX_at hd, ldS_sv hlt, stX_sv hlt, sv_ext hlt, sv_ext_sv hlt, hn, hb1, hk, hb2]
    refine ⟨.inr (by trivial), ?_⟩
    rw [if_pos c1]; refine Fin_set hcl (by simp only [go_sem]) (by show resPV Try.prog _ _ [.cell 6 31] = some _; simp only [resPV, go_sem]; rfl) (Wk_eq ?_ (by simp only [go_sem]))
    try simp only [go_sem]
    all_goals
      rfl
  · -- c1 false
    try simp only [nrm] at c1
    refine W_seq fun kz7 kq7 => ?_
    refine W_region [0, 2, 6, 7, 19] fun R hR => ?_   -- r5
    simp only [go_sem, ldS_at hd, stX_at hd, ldS_sv hlt, stX_sv hlt, sv_ext hlt, sv_ext_sv hlt, hn, hb1, hk, hb2]
    refine hR _ _ (kq7 _ _ ?_); clear hR R; try clear kq7 kz7
    try simp only [go_sem, ldS_at hd, stX_at hd, ldS_sv hlt, stX_sv hlt, sv_ext hlt, sv_ext_sv hlt, hn, hb1, hk, hb2]
    refine W_cond rfl (fun c2 => ?_) (fun c2 => ?_)
    · -- c2 true
      try simp only [nrm] at c2
      refine W_seq fun kz8 kq8 => ?_
      refine W_region [6] fun R hR => ?_   -- r6
      simp only [go_sem, ldS_at hd, stX_at hd, ldS_sv hlt, stX_sv hlt, sv_ext hlt, sv_ext_sv hlt, hn, hb1, hk, hb2]
      try simp (disch := omega) only [wrapI, wrapU]
      refine GCall_of (Mid_pc Y _ d b2 (by first | exact hd | exact sv_get hlt | exact get_svx hlt | exact get_extx hd) n _ (by omega) (by omega) (by omega) (by omega)) ?_   -- t28
      simp only [go_sem, ldS_at hd, stX_at hd, ldS_sv hlt, stX_sv hlt, sv_ext hlt, sv_ext_sv hlt, hn, hb1, hk, hb2]
      try simp (disch := omega) only [wrapI, wrapU]
      refine hR _ _ (kq8 _ _ ?_); clear hR R; try clear kq8 kz8
      try simp only [go_sem, ldS_at hd, stX_at hd, ldS_sv hlt, stX_sv hlt, sv_ext hlt, sv_ext_sv hlt, hn, hb1, hk, hb2]
      refine W_ret ?_
      simp only [go_sem, ldS_at hd, stX_at hd, ldS_sv hlt, stX_sv hlt, sv_ext hlt, sv_ext_sv hlt, hn, hb1, hk, hb2]
      refine ⟨.inr (by trivial), ?_⟩
      rw [if_neg c1, if_pos c2]; refine Fin_set hcl (by simp only [go_sem]) (by show resPV Try.prog _ _ [.cell 6 31] = some _; simp only [resPV, go_sem]; rfl) (Wk_eq ?_ (by simp only [go_sem]))
      try simp only [go_sem]
      all_goals
        rfl
    · -- c2 false
      try simp only [nrm] at c2
      refine W_skip (kq3 _ _ ?_)
      refine W_seq fun kz9 kq9 => ?_
      refine W_region [6] fun R hR => ?_   -- r7
      simp only [go_sem, ldS_at hd, stX_at hd, ldS_sv hlt, stX_sv hlt, sv_ext hlt, sv_ext_sv hlt, hn, hb1, hk, hb2]
      refine GCall_of (Mid_pc Y _ d b2 (by first | exact hd | exact sv_get hlt | exact get_svx hlt | exact get_extx hd) n hi (by omega) (by omega) (by omega) (by omega)) ?_   -- t34
      simp only [go_sem, ldS_at hd, stX_at hd, ldS_sv hlt, stX_sv hlt, sv_ext hlt, sv_ext_sv hlt, hn, hb1, hk, hb2]
      refine hR _ _ (kq9 _ _ ?_); clear hR R; try clear kq9 kz9
      try simp only [go_sem, ldS_at hd, stX_at hd, ldS_sv hlt, stX_sv hlt, sv_ext hlt, sv_ext_sv hlt, hn, hb1, hk, hb2]
      refine W_ret ?_
      simp only [go_sem, ldS_at hd, stX_at hd, ldS_sv hlt, stX_sv hlt, sv_ext hlt, sv_ext_sv hlt, hn, hb1, hk, hb2]
      refine ⟨.inr (by trivial), ?_⟩
      rw [if_neg c1, if_neg c2]; refine Fin_set hcl (by simp only [go_sem]) (by show resPV Try.prog _ _ [.cell 6 31] = some _; simp only [resPV, go_sem]; rfl) (Wk_eq ?_ (by simp only [go_sem]))
      try simp only [go_sem]
      all_goals
        rfl
end Go.Proofs.Ytnpamcpoaklgeaa
