/-
  Walks: the times of bands, lists of bands (band).
  Walks: visits of bands, whether they cross (band).
  Walks: verdicts, the sleep of squares (band).
  Walks: the loud minutes, the sleep of a square (band).
  Walks: the sleep of a square (band); comparisons of lists (bateriakit).
  Walks: the reference's towns, cities, squares (bateriaref06, bateriaref07).
  Walks: the reference's cities, bands, verdicts, sleep (bateriaref07).
  Walks: whether bands meet, verdicts (bateriaref07).
  Bands that meet are bands that cross; walks: verdicts, sleep (bateriaref07).
  Walks: who is heard, the sleep of a square (bateriaref07).
  Walks: copies and comparisons of towns, cities, bands (bateriakit), what the laws pass over.
-/
import Derived.Test.YtnpamcpoaklgeaaPc
import Derived.CallsIn
import Derived.RangeFuncLeaves
import Derived.RangeFuncRecord
import Derived.OrdersIn
import Derived.Below
import Derived.Laws.World
import Derived.Laws.StructEq
import Derived.Laws.Append
import Derived.MapKept
import Derived.ProofKit
import Derived.Carry
import Derived.Handed
import Derived.ChangeCalls
import Derived.RangeFuncIn
import Derived.RangeFuncNested
import Derived.Test.YtnpamcpoaklgeaaProg
import Derived.KernelRfl
import Derived.IntWalk
import Derived.Test.YtnpamcpoaklgeaaRows
import Derived.Sort.OwnSortedInts
import Derived.Lib.SlicesCompact
import Derived.Shelf.Sort.Plain
import Derived.Shelf.Slices.In.SortNone
import Derived.Shelf.Slices.CompactI
import Derived.JoinedOf
set_option linter.unusedSimpArgs false
set_option linter.unusedVariables false
namespace Go.Proofs.Ytnpamcpoaklgeaa
open Go Go.RowKit
set_option maxRecDepth 100000
theorem inR_true {n lo hi : Int} : (inR n lo hi = true) = (lo ≤ n ∧ n ≤ hi) := by simp [inR]
theorem mul_bd {a b A B : Int} (h0 : 0 ≤ a) (h1 : a ≤ A) (h2 : 0 ≤ b) (h3 : b ≤ B) : 0 ≤ a * b ∧ a * b ≤ A * B :=
  ⟨Int.mul_nonneg h0 h2, Int.mul_le_mul h1 h3 h2 (Int.le_trans h0 h1)⟩
def timesOf (b : Band) : Int :=
  if inR b.lo 0 720 = false then 2 else if inR b.hi 0 720 = false then 2 else if b.hi < b.lo then 9 else if 30 < b.hi - b.lo then 2 else if inR b.stay 1 120 = false then 2 else if inR b.people 0 1000000 = false then 2 else
  if 720 < b.hi + b.stay * ((b.path.length : Int) + 1) then 12 else 0
def chkBand (c : City) (b : Band) : Int := if (sqs c b).2 ≠ 0 then (sqs c b).2 else timesOf b
def chkBands (c : City) : List Band → Int
  | [] => 0
  | b :: r => if chkBand c b ≠ 0 then chkBand c b else chkBands c r
def askedOf (c : City) (l : List Band) : Int := if chkCity c ≠ 0 then chkCity c else chkBands c l
def chkAll (c : City) (l : List Band) : Int := if chkCity c ≠ 0 then chkCity c else if 10 < (l.length : Int) then 5 else chkBands c l
def BandsOk (l : List Band) : Prop := l.length < 2 ^ 50 ∧ ∀ b, b ∈ l → b.path.length < 2 ^ 50
set_option maxHeartbeats 2000000 in
theorem times_pc (Y : YEnv) (σ : Sg) (b : Band) (hb : b.path.length < 2 ^ 50) :
    PC Try.prog Y 131 [bdPV b] σ (I (timesOf b)) (σ) := by
  refine PC_of_W Try.func131 rfl (by kernel_rfl) Try.ntmps131 (by simp) fun hcl hca => ?_
  refine W_seq fun kz1 kq1 => ?_
  refine W_region [1] fun R hR => ?_   -- r0
  simp only [go_sem]
  refine hR _ _ (kq1 _ _ ?_); clear hR R; try clear kq1 kz1
  try simp only [go_sem]
  refine W_seq fun kz2 kq2 => ?_
  refine W_seq fun kz3 kq3 => ?_
  refine W_region [1, 3] fun R hR => ?_   -- r1
  simp only [go_sem]
  refine hR _ _ (kq3 _ _ ?_); clear hR R; try clear kq3 kz3
  try simp only [go_sem]
  refine W_block ?_
  refine W_seq fun kz4 kq4 => ?_
  refine W_seq fun kz5 kq5 => ?_
  refine W_region [1, 3, 6] fun R hR => ?_   -- r2
  simp only [go_sem]
  refine GCall_of (in_pc Y _ b.lo 0 720) ?_   -- t9
  simp only [go_sem]
  refine hR _ _ (kq5 _ _ ?_); clear hR R; try clear kq5 kz5
  try simp only [go_sem]
  refine W_cond rfl (fun c1 => ?_) (fun c1 => ?_)
  · -- c1 true
    try simp only [nrm] at c1
    refine W_skip (kq4 _ _ ?_)
    refine W_cond_true (by first | rfl | (simp only [go_sem]; simp [c1])) ?_
    refine W_seq fun kz6 kq6 => ?_
    refine W_region [2] fun R hR => ?_   -- r4
    simp only [go_sem]
    refine hR _ _ (kq6 _ _ ?_); clear hR R; try clear kq6 kz6
    try simp only [go_sem]
    refine W_ret ?_
    simp only [go_sem]
    refine ⟨.inr (by trivial), ?_⟩
    first | refine Fin_same hcl rfl (Wk_eq ?_ (by simp only [go_sem])) | refine Fin_self hcl rfl (Wk_eq ?_ (by simp only [go_sem]))
    try simp only [go_sem]
    all_goals
      first | rfl | (simp_all; done) | (simp_all; omega) | (simp only [timesOf]; (repeat' split) <;> ((first | rfl | omega | (simp_all; done) | (simp_all; omega))))
  · -- c1 false
    try simp only [nrm] at c1
    refine W_region [1, 3, 6] fun R hR => ?_   -- r3
    simp only [go_sem]
    refine GCall_of (in_pc Y _ b.hi 0 720) ?_   -- t13
    simp only [go_sem]
    refine hR _ _ (kq4 _ _ ?_); clear hR R; try clear kq4 kz4
    try simp only [go_sem]
    refine W_cond rfl (fun c2 => ?_) (fun c2 => ?_)
    · -- c2 true
      try simp only [nrm] at c2
      refine W_seq fun kz7 kq7 => ?_
      refine W_region [2] fun R hR => ?_   -- r4
      simp only [go_sem]
      refine hR _ _ (kq7 _ _ ?_); clear hR R; try clear kq7 kz7
      try simp only [go_sem]
      refine W_ret ?_
      simp only [go_sem]
      refine ⟨.inr (by trivial), ?_⟩
      first | refine Fin_same hcl rfl (Wk_eq ?_ (by simp only [go_sem])) | refine Fin_self hcl rfl (Wk_eq ?_ (by simp only [go_sem]))
      try simp only [go_sem]
      all_goals
        first | rfl | (simp_all; done) | (simp_all; omega) | (simp only [timesOf]; (repeat' split) <;> ((first | rfl | omega | (simp_all; done) | (simp_all; omega))))
    · -- c2 false
      try simp only [nrm] at c2
      refine W_seq fun kz8 kq8 => ?_
      refine W_region [1, 3, 15] fun R hR => ?_   -- r5
      simp only [go_sem]
      refine hR _ _ (kq8 _ _ ?_); clear hR R; try clear kq8 kz8
      try simp only [go_sem]
      refine W_cond rfl (fun c3 => ?_) (fun c3 => ?_)
      · -- c3 true
        try simp only [nrm] at c3
        refine W_seq fun kz9 kq9 => ?_
        refine W_region [2] fun R hR => ?_   -- r6
        simp only [go_sem]
        refine hR _ _ (kq9 _ _ ?_); clear hR R; try clear kq9 kz9
        try simp only [go_sem]
        refine W_ret ?_
        simp only [go_sem]
        refine ⟨.inr (by trivial), ?_⟩
        first | refine Fin_same hcl rfl (Wk_eq ?_ (by simp only [go_sem])) | refine Fin_self hcl rfl (Wk_eq ?_ (by simp only [go_sem]))
        try simp only [go_sem]
        all_goals
          first | rfl | (simp_all; done) | (simp_all; omega) | (simp only [timesOf]; (repeat' split) <;> ((first | rfl | omega | (simp_all; done) | (simp_all; omega))))
      · -- c3 false
        try simp only [nrm] at c3
        refine W_seq fun kz10 kq10 => ?_
        refine W_seq fun kz11 kq11 => ?_
        have d1 : inR b.lo 0 720 = true := by assumption
        have d2 : inR b.hi 0 720 = true := by assumption
        simp only [inR_true] at d1 d2
        refine W_region [1, 3, 21] fun R hR => ?_   -- r7
        simp only [go_sem]
        try simp (disch := omega) only [wrapI]
        refine hR _ _ (kq11 _ _ ?_); clear hR R; try clear kq11 kz11
        try simp only [go_sem]
        refine W_cond rfl (fun c4 => ?_) (fun c4 => ?_)
        · -- c4 true
          try simp only [nrm] at c4
          refine W_skip (kq10 _ _ ?_)
          refine W_cond_true (by first | rfl | (simp only [go_sem]; simp [c4])) ?_
          refine W_seq fun kz12 kq12 => ?_
          refine W_region [2] fun R hR => ?_   -- r10
          simp only [go_sem]
          refine hR _ _ (kq12 _ _ ?_); clear hR R; try clear kq12 kz12
          try simp only [go_sem]
          refine W_ret ?_
          simp only [go_sem]
          refine ⟨.inr (by trivial), ?_⟩
          first | refine Fin_same hcl rfl (Wk_eq ?_ (by simp only [go_sem])) | refine Fin_self hcl rfl (Wk_eq ?_ (by simp only [go_sem]))
          try simp only [go_sem]
          all_goals
            first | rfl | (simp_all; done) | (simp_all; omega) | (simp only [timesOf]; (repeat' split) <;> ((first | rfl | omega | (simp_all; done) | (simp_all; omega))))
        · -- c4 false
          try simp only [nrm] at c4
          refine W_seq fun kz13 kq13 => ?_
          refine W_region [1, 3, 21] fun R hR => ?_   -- r8
          simp only [go_sem]
          refine GCall_of (in_pc Y _ b.stay 1 120) ?_   -- t30
          simp only [go_sem]
          refine hR _ _ (kq13 _ _ ?_); clear hR R; try clear kq13 kz13
          try simp only [go_sem]
          refine W_cond rfl (fun c5 => ?_) (fun c5 => ?_)
          · -- c5 true
            try simp only [nrm] at c5
            refine W_skip (kq10 _ _ ?_)
            refine W_cond_true (by first | rfl | (simp only [go_sem]; simp [c5])) ?_
            refine W_seq fun kz14 kq14 => ?_
            refine W_region [2] fun R hR => ?_   -- r10
            simp only [go_sem]
            refine hR _ _ (kq14 _ _ ?_); clear hR R; try clear kq14 kz14
            try simp only [go_sem]
            refine W_ret ?_
            simp only [go_sem]
            refine ⟨.inr (by trivial), ?_⟩
            first | refine Fin_same hcl rfl (Wk_eq ?_ (by simp only [go_sem])) | refine Fin_self hcl rfl (Wk_eq ?_ (by simp only [go_sem]))
            try simp only [go_sem]
            all_goals
              first | rfl | (simp_all; done) | (simp_all; omega) | (simp only [timesOf]; (repeat' split) <;> ((first | rfl | omega | (simp_all; done) | (simp_all; omega))))
          · -- c5 false
            try simp only [nrm] at c5
            refine W_region [1, 3, 21] fun R hR => ?_   -- r9
            simp only [go_sem]
            refine GCall_of (in_pc Y _ b.people 0 1000000) ?_   -- t34
            simp only [go_sem]
            refine hR _ _ (kq10 _ _ ?_); clear hR R; try clear kq10 kz10
            try simp only [go_sem]
            refine W_cond rfl (fun c6 => ?_) (fun c6 => ?_)
            · -- c6 true
              try simp only [nrm] at c6
              refine W_seq fun kz15 kq15 => ?_
              refine W_region [2] fun R hR => ?_   -- r10
              simp only [go_sem]
              refine hR _ _ (kq15 _ _ ?_); clear hR R; try clear kq15 kz15
              try simp only [go_sem]
              refine W_ret ?_
              simp only [go_sem]
              refine ⟨.inr (by trivial), ?_⟩
              first | refine Fin_same hcl rfl (Wk_eq ?_ (by simp only [go_sem])) | refine Fin_self hcl rfl (Wk_eq ?_ (by simp only [go_sem]))
              try simp only [go_sem]
              all_goals
                first | rfl | (simp_all; done) | (simp_all; omega) | (simp only [timesOf]; (repeat' split) <;> ((first | rfl | omega | (simp_all; done) | (simp_all; omega))))
            · -- c6 false
              try simp only [nrm] at c6
              refine W_seq fun kz16 kq16 => ?_
              have d3 : inR b.stay 1 120 = true := by assumption
              simp only [inR_true] at d3
              have d4 := mul_bd (a := b.stay) (b := (b.path.length : Int) + 1) (A := 120) (B := 2 ^ 51) (by omega) (by omega) (by omega) (by omega)
              refine W_region [36] fun R hR => ?_   -- r11
              simp only [go_sem]
              try simp (disch := omega) only [wrapI]
              refine hR _ _ (kq16 _ _ ?_); clear hR R; try clear kq16 kz16
              try simp only [go_sem]
              refine W_cond rfl (fun c7 => ?_) (fun c7 => ?_)
              · -- c7 true
                try simp only [nrm] at c7
                refine W_seq fun kz17 kq17 => ?_
                refine W_region [2] fun R hR => ?_   -- r12
                simp only [go_sem]
                refine hR _ _ (kq17 _ _ ?_); clear hR R; try clear kq17 kz17
                try simp only [go_sem]
                refine W_ret ?_
                simp only [go_sem]
                refine ⟨.inr (by trivial), ?_⟩
                first | refine Fin_same hcl rfl (Wk_eq ?_ (by simp only [go_sem])) | refine Fin_self hcl rfl (Wk_eq ?_ (by simp only [go_sem]))
                try simp only [go_sem]
                all_goals
                  first | rfl | (simp_all; done) | (simp_all; omega) | (simp only [timesOf]; (repeat' split) <;> ((first | rfl | omega | (simp_all; done) | (simp_all; omega))))
              · -- c7 false
                try simp only [nrm] at c7
                refine W_skip (kq2 _ _ ?_)
                refine W_seq fun kz18 kq18 => ?_
                refine W_region [2] fun R hR => ?_   -- r13
                simp only [go_sem]
                refine hR _ _ (kq18 _ _ ?_); clear hR R; try clear kq18 kz18
                try simp only [go_sem]
                refine W_ret ?_
                simp only [go_sem]
                refine ⟨.inr (by trivial), ?_⟩
                first | refine Fin_same hcl rfl (Wk_eq ?_ (by simp only [go_sem])) | refine Fin_self hcl rfl (Wk_eq ?_ (by simp only [go_sem]))
                try simp only [go_sem]
                all_goals
                  first | rfl | (simp_all; done) | (simp_all; omega) | (simp only [timesOf]; (repeat' split) <;> ((first | rfl | omega | (simp_all; done) | (simp_all; omega))))
set_option maxHeartbeats 2000000 in
theorem checkBand_pc (Y : YEnv) (σ : Sg) (ct : City) (b : Band) (hc : ct.Ok) (hb : b.path.length < 2 ^ 50) :
    PC Try.prog Y 99 [ctPV ct, bdPV b] σ (I (chkBand ct b)) (σ) := by
  refine PC_of_W Try.func99 rfl (by kernel_rfl) Try.ntmps99 (by simp) fun hcl hca => ?_
  refine W_seq fun kz1 kq1 => ?_
  refine W_region [2, 3] fun R hR => ?_   -- r0
  simp only [go_sem]
  refine hR _ _ (kq1 _ _ ?_); clear hR R; try clear kq1 kz1
  try simp only [go_sem]
  refine W_seq fun kz2 kq2 => ?_
  refine W_seq fun kz3 kq3 => ?_
  refine W_region [3, 6] fun R hR => ?_   -- r1
  simp only [go_sem]
  refine GCall_of (squares_pc Y _ ct b hc hb) ?_   -- t10
  simp only [go_sem]
  refine hR _ _ (kq3 _ _ ?_); clear hR R; try clear kq3 kz3
  try simp only [go_sem]
  refine W_seq fun kz4 kq4 => ?_
  refine W_region [3, 6, 14] fun R hR => ?_   -- r2
  simp only [go_sem]
  refine hR _ _ (kq4 _ _ ?_); clear hR R; try clear kq4 kz4
  try simp only [go_sem]
  refine W_cond rfl (fun c1 => ?_) (fun c1 => ?_)
  · -- c1 true
    try simp only [nrm] at c1
    refine W_seq fun kz5 kq5 => ?_
    refine W_region [4] fun R hR => ?_   -- r3
    simp only [go_sem]
    refine hR _ _ (kq5 _ _ ?_); clear hR R; try clear kq5 kz5
    try simp only [go_sem]
    refine W_ret ?_
    simp only [go_sem]
    refine ⟨.inr (by trivial), ?_⟩
    first | refine Fin_same hcl rfl (Wk_eq ?_ (by simp only [go_sem])) | refine Fin_self hcl rfl (Wk_eq ?_ (by simp only [go_sem]))
    try simp only [go_sem]
    all_goals
      first | rfl | (simp_all; done) | (simp_all; omega) | (simp only [chkBand]; (repeat' split) <;> ((first | rfl | omega | (simp_all; done) | (simp_all; omega))))
  · -- c1 false
    try simp only [nrm] at c1
    refine W_skip (kq2 _ _ ?_)
    refine W_seq fun kz6 kq6 => ?_
    refine W_region [4] fun R hR => ?_   -- r4
    simp only [go_sem]
    refine GCall_of (times_pc Y _ b hb) ?_   -- t17
    simp only [go_sem]
    refine hR _ _ (kq6 _ _ ?_); clear hR R; try clear kq6 kz6
    try simp only [go_sem]
    refine W_ret ?_
    simp only [go_sem]
    refine ⟨.inr (by trivial), ?_⟩
    first | refine Fin_same hcl rfl (Wk_eq ?_ (by simp only [go_sem])) | refine Fin_self hcl rfl (Wk_eq ?_ (by simp only [go_sem]))
    try simp only [go_sem]
    all_goals
      first | rfl | (simp_all; done) | (simp_all; omega) | (simp only [chkBand]; (repeat' split) <;> ((first | rfl | omega | (simp_all; done) | (simp_all; omega))))
set_option maxHeartbeats 2000000 in
theorem asked_pc (Y : YEnv) (σ : Sg) (ct : City) (l : List Band) (hc : ct.Ok) (hl : BandsOk l) :
    PC Try.prog Y 66 [ctPV ct, bands l] σ (I (askedOf ct l)) (σ) := by
  refine PC_of_W Try.func66 rfl (by kernel_rfl) Try.ntmps66 (by simp) fun hcl hca => ?_
  have hl1 := hl.1
  have hl2 := hl.2
  obtain ⟨res, hres⟩ : ∃ r, askedOf ct l = r := ⟨_, rfl⟩
  rw [hres]
  refine W_seq fun kz1 kq1 => ?_
  refine W_region [1, 2] fun R hR => ?_   -- r0
  simp only [go_sem]
  refine hR _ _ (kq1 _ _ ?_); clear hR R; try clear kq1 kz1
  try simp only [go_sem]
  refine W_seq fun kz2 kq2 => ?_
  refine W_seq fun kz3 kq3 => ?_
  refine W_region [1, 2, 5] fun R hR => ?_   -- r1
  simp only [go_sem]
  refine GCall_of (bcheck_pc Y _ ct hc) ?_   -- t10
  simp only [go_sem]
  refine hR _ _ (kq3 _ _ ?_); clear hR R; try clear kq3 kz3
  try simp only [go_sem]
  refine W_seq fun kz4 kq4 => ?_
  refine W_region [1, 2, 5, 12] fun R hR => ?_   -- r2
  simp only [go_sem]
  refine hR _ _ (kq4 _ _ ?_); clear hR R; try clear kq4 kz4
  try simp only [go_sem]
  refine W_cond rfl (fun c1 => ?_) (fun c1 => ?_)
  · -- c1 true
    try simp only [nrm] at c1
    refine W_seq fun kz5 kq5 => ?_
    refine W_region [4] fun R hR => ?_   -- r3
    simp only [go_sem]
    refine hR _ _ (kq5 _ _ ?_); clear hR R; try clear kq5 kz5
    try simp only [go_sem]
    refine W_ret ?_
    simp only [go_sem]
    refine ⟨.inr (by trivial), ?_⟩
    first | refine Fin_same hcl rfl (Wk_eq ?_ (by simp only [go_sem])) | refine Fin_self hcl rfl (Wk_eq ?_ (by simp only [go_sem]))
    try simp only [go_sem]
    all_goals
      first | rfl | (simp_all; done) | (simp_all; omega) | (rw [← hres]; simp only [askedOf]; (repeat' split) <;> ((first | rfl | omega | (simp_all; done) | (simp_all; omega))))
  · -- c1 false
    try simp only [nrm] at c1
    refine W_skip (kq2 _ _ ?_)
    refine W_seq fun kz6 kq6 => ?_
    refine W_seq fun kz7 kq7 => ?_
    refine W_region [2, 14, 15, 16] fun R hR => ?_   -- r4
    simp only [go_sem]
    refine hR _ _ (kq7 _ _ ?_); clear hR R; try clear kq7 kz7
    try simp only [go_sem]
    refine W_block ?_
    refine W_loopS (α := Nat) (fun (i : Nat) => [(16, I i)]) (fun (i : Nat) => i ≤ l.length ∧ res = chkBands ct (l.drop i)) (fun (i : Nat) => l.length - i) (0) rfl (⟨Nat.zero_le _, by rw [← hres]; simp [askedOf, chkAll, *]⟩) ?_
    rintro i ⟨hi, hinv⟩
    refine W_seq fun kz8 kq8 => ?_
    refine W_region [2, 14, 15, 16, 17] fun R hR => ?_   -- r5
    simp only [go_sem]
    refine hR _ _ (kq8 _ _ ?_); clear hR R; try clear kq8 kz8
    try simp only [go_sem]
    refine W_seq fun kz9 kq9 => ?_
    refine W_cond rfl (fun c2 => ?_) (fun c2 => ?_)
    · -- c2 true
      try simp only [nrm] at c2
      have hi' : i < l.length := by first | assumption | omega
      obtain ⟨b, hx⟩ : ∃ b, l[i]? = some b := ⟨l[i], by simp [hi']⟩
      have hdrop : l.drop i = b :: l.drop (i + 1) := by
        rw [List.drop_eq_getElem_cons hi']; congr 1; exact (List.getElem?_eq_some_iff.1 hx).2
      have hbl : b ∈ l := List.mem_of_getElem? hx
      rw [hdrop] at hinv
      simp only [chkBands] at hinv
      refine W_skip (kq9 _ _ ?_)
      refine W_seq fun kz10 kq10 => ?_
      refine W_block ?_
      refine W_seq fun kz11 kq11 => ?_
      refine W_region [2, 7, 14, 15, 16] fun R hR => ?_   -- r6
      simp only [go_sem, hx]
      refine hR _ _ (kq11 _ _ ?_); clear hR R; try clear kq11 kz11
      try simp only [go_sem, hx]
      refine W_seq fun kz12 kq12 => ?_
      refine W_region [2, 8, 14, 15, 16] fun R hR => ?_   -- r7
      simp only [go_sem, hx]
      refine GCall_of (checkBand_pc Y _ ct b hc (hl2 b hbl)) ?_   -- t22
      simp only [go_sem, hx]
      refine hR _ _ (kq12 _ _ ?_); clear hR R; try clear kq12 kz12
      try simp only [go_sem, hx]
      refine W_seq fun kz13 kq13 => ?_
      refine W_region [2, 8, 14, 15, 16, 24] fun R hR => ?_   -- r8
      simp only [go_sem, hx]
      refine hR _ _ (kq13 _ _ ?_); clear hR R; try clear kq13 kz13
      try simp only [go_sem, hx]
      refine W_cond rfl (fun c3 => ?_) (fun c3 => ?_)
      · -- c3 true
        try simp only [nrm] at c3
        refine W_seq fun kz14 kq14 => ?_
        refine W_region [4] fun R hR => ?_   -- r9
        simp only [go_sem, hx]
        refine hR _ _ (kq14 _ _ ?_); clear hR R; try clear kq14 kz14
        try simp only [go_sem, hx]
        refine W_ret ?_
        simp only [go_sem, hx]
        refine ⟨.inr (by trivial), ?_⟩
        first | refine Fin_same hcl rfl (Wk_eq ?_ (by simp only [go_sem])) | refine Fin_self hcl rfl (Wk_eq ?_ (by simp only [go_sem]))
        try simp only [go_sem]
        all_goals
          first | rfl | (simp_all; done) | (simp_all; omega) | (rw [← hres]; simp only [askedOf]; (repeat' split) <;> ((first | rfl | omega | (simp_all; done) | (simp_all; omega))))
      · -- c3 false
        try simp only [nrm] at c3
        refine W_skip (kq10 _ _ ?_)
        refine W_region [2, 14, 15, 16] fun R hR => ?_   -- r10
        simp only [go_sem, hx]
        try simp (disch := omega) only [wrapI]
        refine hR _ _ ?_; clear hR R
        try simp only [go_sem, hx]
        refine ⟨i + 1, ?_, by (try simp only []); omega, ?_⟩
        · refine Weak.trans (Weak.cutX 1 0 (by omega) (by omega) hcl (by simp only [go_sem]) (by simp only [go_sem] <;> omega)) ?_
          simp only [go_sem]
          exact Weak.eq (by first | rfl | (simp only [go_sem]; done) | (simp only [go_sem]; rfl) | (simp [go_sem]; done) | (simp [go_sem]; omega)) (by first | rfl | (simp only [go_sem]; done) | (simp [go_sem]; done))
        · try dsimp only
          exact ⟨hi', by simp_all⟩
    · -- c2 false
      try simp only [nrm] at c2
      have hdrop : l.drop i = [] := List.drop_eq_nil_of_le (by omega)
      rw [hdrop] at hinv
      simp only [chkBands] at hinv
      refine W_exit ?_
      simp only [go_sem]
      refine kq6 _ _ ?_
      refine W_seq fun kz15 kq15 => ?_
      refine W_region [4] fun R hR => ?_   -- r11
      simp only [go_sem]
      refine hR _ _ (kq15 _ _ ?_); clear hR R; try clear kq15 kz15
      try simp only [go_sem]
      refine W_ret ?_
      simp only [go_sem]
      refine ⟨.inr (by trivial), ?_⟩
      first | refine Fin_same hcl rfl (Wk_eq ?_ (by simp only [go_sem])) | refine Fin_self hcl rfl (Wk_eq ?_ (by simp only [go_sem]))
      try simp only [go_sem]
      all_goals
        first | rfl | (simp_all; done) | (simp_all; omega) | (rw [← hres]; simp only [askedOf]; (repeat' split) <;> ((first | rfl | omega | (simp_all; done) | (simp_all; omega))))
set_option maxHeartbeats 2000000 in
theorem checkBands_pc (Y : YEnv) (σ : Sg) (ct : City) (l : List Band) (hc : ct.Ok) (hl : BandsOk l) :
    PC Try.prog Y 55 [ctPV ct, bands l] σ (I (chkAll ct l)) (σ) := by
  refine PC_of_W Try.func55 rfl (by kernel_rfl) Try.ntmps55 (by simp) fun hcl hca => ?_
  have hl1 := hl.1
  have hl2 := hl.2
  obtain ⟨res, hres⟩ : ∃ r, chkAll ct l = r := ⟨_, rfl⟩
  rw [hres]
  refine W_seq fun kz1 kq1 => ?_
  refine W_region [1, 2] fun R hR => ?_   -- r0
  simp only [go_sem]
  refine hR _ _ (kq1 _ _ ?_); clear hR R; try clear kq1 kz1
  try simp only [go_sem]
  refine W_seq fun kz2 kq2 => ?_
  refine W_seq fun kz3 kq3 => ?_
  refine W_region [1, 2, 5] fun R hR => ?_   -- r1
  simp only [go_sem]
  refine GCall_of (bcheck_pc Y _ ct hc) ?_   -- t10
  simp only [go_sem]
  refine hR _ _ (kq3 _ _ ?_); clear hR R; try clear kq3 kz3
  try simp only [go_sem]
  refine W_seq fun kz4 kq4 => ?_
  refine W_region [1, 2, 5, 12] fun R hR => ?_   -- r2
  simp only [go_sem]
  refine hR _ _ (kq4 _ _ ?_); clear hR R; try clear kq4 kz4
  try simp only [go_sem]
  refine W_cond rfl (fun c1 => ?_) (fun c1 => ?_)
  · -- c1 true
    try simp only [nrm] at c1
    refine W_seq fun kz5 kq5 => ?_
    refine W_region [4] fun R hR => ?_   -- r3
    simp only [go_sem]
    refine hR _ _ (kq5 _ _ ?_); clear hR R; try clear kq5 kz5
    try simp only [go_sem]
    refine W_ret ?_
    simp only [go_sem]
    refine ⟨.inr (by trivial), ?_⟩
    first | refine Fin_same hcl rfl (Wk_eq ?_ (by simp only [go_sem])) | refine Fin_self hcl rfl (Wk_eq ?_ (by simp only [go_sem]))
    try simp only [go_sem]
    all_goals
      first | rfl | (simp_all; done) | (simp_all; omega) | (rw [← hres]; simp only [chkAll]; (repeat' split) <;> ((first | rfl | omega | (simp_all; done) | (simp_all; omega))))
  · -- c1 false
    try simp only [nrm] at c1
    refine W_skip (kq2 _ _ ?_)
    refine W_seq fun kz6 kq6 => ?_
    refine W_seq fun kz7 kq7 => ?_
    refine W_region [1, 2, 16] fun R hR => ?_   -- r4
    simp only [go_sem]
    refine hR _ _ (kq7 _ _ ?_); clear hR R; try clear kq7 kz7
    try simp only [go_sem]
    refine W_cond rfl (fun c2 => ?_) (fun c2 => ?_)
    · -- c2 true
      try simp only [nrm] at c2
      refine W_seq fun kz8 kq8 => ?_
      refine W_region [4] fun R hR => ?_   -- r5
      simp only [go_sem]
      refine hR _ _ (kq8 _ _ ?_); clear hR R; try clear kq8 kz8
      try simp only [go_sem]
      refine W_ret ?_
      simp only [go_sem]
      refine ⟨.inr (by trivial), ?_⟩
      first | refine Fin_same hcl rfl (Wk_eq ?_ (by simp only [go_sem])) | refine Fin_self hcl rfl (Wk_eq ?_ (by simp only [go_sem]))
      try simp only [go_sem]
      all_goals
        first | rfl | (simp_all; done) | (simp_all; omega) | (rw [← hres]; simp only [chkAll]; (repeat' split) <;> ((first | rfl | omega | (simp_all; done) | (simp_all; omega))))
    · -- c2 false
      try simp only [nrm] at c2
      refine W_skip (kq6 _ _ ?_)
      refine W_seq fun kz9 kq9 => ?_
      refine W_seq fun kz10 kq10 => ?_
      refine W_region [2, 17, 18, 19] fun R hR => ?_   -- r6
      simp only [go_sem]
      refine hR _ _ (kq10 _ _ ?_); clear hR R; try clear kq10 kz10
      try simp only [go_sem]
      refine W_block ?_
      refine W_loopS (α := Nat) (fun (i : Nat) => [(19, I i)]) (fun (i : Nat) => i ≤ l.length ∧ res = chkBands ct (l.drop i)) (fun (i : Nat) => l.length - i) (0) rfl (⟨Nat.zero_le _, by rw [← hres]; simp [askedOf, chkAll, *]⟩) ?_
      rintro i ⟨hi, hinv⟩
      refine W_seq fun kz11 kq11 => ?_
      refine W_region [2, 17, 18, 19, 20] fun R hR => ?_   -- r7
      simp only [go_sem]
      refine hR _ _ (kq11 _ _ ?_); clear hR R; try clear kq11 kz11
      try simp only [go_sem]
      refine W_seq fun kz12 kq12 => ?_
      refine W_cond rfl (fun c3 => ?_) (fun c3 => ?_)
      · -- c3 true
        try simp only [nrm] at c3
        have hi' : i < l.length := by first | assumption | omega
        obtain ⟨b, hx⟩ : ∃ b, l[i]? = some b := ⟨l[i], by simp [hi']⟩
        have hdrop : l.drop i = b :: l.drop (i + 1) := by
          rw [List.drop_eq_getElem_cons hi']; congr 1; exact (List.getElem?_eq_some_iff.1 hx).2
        have hbl : b ∈ l := List.mem_of_getElem? hx
        rw [hdrop] at hinv
        simp only [chkBands] at hinv
        refine W_skip (kq12 _ _ ?_)
        refine W_seq fun kz13 kq13 => ?_
        refine W_block ?_
        refine W_seq fun kz14 kq14 => ?_
        refine W_region [2, 7, 17, 18, 19] fun R hR => ?_   -- r8
        simp only [go_sem, hx]
        refine hR _ _ (kq14 _ _ ?_); clear hR R; try clear kq14 kz14
        try simp only [go_sem, hx]
        refine W_seq fun kz15 kq15 => ?_
        refine W_region [2, 8, 17, 18, 19] fun R hR => ?_   -- r9
        simp only [go_sem, hx]
        refine GCall_of (checkBand_pc Y _ ct b hc (hl2 b hbl)) ?_   -- t25
        simp only [go_sem, hx]
        refine hR _ _ (kq15 _ _ ?_); clear hR R; try clear kq15 kz15
        try simp only [go_sem, hx]
        refine W_seq fun kz16 kq16 => ?_
        refine W_region [2, 8, 17, 18, 19, 27] fun R hR => ?_   -- r10
        simp only [go_sem, hx]
        refine hR _ _ (kq16 _ _ ?_); clear hR R; try clear kq16 kz16
        try simp only [go_sem, hx]
        refine W_cond rfl (fun c4 => ?_) (fun c4 => ?_)
        · -- c4 true
          try simp only [nrm] at c4
          refine W_seq fun kz17 kq17 => ?_
          refine W_region [4] fun R hR => ?_   -- r11
          simp only [go_sem, hx]
          refine hR _ _ (kq17 _ _ ?_); clear hR R; try clear kq17 kz17
          try simp only [go_sem, hx]
          refine W_ret ?_
          simp only [go_sem, hx]
          refine ⟨.inr (by trivial), ?_⟩
          first | refine Fin_same hcl rfl (Wk_eq ?_ (by simp only [go_sem])) | refine Fin_self hcl rfl (Wk_eq ?_ (by simp only [go_sem]))
          try simp only [go_sem]
          all_goals
            first | rfl | (simp_all; done) | (simp_all; omega) | (rw [← hres]; simp only [chkAll]; (repeat' split) <;> ((first | rfl | omega | (simp_all; done) | (simp_all; omega))))
        · -- c4 false
          try simp only [nrm] at c4
          refine W_skip (kq13 _ _ ?_)
          refine W_region [2, 17, 18, 19] fun R hR => ?_   -- r12
          simp only [go_sem, hx]
          try simp (disch := omega) only [wrapI]
          refine hR _ _ ?_; clear hR R
          try simp only [go_sem, hx]
          refine ⟨i + 1, ?_, by (try simp only []); omega, ?_⟩
          · refine Weak.trans (Weak.cutX 1 0 (by omega) (by omega) hcl (by simp only [go_sem]) (by simp only [go_sem] <;> omega)) ?_
            simp only [go_sem]
            exact Weak.eq (by first | rfl | (simp only [go_sem]; done) | (simp only [go_sem]; rfl) | (simp [go_sem]; done) | (simp [go_sem]; omega)) (by first | rfl | (simp only [go_sem]; done) | (simp [go_sem]; done))
          · try dsimp only
            exact ⟨hi', by simp_all⟩
      · -- c3 false
        try simp only [nrm] at c3
        have hdrop : l.drop i = [] := List.drop_eq_nil_of_le (by omega)
        rw [hdrop] at hinv
        simp only [chkBands] at hinv
        refine W_exit ?_
        simp only [go_sem]
        refine kq9 _ _ ?_
        refine W_seq fun kz18 kq18 => ?_
        refine W_region [4] fun R hR => ?_   -- r13
        simp only [go_sem]
        refine hR _ _ (kq18 _ _ ?_); clear hR R; try clear kq18 kz18
        try simp only [go_sem]
        refine W_ret ?_
        simp only [go_sem]
        refine ⟨.inr (by trivial), ?_⟩
        first | refine Fin_same hcl rfl (Wk_eq ?_ (by simp only [go_sem])) | refine Fin_self hcl rfl (Wk_eq ?_ (by simp only [go_sem]))
        try simp only [go_sem]
        all_goals
          first | rfl | (simp_all; done) | (simp_all; omega) | (rw [← hres]; simp only [chkAll]; (repeat' split) <;> ((first | rfl | omega | (simp_all; done) | (simp_all; omega))))
end Go.Proofs.Ytnpamcpoaklgeaa
namespace Go.Proofs.Ytnpamcpoaklgeaa
open Go Go.RowKit
set_option maxRecDepth 100000
theorem starts_pc (Y : YEnv) (σ : Sg) (a b c d e f : PV) : PC Try.prog Y 88 [.agg [a, b, c, d, e, f]] σ (.func (.func 125) [] [.ptr σ.store.length 0]) (σ.ext [some [a, b, c, d, e, f]] []) := by
  refine PC_of_W Try.func88 rfl (by kernel_rfl) Try.ntmps88 (by simp) fun hcl hca => ?_
  refine W_seq fun K1 h1 => ?_
  refine W_region [1] fun K2 h2 => ?_
  simp only [go_sem]
  refine h2 _ _ (h1 _ _ ?_); clear h1 h2 K1 K2
  refine W_seq fun K1 h1 => ?_
  refine W_region [2] fun K2 h2 => ?_
  simp only [go_sem]
  refine h2 _ _ (h1 _ _ ?_); clear h1 h2 K1 K2
  simp only [go_sem]
  refine W_ret ⟨.inr rfl, ?_⟩
  refine Fin_ext 1 0 hcl rfl (Wk.of_clean (.func _ _ _ Clean.all_nil (Clean.all_cons (.ptr _ _ (by omega)) Clean.all_nil))) ?_
  intro cs hcs p hp
  have hcs' : cs = [a, b, c, d, e, f] := by simpa using hcs
  have hp' : p ∈ [a, b, c, d, e, f] := hcs' ▸ hp
  have := hca (.agg [a, b, c, d, e, f]) (by simp)
  cases this with
  | agg _ hh => exact (hh p hp').mono (Nat.le_add_right _ _) (Nat.le_add_right _ _) (Nat.le_refl _)
theorem starts1_pc (Y : YEnv) (y id : Nat) (a b e f : PV) (lo hi : Int) (τ : Int → Sg) (hlo : -2 ^ 63 ≤ lo) (hhi : hi < 2 ^ 63 - 1) (hm : lo ≤ hi + 1)
    (hst : ∀ s, lo ≤ s → s ≤ hi + 1 → (τ s).store[id]? = some (some [a, b, .int .i64 lo, .int .i64 hi, e, f]))
    (hY : ∀ s, lo ≤ s → s ≤ hi → Y y [.int .i64 s] (τ s) true (τ (s + 1))) (hlen : (τ (hi + 1)).store.length = (τ lo).store.length) (hr : (τ (hi + 1)).rooms.length = (τ lo).rooms.length) (hy : (τ (hi + 1)).ys.length = (τ lo).ys.length)
    (hcl' : CleanSg (τ lo) → CleanSg (τ (hi + 1))) : PC Try.prog Y 125 [.yield y, .ptr id 0] (τ lo) (.tuple []) (τ (hi + 1)) := by
  refine PC_of_W Try.func125 rfl (by kernel_rfl) Try.ntmps125 (by simp) fun hcl hca => ?_
  refine W_seq fun K1 h1 => ?_
  refine W_region [0, 1, 3] fun K2 h2 => ?_
  have hs0 := hst lo (by omega) (by omega)
  simp only [go_sem, ldS_at hs0]
  refine h2 _ _ (h1 _ _ ?_); clear h1 h2 K1 K2
  refine W_block ?_
  simp only [go_sem]
  refine W_loopK (fun k E σ' => ∃ s, (k : Int) = hi + 1 - s ∧ lo ≤ s ∧ s ≤ hi + 1 ∧ E = [(0, .yield y), (1, .ptr id 0), (3, .int .i64 s)] ∧ σ' = τ s) (hi + 1 - lo).toNat ⟨lo, by omega, by omega, by omega, rfl, rfl⟩ ?_
  rintro k E σ' ⟨s, hk, hs1, hs2, rfl, rfl⟩
  have hs := hst s hs1 hs2
  refine W_seq fun K1 h1 => ?_
  refine W_seq fun K3 h3 => ?_
  refine W_region [0, 1, 3, 16] fun K2 h2 => ?_
  simp only [go_sem, ldS_at hs]
  refine GWant_split (fun c => ?_) (fun c => ?_)
  · simp only [go_sem, c]
    refine GYield_of (hY s hs1 (by simpa using c)) ?_
    simp only [go_sem, c]
    refine h2 _ _ (h3 _ _ ?_); clear h2 h3 K2 K3
    simp only [go_sem]
    refine W_cond_true rfl (W_skip ?_)
    refine h1 _ _ ?_; clear h1 K1
    refine W_seq fun K1 h1 => ?_
    refine W_block (W_skip (h1 _ _ ?_)); clear h1 K1
    refine W_region [0, 1, 3] fun K2 h2 => ?_
    have hsh : s ≤ hi := by simpa using c
    simp only [go_sem]
    refine h2 _ _ ?_
    simp only [go_sem]
    rw [wrap_i64_id (by omega) (by omega)]
    exact ⟨k - 1, by omega, s + 1, by omega, by omega, by omega, rfl, rfl⟩
  · simp only [go_sem, c]
    refine h2 _ _ (h3 _ _ ?_); clear h2 h3 K2 K3
    simp only [go_sem]
    refine W_cond_false rfl (W_exit ?_)
    simp only [go_sem]
    have : s = hi + 1 := by simp at c; omega
    subst this
    refine ⟨.inl (by trivial), Fin_end (hcl' hcl) hlen hr hy rfl (Wk.of_clean (.tuple _ Clean.all_nil))⟩
end Go.Proofs.Ytnpamcpoaklgeaa
namespace Go.Proofs.Ytnpamcpoaklgeaa
open Go Go.RowKit
set_option maxRecDepth 100000
/-- One start of the second band more. -/
def crStep (X : Int → Int → Bool) (i j : Int) (p : Bool × Bool) : Bool × Bool := (p.1 || X i j, p.2 && X i j)
def crRow (X : Int → Int → Bool) (blo bhi i : Int) (p : Bool × Bool) : Bool × Bool := upTo (crStep X i) blo (bhi + 1) p
def crAll (X : Int → Int → Bool) (alo ahi blo bhi : Int) : Bool × Bool := upTo (crRow X blo bhi) alo (ahi + 1) (false, true)
def crossOf (X : Int → Int → Bool) (alo ahi blo bhi : Int) : Int := if (crAll X alo ahi blo bhi).2 then 1 else if (crAll X alo ahi blo bhi).1 then 3 else 2
section
variable (X : Int → Int → Bool) (c0 c1 c2 c3 c4 c5 a0 a1 a4 a5 b0 b1 b4 b5 : PV) (alo ahi blo bhi : Int)
theorem cross_pc (hal : -2 ^ 63 ≤ alo) (hah : ahi < 2 ^ 63 - 1) (ham : alo ≤ ahi + 1) (hbl : -2 ^ 63 ≤ blo) (hbh : bhi < 2 ^ 63 - 1) (hbm : blo ≤ bhi + 1)
    (hX : ∀ (Y : YEnv) (σ : Sg) (i j : Int), alo ≤ i → i ≤ ahi → blo ≤ j → j ≤ bhi → PC Try.prog Y 104 [.agg [c0, c1, c2, c3, c4, c5], .agg [a0, a1, I alo, I ahi, a4, a5], .agg [b0, b1, I blo, I bhi, b4, b5], I i, I j] σ (.bool (X i j)) σ)
    (Y : YEnv) (σ : Sg) : PC Try.prog Y 67 [.agg [c0, c1, c2, c3, c4, c5], .agg [a0, a1, I alo, I ahi, a4, a5], .agg [b0, b1, I blo, I bhi, b4, b5]] σ (I (crossOf X alo ahi blo bhi)) σ := by
  refine PC_of_W Try.func67 rfl (by kernel_rfl) Try.ntmps67 (by simp) fun hcl hca => ?_
  have hcc := hca _ (List.mem_cons_self ..)
  have hac := hca _ (List.mem_cons_of_mem _ (List.mem_cons_self ..))
  have hbc := hca _ (List.mem_cons_of_mem _ (List.mem_cons_of_mem _ (List.mem_cons_self ..)))
  clear hca
  refine W_seq fun K1 h1 => ?_
  refine W_region [3, 4, 5, 6] fun R hR => ?_
  simp only [go_sem]
  refine hR _ _ (h1 _ _ ?_); clear h1 hR K1 R
  refine W_seq fun K1 h1 => ?_
  refine W_region [3, 4, 5, 6, 7, 8] fun R hR => ?_
  simp only [go_sem]
  refine hR _ _ (h1 _ _ ?_); clear h1 hR K1 R
  refine W_seq fun K1 h1 => ?_
  refine W_seq fun K2 h2 => ?_
  refine W_region [3, 4, 5, 6, 7, 8, 13] fun R hR => ?_
  simp only [go_sem]
  refine GCall_of (starts_pc Y _ _ _ _ _ _ _) ?_
  simp only [go_sem, Sg.ext_ext]
  refine hR _ _ (h2 _ _ ?_); clear hR h2 K2 R
  refine W_block ?_
  simp only [go_sem]
  -- the outer loop
  let L : Bool × Bool → List (Option (List PV)) := fun p => [some [c0, c1, c2, c3, c4, c5], some [a0, a1, I alo, I ahi, a4, a5], some [b0, b1, I blo, I bhi, b4, b5], some [.bool p.1], some [.bool p.2], some [a0, a1, I alo, I ahi, a4, a5]]
  let so : Int → Sg := fun i => σ.ext (L (upTo (crRow X blo bhi) alo i (false, true))) [] [.ready]
  have hLc : ∀ p (n r y : Nat), σ.store.length ≤ n → σ.rooms.length ≤ r → σ.ys.length ≤ y → ∀ cs, some cs ∈ L p → ∀ q, q ∈ cs → Clean n r y q := fun p n r y h1 h2 h3 =>
    CleanL_cons (hcc.cells_of h1 h2 h3) (CleanL_cons (hac.cells_of h1 h2 h3) (CleanL_cons (hbc.cells_of h1 h2 h3) (CleanL_cons (Clean.all_cons (.bool _) Clean.all_nil) (CleanL_cons (Clean.all_cons (.bool _) Clean.all_nil) (CleanL_cons (hac.cells_of h1 h2 h3) CleanL_nil)))))
  refine W_rangeFunc (gf := 125) (v := .tuple []) (s := .ready) (σ5 := so (ahi + 1)) rfl (by simp) (fun args τ b τ' => ∃ i, alo ≤ i ∧ i ≤ ahi ∧ args = [I i] ∧ b = true ∧ τ = so i ∧ τ' = so (i + 1)) ?_ ?_ ?_ ?_ ?_
  · rintro args τ b τ' ⟨i, hi1, hi2, rfl, rfl, rfl, rfl⟩
    refine ⟨rfl, ?_, ?_⟩
    · simp only [so, go_sem]
    · simp only [so, L, go_sem]
      refine W_region [3, 4, 5, 6, 7, 8, 9] fun R hR => ?_
      simp only [go_sem, putAll]
      refine hR _ _ ?_; clear hR R
      simp only [go_sem]
      -- the inner loop
      obtain ⟨p, hp⟩ : ∃ p, p = upTo (crRow X blo bhi) alo i (false, true) := ⟨_, rfl⟩
      rw [upTo_step _ hi1, ← hp]
      have hLc' : ∀ p (n r y : Nat), σ.store.length ≤ n → σ.rooms.length ≤ r → σ.ys.length ≤ y → ∀ cs, some cs ∈ (L p ++ [some [I i], some [b0, b1, I blo, I bhi, b4, b5]]) → ∀ q, q ∈ cs → Clean n r y q := fun p n r y h1 h2 h3 =>
        CleanL_cons (hcc.cells_of h1 h2 h3) (CleanL_cons (hac.cells_of h1 h2 h3) (CleanL_cons (hbc.cells_of h1 h2 h3) (CleanL_cons (Clean.all_cons (.bool _) Clean.all_nil) (CleanL_cons (Clean.all_cons (.bool _) Clean.all_nil) (CleanL_cons (hac.cells_of h1 h2 h3)
          (CleanL_cons (Clean.all_cons (.int _ _) Clean.all_nil) (CleanL_cons (hbc.cells_of h1 h2 h3) CleanL_nil)))))))
      refine W_post_weak ?_
      refine W_block ?_
      refine W_seq fun K2 h2 => ?_
      refine W_region [3, 4, 5, 6, 7, 8, 9, 16] fun R hR => ?_
      simp only [go_sem]
      refine GCall_of (starts_pc Y _ _ _ _ _ _ _) ?_
      simp only [go_sem]
      refine hR _ _ (h2 _ _ ?_); clear hR h2 K2 R
      refine W_block ?_
      simp only [go_sem]
      let si : Int → Sg := fun j => σ.ext (L (upTo (crStep X i) blo j p) ++ [some [I i], some [b0, b1, I blo, I bhi, b4, b5]]) [] [.busy, .ready]
      refine W_rangeFunc (gf := 125) (v := .tuple []) (s := .ready) (σ5 := si (bhi + 1)) rfl (by simp) (fun args τ b τ' => ∃ j, blo ≤ j ∧ j ≤ bhi ∧ args = [I j] ∧ b = true ∧ τ = si j ∧ τ' = si (j + 1)) ?_ ?_ ?_ ?_ ?_
      · rintro args τ b τ' ⟨j, hj1, hj2, rfl, rfl, rfl, rfl⟩
        refine ⟨rfl, ?_, ?_⟩
        · simp only [si, go_sem]
        · simp only [si, L, go_sem]
          refine W_region [3, 4, 5, 6, 7, 8, 9, 10] fun R hR => ?_
          simp only [go_sem, putAll]
          refine hR _ _ ?_; clear hR R
          simp only [go_sem]
          obtain ⟨q, hq⟩ : ∃ q, q = upTo (crStep X i) blo j p := ⟨_, rfl⟩
          rw [upTo_step _ hj1, ← hq]
          refine W_block ?_
          refine W_seq fun K2 h2 => ?_
          refine W_region [7, 8, 11] fun R hR => ?_
          simp only [go_sem]
          refine GCall_of (hX Y _ i j hi1 hi2 hj1 hj2) ?_
          simp only [go_sem]
          refine hR _ _ (h2 _ _ ?_); clear hR h2 K2 R
          refine W_region [] fun R hR => ?_
          simp only [go_sem]
          have fin : ∀ E, R E (σ.ext (L (crStep X i j q) ++ [some [I i], some [b0, b1, I blo, I bhi, b4, b5]]) [] [.busy, .busy]) := by
            intro E
            refine hR E _ ?_
            simp only [L, go_sem]
            refine ⟨?_, rfl, ?_⟩ <;> simp only [go_sem]
          clear hR hq
          obtain ⟨q1, q2⟩ := q
          simp only [crStep, L] at fin
          generalize X i j = x at fin ⊢
          cases q1 <;> cases q2 <;> cases x <;> simp only [go_sem] at fin ⊢ <;> exact fin _
      · have hst := starts1_pc (Y.at (σ.ys.length + 1) (fun args τ b τ' => ∃ j, blo ≤ j ∧ j ≤ bhi ∧ args = [I j] ∧ b = true ∧ τ = si j ∧ τ' = si (j + 1))) (σ.ys.length + 1) (σ.store.length + 7) b0 b1 b4 b5 blo bhi si hbl hbh hbm
          (fun s _ _ => by simp only [si, L]; exact Sg.get_ext ..) (fun s h1 h2 => by rw [YEnv.at_self]; exact ⟨s, h1, h2, rfl, rfl, rfl, rfl⟩) (by simp only [si, L, go_sem]) (by simp only [si, L, go_sem]) (by simp only [si, L, go_sem])
          (fun _ => CleanSg_ext hcl (hLc' _ _ _ _ (Nat.le_add_right _ _) (Nat.le_add_right _ _) (Nat.le_add_right _ _)))
        have e0 : si blo = σ.ext (L p ++ [some [I i], some [b0, b1, I blo, I bhi, b4, b5]]) [] [.busy, .ready] := by simp only [si]; rw [upTo_start]
        rw [e0] at hst
        simp only [L, go_sem] at hst ⊢
        exact hst
      · simp only [si, L, go_sem]
      · simp only [go_sem]
        exact CleanCut_ext hcl (by simp only [si, L, go_sem]; omega) (by simp only [si, L, go_sem, Nat.le_add_right]) (by omega) (hLc' _ _ _ _ (by simp only [si, L, go_sem]; omega) (by simp only [si, L, go_sem, Nat.le_add_right]) (by omega))
      · simp only [AfterLoop, si, L, go_sem]
        refine ⟨[], _, Weak.cutExt 6 0 (Nat.le_refl _) (Nat.le_refl _) hcl ?_ Wk.nil_get, ?_⟩
        · exact hLc _ _ _ _ (by omega) (by omega) (by omega)
        · simp only [RoundEnd, go_sem]
          simp only [so, L, crRow]
  · have hst := starts1_pc (Y.at σ.ys.length (fun args τ b τ' => ∃ i, alo ≤ i ∧ i ≤ ahi ∧ args = [I i] ∧ b = true ∧ τ = so i ∧ τ' = so (i + 1))) σ.ys.length (σ.store.length + 5) a0 a1 a4 a5 alo ahi so hal hah ham
      (fun s _ _ => by simp only [so, L]; exact Sg.get_ext ..) (fun s h1 h2 => by rw [YEnv.at_self]; exact ⟨s, h1, h2, rfl, rfl, rfl, rfl⟩) (by simp only [so, L, go_sem]) (by simp only [so, L, go_sem]) (by simp only [so, L, go_sem])
      (fun _ => CleanSg_ext hcl (hLc _ _ _ _ (Nat.le_add_right _ _) (Nat.le_add_right _ _) (Nat.le_add_right _ _)))
    have e0 : so alo = σ.ext (L (false, true)) [] [.ready] := by simp only [so]; rw [upTo_start]
    rw [e0] at hst
    simp only [L, go_sem] at hst ⊢
    exact hst
  · simp only [so, L, go_sem]
  · simp only [go_sem]
    exact CleanCut_ext hcl (by simp only [so, L, go_sem]; omega) (by simp only [so, L, go_sem, Nat.le_add_right]) (by omega) (hLc _ _ _ _ (by simp only [so, L, go_sem]; omega) (by simp only [so, L, go_sem, Nat.le_add_right]) (by omega))
  · simp only [AfterLoop, so, L, go_sem]
    refine h1 _ _ ?_; clear h1 K1
    refine W_seq fun K1 h1 => ?_
    refine W_block ?_
    refine W_seq fun K2 h2 => ?_
    refine W_region [7, 32] fun R hR => ?_
    simp only [go_sem]
    refine hR _ _ (h2 _ _ ?_); clear hR h2 K2 R
    have hres : crossOf X alo ahi blo bhi = if (crAll X alo ahi blo bhi).2 then 1 else if (crAll X alo ahi blo bhi).1 then 3 else 2 := rfl
    unfold crAll at hres
    generalize upTo (crRow X blo bhi) alo (ahi + 1) (false, true) = p at hres ⊢
    obtain ⟨p1, p2⟩ := p
    simp only [go_sem] at hres ⊢
    refine W_cond rfl (fun c => ?_) (fun c => ?_)
    · subst c
      refine W_seq fun K2 h2 => ?_
      refine W_region [6] fun R hR => ?_
      simp only [go_sem]
      refine hR _ _ (h2 _ _ ?_); clear hR h2 K2 R
      refine W_ret ?_
      simp only [go_sem]
      refine ⟨.inr (by trivial), Fin_same hcl rfl ?_⟩
      rw [hres]
      exact Wk.of_clean (.int _ _)
    · subst c
      refine W_seq fun K2 h2 => ?_
      refine W_region [34] fun R hR => ?_
      simp only [go_sem]
      refine hR _ _ (h2 _ _ ?_); clear hR h2 K2 R
      refine W_cond rfl (fun c => ?_) (fun c => ?_)
      · subst c
        refine W_seq fun K2 h2 => ?_
        refine W_region [6] fun R hR => ?_
        simp only [go_sem]
        refine hR _ _ (h2 _ _ ?_); clear hR h2 K2 R
        refine W_ret ?_
        simp only [go_sem]
        refine ⟨.inr (by trivial), Fin_same hcl rfl ?_⟩
        rw [hres]
        exact Wk.of_clean (.int _ _)
      · subst c
        refine W_skip ?_
        simp only [go_sem]
        refine h1 _ _ ?_; clear h1 K1
        refine W_seq fun K2 h2 => ?_
        refine W_region [6] fun R hR => ?_
        simp only [go_sem]
        refine hR _ _ (h2 _ _ ?_); clear hR h2 K2 R
        refine W_ret ?_
        simp only [go_sem]
        refine ⟨.inr (by trivial), Fin_same hcl rfl ?_⟩
        rw [hres]
        exact Wk.of_clean (.int _ _)
end
end Go.Proofs.Ytnpamcpoaklgeaa
namespace Go.Proofs.Ytnpamcpoaklgeaa
open Go Go.RowKit
set_option maxRecDepth 100000
structure Vis where
  lo : Int
  hi : Int
  sq : Int
def vsPV (v : Vis) : PV := .agg [I v.lo, I v.hi, I v.sq]
theorem okC_vs {xs : List Vis} : okC 3 (xs.map vsPV) = True := okC_map fun x => by simp [okC, vsPV, PV.cells, PV.scalar]
theorem roL_vs {xs : List Vis} : PV.roL (xs.map vsPV) = xs.map vsPV := roL_enc fun x => by simp only [vsPV, ro_agg, roL_cons, roL_nil, ro_int]
theorem cA_vs {a b c : Nat} {xs : List Vis} : CleanAll a b c (xs.map vsPV) = True := CleanAll_map fun x => by simp only [vsPV, go_sem]
attribute [go_sem] vsPV okC_vs roL_vs cA_vs
def visFrom (start stay : Int) : Nat → List Int → List Vis
  | _, [] => []
  | k, s :: r => ⟨start + (k : Int) * stay, start + (k : Int) * stay + stay - 1, s⟩ :: visFrom start stay (k + 1) r
def visOf (c : City) (b : Band) (start : Int) : List Vis := visFrom start b.stay 0 (sqs c b).1
theorem walkSq_len (st : List (Int × Int)) : ∀ (l : List Int) (a : Int) (out : List Int), (walkSq st l a out).1.length ≤ out.length + l.length := by
  intro l
  induction l with
  | nil => intro a out; simp [walkSq]
  | cons n r ih =>
    intro a out
    simp only [walkSq]
    split
    · simp
    · split
      · simp
      · rename_i s _
        split
        · have := ih s.2 (out ++ [s.2]); simp at this ⊢; omega
        · split
          · have := ih s.1 (out ++ [s.1]); simp at this ⊢; omega
          · simp
theorem sqs_len (c : City) (b : Band) : (sqs c b).1.length ≤ 13 ∧ (sqs c b).1.length ≤ b.path.length + 1 := by
  unfold sqs
  split
  · simp
  · split
    · simp
    · have := walkSq_len c.town.streets b.path b.first [b.first]
      simp at this
      constructor <;> omega
theorem visFrom_len (start stay : Int) : ∀ (l : List Int) (k : Nat), (visFrom start stay k l).length = l.length := by
  intro l
  induction l with
  | nil => intro k; rfl
  | cons s r ih => intro k; simp [visFrom, ih]
def Vis.Ok (v : Vis) : Prop := -2 ^ 41 ≤ v.lo ∧ v.lo ≤ 2 ^ 41 ∧ -2 ^ 41 ≤ v.hi ∧ v.hi ≤ 2 ^ 41
theorem visFrom_ok {start stay : Int} (h1 : -2 ^ 40 ≤ start) (h2 : start ≤ 2 ^ 40) (h3 : 0 ≤ stay) (h4 : stay ≤ 1000) : ∀ (l : List Int) (k : Nat), k + l.length ≤ 1000 → ∀ v, v ∈ visFrom start stay k l → v.Ok := by
  intro l
  induction l with
  | nil => intro k _ v hv; simp [visFrom] at hv
  | cons s r ih =>
    intro k hk v hv
    simp only [visFrom, List.mem_cons] at hv
    simp at hk
    rcases hv with rfl | hv
    · have := mul_bd (a := (k : Int)) (b := stay) (A := 1000) (B := 1000) (by omega) (by omega) h3 h4
      refine ⟨?_, ?_, ?_, ?_⟩ <;> simp only [] <;> omega
    · exact ih (k + 1) (by omega) v hv
set_option maxHeartbeats 2000000 in
theorem visits_pc (Y : YEnv) (σ : Sg) (ct : City) (b : Band) (start : Int) (hc : ct.Ok) (hb : b.path.length < 2 ^ 50) (h1 : -2 ^ 40 ≤ start) (h2 : start ≤ 2 ^ 40) (h3 : 0 ≤ b.stay) (h4 : b.stay ≤ 1000) :
    PC Try.prog Y 90 [ctPV ct, bdPV b, I start] σ (.isl ((visOf ct b start).map vsPV) .ro) (σ) := by
  refine PC_of_W Try.func90 rfl (by kernel_rfl) Try.ntmps90 (by simp) fun hcl hca => ?_
  have hl := sqs_len ct b
  refine W_seq fun kz1 kq1 => ?_
  refine W_region [2, 3, 4] fun R hR => ?_   -- r0
  simp only [go_sem]
  refine hR _ _ (kq1 _ _ ?_); clear hR R; try clear kq1 kz1
  try simp only [go_sem]
  refine W_seq fun kz2 kq2 => ?_
  refine W_region [2, 4, 7] fun R hR => ?_   -- r1
  simp only [go_sem]
  refine GCall_of (squares_pc Y _ ct b hc hb) ?_   -- t16
  simp only [go_sem]
  refine hR _ _ (kq2 _ _ ?_); clear hR R; try clear kq2 kz2
  try simp only [go_sem]
  refine W_seq fun kz3 kq3 => ?_
  refine W_region [2, 4, 7, 9] fun R hR => ?_   -- r2
  simp only [go_sem]
  refine hR _ _ (kq3 _ _ ?_); clear hR R; try clear kq3 kz3
  try simp only [go_sem]
  refine W_seq fun kz4 kq4 => ?_
  refine W_seq fun kz5 kq5 => ?_
  refine W_region [2, 4, 9, 19, 20, 21] fun R hR => ?_   -- r3
  simp only [go_sem]
  refine hR _ _ (kq5 _ _ ?_); clear hR R; try clear kq5 kz5
  try simp only [go_sem]
  refine W_block ?_
  refine W_weak (Weak.room (t := 9) (es := 3) rfl (by simp)) ?_
  refine W_weak (Weak.keep [2, 4, 9, 19, 20, 21]) ?_
  simp only [go_sem]
  refine W_loopT (α := Nat × (List Vis)) (fun ⟨i, out⟩ => [(9, .isl (out.map vsPV) (.tok σ.rooms.length out.length 3)), (21, I i)]) (fun ⟨i, out⟩ => σ.ext [some (ctCells ct), some (bdCells b)] [out.length]) (fun ⟨i, out⟩ => i ≤ (sqs ct b).1.length ∧ out.length = i ∧ visOf ct b start = out ++ visFrom start b.stay i ((sqs ct b).1.drop i)) (fun ⟨i, out⟩ => (sqs ct b).1.length - i) ((0, [])) rfl (by first | rfl | (simp only [go_sem]; done) | (simp only [go_sem]; rfl)) (⟨Nat.zero_le _, rfl, rfl⟩) ?_
  rintro ⟨i, out⟩ ⟨hi, ho, hinv⟩
  have hm := mul_bd (a := (i : Int)) (b := b.stay) (A := 13) (B := 1000) (by omega) (by omega) h3 h4
  refine W_seq fun kz6 kq6 => ?_
  refine W_region [2, 4, 9, 19, 20, 21, 22] fun R hR => ?_   -- r4
  simp only [go_sem]
  refine hR _ _ (kq6 _ _ ?_); clear hR R; try clear kq6 kz6
  try simp only [go_sem]
  refine W_seq fun kz7 kq7 => ?_
  refine W_cond rfl (fun c1 => ?_) (fun c1 => ?_)
  · -- c1 true
    try simp only [nrm] at c1
    have hi' : i < (sqs ct b).1.length := by first | assumption | omega
    obtain ⟨s, hx⟩ : ∃ s, (sqs ct b).1[i]? = some s := ⟨(sqs ct b).1[i], by simp [hi']⟩
    have hdrop : (sqs ct b).1.drop i = s :: (sqs ct b).1.drop (i + 1) := by
      rw [List.drop_eq_getElem_cons hi']; congr 1; exact (List.getElem?_eq_some_iff.1 hx).2
    rw [hdrop] at hinv
    simp only [visFrom] at hinv
    refine W_skip (kq7 _ _ ?_)
    refine W_seq fun kz8 kq8 => ?_
    refine W_block ?_
    refine W_seq fun kz9 kq9 => ?_
    refine W_region [2, 4, 9, 10, 11, 19, 20, 21] fun R hR => ?_   -- r5
    simp only [go_sem, hx]
    refine hR _ _ (kq9 _ _ ?_); clear hR R; try clear kq9 kz9
    try simp only [go_sem, hx]
    refine W_seq fun kz10 kq10 => ?_
    refine W_region [2, 4, 9, 11, 12, 19, 20, 21] fun R hR => ?_   -- r6
    simp only [go_sem, hx]
    try simp (disch := omega) only [wrapI]
    refine hR _ _ (kq10 _ _ ?_); clear hR R; try clear kq10 kz10
    try simp only [go_sem, hx]
    refine W_region [2, 4, 9, 19, 20, 21] fun R hR => ?_   -- r7
    simp only [go_sem, hx]
    simp (disch := first | omega | (simp only [go_sem] <;> omega)) only [wrapI, appX_exact, appX_tok]
    try simp only [go_sem, hx]
    refine hR _ _ (kq8 _ _ ?_); clear hR R; try clear kq8 kz8
    try simp only [go_sem, hx]
    refine W_region [2, 4, 9, 19, 20, 21] fun R hR => ?_   -- r8
    simp only [go_sem, hx]
    try simp (disch := omega) only [wrapI]
    refine hR _ _ ?_; clear hR R
    try simp only [go_sem, hx]
    refine ⟨(i + 1, out ++ [⟨start + (i : Int) * b.stay, start + (i : Int) * b.stay + b.stay - 1, s⟩]), ?_, by (try simp only []); omega, ?_⟩
    · first | exact Weak.refl | exact Weak.eq (by first | rfl | (simp only [go_sem]; done) | (simp only [go_sem]; rfl) | (simp [go_sem]; done) | (simp [go_sem]; omega)) (by first | rfl | (simp only [go_sem]; done) | (simp [go_sem]; done))
    · try dsimp only
      exact ⟨hi', by simp [ho], by rw [hinv]; simp⟩
  · -- c1 false
    try simp only [nrm] at c1
    have hdrop : (sqs ct b).1.drop i = [] := List.drop_eq_nil_of_le (by omega)
    rw [hdrop] at hinv
    simp only [visFrom, List.append_nil] at hinv
    refine W_exit ?_
    simp only [go_sem]
    refine kq4 _ _ ?_
    refine W_seq fun kz11 kq11 => ?_
    refine W_region [6] fun R hR => ?_   -- r9
    simp only [go_sem]
    refine hR _ _ (kq11 _ _ ?_); clear hR R; try clear kq11 kz11
    try simp only [go_sem]
    refine W_ret ?_
    simp only [go_sem]
    refine ⟨.inr (by trivial), ?_⟩
    refine Fin_same hcl rfl (Wk.ro (by simp only [go_sem]) ?_)
    try simp only [go_sem]
    all_goals
      rw [hinv]
def nearOf (brk : Int) (a b : Vis) : Bool :=
  if a.sq ≠ b.sq then false else if b.lo < a.lo then (decide (a.lo ≤ b.hi) || decide (a.lo - (b.hi + 1) < brk)) else (decide (b.lo ≤ a.hi) || decide (b.lo - (a.hi + 1) < brk))
set_option maxHeartbeats 2000000 in
theorem near_pc (Y : YEnv) (σ : Sg) (ct : City) (a b : Vis) (ha : a.Ok) (hb : b.Ok) :
    PC Try.prog Y 132 [ctPV ct, vsPV a, vsPV b] σ (.bool (nearOf ct.brk a b)) (σ) := by
  refine PC_of_W Try.func132 rfl (by kernel_rfl) Try.ntmps132 (by simp) fun hcl hca => ?_
  obtain ⟨ha1, ha2, ha3, ha4⟩ := ha
  obtain ⟨hb1, hb2, hb3, hb4⟩ := hb
  refine W_seq fun kz1 kq1 => ?_
  refine W_region [3, 4, 5] fun R hR => ?_   -- r0
  simp only [go_sem]
  refine hR _ _ (kq1 _ _ ?_); clear hR R; try clear kq1 kz1
  try simp only [go_sem]
  refine W_seq fun kz2 kq2 => ?_
  refine W_seq fun kz3 kq3 => ?_
  refine W_region [3, 4, 5, 11] fun R hR => ?_   -- r1
  simp only [go_sem]
  refine hR _ _ (kq3 _ _ ?_); clear hR R; try clear kq3 kz3
  try simp only [go_sem]
  refine W_cond rfl (fun c1 => ?_) (fun c1 => ?_)
  · -- c1 true
    try simp only [nrm] at c1
    refine W_seq fun kz4 kq4 => ?_
    refine W_region [6] fun R hR => ?_   -- r2
    simp only [go_sem]
    refine hR _ _ (kq4 _ _ ?_); clear hR R; try clear kq4 kz4
    try simp only [go_sem]
    refine W_ret ?_
    simp only [go_sem]
    refine ⟨.inr (by trivial), ?_⟩
    first | refine Fin_same hcl rfl (Wk_eq ?_ (by simp only [go_sem])) | refine Fin_self hcl rfl (Wk_eq ?_ (by simp only [go_sem]))
    try simp only [go_sem]
    all_goals
      simp only [nearOf, ite_not]; (repeat' split) <;> first | rfl | omega | (simp; omega) | (simp_all; done) | (simp_all; omega)
  · -- c1 false
    try simp only [nrm] at c1
    refine W_skip (kq2 _ _ ?_)
    refine W_seq fun kz5 kq5 => ?_
    refine W_seq fun kz6 kq6 => ?_
    refine W_region [3, 4, 5, 18] fun R hR => ?_   -- r3
    simp only [go_sem]
    refine hR _ _ (kq6 _ _ ?_); clear hR R; try clear kq6 kz6
    try simp only [go_sem]
    refine W_cond rfl (fun c2 => ?_) (fun c2 => ?_)
    · -- c2 true
      try simp only [nrm] at c2
      refine W_region [3, 4, 5] fun R hR => ?_   -- r4
      simp only [go_sem]
      refine hR _ _ (kq5 _ _ ?_); clear hR R; try clear kq5 kz5
      try simp only [go_sem]
      refine W_seq fun kz7 kq7 => ?_
      refine W_region [6] fun R hR => ?_   -- r5
      simp only [go_sem]
      refine GWant_split (fun g1 => ?_) (fun g1 => ?_)
      · try simp only [Bool.not_eq_true', Bool.not_eq_false'] at g1
        have n1 := g1; try simp only [nrm] at n1
        simp only [go_sem, g1]
        try simp (disch := omega) only [wrapI]
        refine hR _ _ (kq7 _ _ ?_); clear hR R; try clear kq7 kz7
        try simp only [go_sem]
        refine W_ret ?_
        simp only [go_sem]
        refine ⟨.inr (by trivial), ?_⟩
        first | refine Fin_same hcl rfl (Wk_eq ?_ (by simp only [go_sem])) | refine Fin_self hcl rfl (Wk_eq ?_ (by simp only [go_sem]))
        try simp only [go_sem]
        all_goals
          simp only [nearOf, ite_not]; (repeat' split) <;> first | rfl | omega | (simp; omega) | (simp_all; done) | (simp_all; omega)
      · try simp only [Bool.not_eq_true', Bool.not_eq_false'] at g1
        have n1 := g1; try simp only [nrm] at n1
        simp only [go_sem, g1]
        try simp (disch := omega) only [wrapI]
        refine hR _ _ (kq7 _ _ ?_); clear hR R; try clear kq7 kz7
        try simp only [go_sem]
        refine W_ret ?_
        simp only [go_sem]
        refine ⟨.inr (by trivial), ?_⟩
        first | refine Fin_same hcl rfl (Wk_eq ?_ (by simp only [go_sem])) | refine Fin_self hcl rfl (Wk_eq ?_ (by simp only [go_sem]))
        try simp only [go_sem]
        all_goals
          simp only [nearOf, ite_not]; (repeat' split) <;> first | rfl | omega | (simp; omega) | (simp_all; done) | (simp_all; omega)
    · -- c2 false
      try simp only [nrm] at c2
      refine W_skip (kq5 _ _ ?_)
      refine W_seq fun kz8 kq8 => ?_
      refine W_region [6] fun R hR => ?_   -- r5
      simp only [go_sem]
      refine GWant_split (fun g2 => ?_) (fun g2 => ?_)
      · try simp only [Bool.not_eq_true', Bool.not_eq_false'] at g2
        have n2 := g2; try simp only [nrm] at n2
        simp only [go_sem, g2]
        try simp (disch := omega) only [wrapI]
        refine hR _ _ (kq8 _ _ ?_); clear hR R; try clear kq8 kz8
        try simp only [go_sem]
        refine W_ret ?_
        simp only [go_sem]
        refine ⟨.inr (by trivial), ?_⟩
        first | refine Fin_same hcl rfl (Wk_eq ?_ (by simp only [go_sem])) | refine Fin_self hcl rfl (Wk_eq ?_ (by simp only [go_sem]))
        try simp only [go_sem]
        all_goals
          simp only [nearOf, ite_not]; (repeat' split) <;> first | rfl | omega | (simp; omega) | (simp_all; done) | (simp_all; omega)
      · try simp only [Bool.not_eq_true', Bool.not_eq_false'] at g2
        have n2 := g2; try simp only [nrm] at n2
        simp only [go_sem, g2]
        try simp (disch := omega) only [wrapI]
        refine hR _ _ (kq8 _ _ ?_); clear hR R; try clear kq8 kz8
        try simp only [go_sem]
        refine W_ret ?_
        simp only [go_sem]
        refine ⟨.inr (by trivial), ?_⟩
        first | refine Fin_same hcl rfl (Wk_eq ?_ (by simp only [go_sem])) | refine Fin_self hcl rfl (Wk_eq ?_ (by simp only [go_sem]))
        try simp only [go_sem]
        all_goals
          simp only [nearOf, ite_not]; (repeat' split) <;> first | rfl | omega | (simp; omega) | (simp_all; done) | (simp_all; omega)
/-- The second band's visits, against one of the first band. -/
def crIn (brk : Int) (pa pb : List Int) (i : Nat) (v : Vis) : Nat → List Vis → Bool
  | _, [] => false
  | k, w :: r => if nearOf brk v w = true then true else if 0 < i ∧ 0 < k ∧ v.lo = w.lo ∧ pa[i - 1]? = pb[k - 1]? then true else crIn brk pa pb i v (k + 1) r
def crOut (brk : Int) (pa pb : List Int) (two : List Vis) : Nat → List Vis → Bool
  | _, [] => false
  | i, v :: r => if crIn brk pa pb i v 0 two = true then true else crOut brk pa pb two (i + 1) r
def crossing (c : City) (a b : Band) (m n : Int) : Bool := crOut c.brk a.path b.path (visOf c b n) 0 (visOf c a m)
set_option maxHeartbeats 2000000 in
theorem crosses_pc (Y : YEnv) (σ : Sg) (ct : City) (a b : Band) (m n : Int) (hc : ct.Ok) (ha : a.path.length < 2 ^ 50) (hb : b.path.length < 2 ^ 50) (h1 : -2 ^ 40 ≤ m) (h2 : m ≤ 2 ^ 40) (h3 : 0 ≤ a.stay) (h4 : a.stay ≤ 1000)
    (h5 : -2 ^ 40 ≤ n) (h6 : n ≤ 2 ^ 40) (h7 : 0 ≤ b.stay) (h8 : b.stay ≤ 1000) :
    PC Try.prog Y 104 [ctPV ct, bdPV a, bdPV b, I m, I n] σ (.bool (crossing ct a b m n)) (σ) := by
  refine PC_of_W Try.func104 rfl (by kernel_rfl) Try.ntmps104 (by simp) fun hcl hca => ?_
  have la := sqs_len ct a
  have lb := sqs_len ct b
  obtain ⟨one, hone⟩ : ∃ l, l = visOf ct a m := ⟨_, rfl⟩
  obtain ⟨two, htwo⟩ : ∃ l, l = visOf ct b n := ⟨_, rfl⟩
  have lo : one.length = (sqs ct a).1.length := by rw [hone]; exact visFrom_len ..
  have lt : two.length = (sqs ct b).1.length := by rw [htwo]; exact visFrom_len ..
  have oo : ∀ v, v ∈ one → v.Ok := by rw [hone]; exact visFrom_ok h1 h2 h3 h4 _ _ (by omega)
  have ot : ∀ v, v ∈ two → v.Ok := by rw [htwo]; exact visFrom_ok h5 h6 h7 h8 _ _ (by omega)
  rw [show crossing ct a b m n = crOut ct.brk a.path b.path two 0 one by rw [hone, htwo]; rfl]
  obtain ⟨res, hres⟩ : ∃ r, crOut ct.brk a.path b.path two 0 one = r := ⟨_, rfl⟩
  rw [hres]
  refine W_seq fun kz1 kq1 => ?_
  refine W_region [3, 4, 5, 6, 7] fun R hR => ?_   -- r0
  simp only [go_sem]
  refine hR _ _ (kq1 _ _ ?_); clear hR R; try clear kq1 kz1
  try simp only [go_sem]
  refine W_seq fun kz2 kq2 => ?_
  refine W_draw [5, 6, 7, 11, 12] [0, 1, 2, 3, 4, 5, 6, 7, 8, 9] [(4, 3), (5, 3), (6, 3)] [[], [], [], [0, 1, 2], [], [], [], [0, 1, 2, 3, 4, 5, 6], [0, 1, 2, 3, 4, 5, 6, 7], [0, 1, 2, 3, 4, 5, 6, 7, 8]] mixed (by kernel_rfl) fun R hR => ?_   -- r1
  simp only [go_sem]
  refine GCall_of (PC.val (v' := .isl (one.map vsPV) .ro) (visits_pc Y _ ct a m hc ha h1 h2 h3 h4) (by rw [hone])) ?_   -- t20
  simp only [go_sem]
  refine GCall_of (PC.val (v' := .isl (two.map vsPV) .ro) (visits_pc Y _ ct b n hc hb h5 h6 h7 h8) (by rw [htwo])) ?_   -- t24
  simp only [go_sem]
  refine hR _ _ (kq2 _ _ ?_); clear hR R; try clear kq2 kz2
  try simp only [go_sem]
  refine W_seq fun kz3 kq3 => ?_
  refine W_seq fun kz4 kq4 => ?_
  refine W_region [5, 6, 7, 12, 25, 26, 27] fun R hR => ?_   -- r2
  simp only [go_sem]
  refine hR _ _ (kq4 _ _ ?_); clear hR R; try clear kq4 kz4
  try simp only [go_sem]
  refine W_block ?_
  refine W_loopS (α := Nat) (fun (i : Nat) => [(27, I i)]) (fun (i : Nat) => i ≤ one.length ∧ res = crOut ct.brk a.path b.path two i (one.drop i)) (fun (i : Nat) => one.length - i) (0) rfl (⟨Nat.zero_le _, hres.symm⟩) ?_
  rintro i ⟨hi, hinv⟩
  refine W_seq fun kz5 kq5 => ?_
  refine W_region [5, 6, 7, 12, 25, 26, 27, 28] fun R hR => ?_   -- r3
  simp only [go_sem]
  refine hR _ _ (kq5 _ _ ?_); clear hR R; try clear kq5 kz5
  try simp only [go_sem]
  refine W_seq fun kz6 kq6 => ?_
  refine W_cond rfl (fun c1 => ?_) (fun c1 => ?_)
  · -- c1 true
    try simp only [nrm] at c1
    have hi' : i < one.length := by first | assumption | omega
    obtain ⟨v, hx⟩ : ∃ v, one[i]? = some v := ⟨one[i], by simp [hi']⟩
    have hdrop : one.drop i = v :: one.drop (i + 1) := by
      rw [List.drop_eq_getElem_cons hi']; congr 1; exact (List.getElem?_eq_some_iff.1 hx).2
    rw [hdrop] at hinv
    simp only [crOut] at hinv
    refine W_skip (kq6 _ _ ?_)
    refine W_seq fun kz7 kq7 => ?_
    refine W_block ?_
    refine W_seq fun kz8 kq8 => ?_
    refine W_region [5, 6, 7, 12, 13, 14, 25, 26, 27] fun R hR => ?_   -- r4
    simp only [go_sem, hx]
    refine hR _ _ (kq8 _ _ ?_); clear hR R; try clear kq8 kz8
    try simp only [go_sem, hx]
    refine W_seq fun kz9 kq9 => ?_
    refine W_region [5, 6, 7, 12, 13, 14, 25, 26, 27, 32, 33, 34] fun R hR => ?_   -- r5
    simp only [go_sem, hx]
    refine hR _ _ (kq9 _ _ ?_); clear hR R; try clear kq9 kz9
    try simp only [go_sem, hx]
    refine W_block ?_
    refine W_loopS (α := Nat) (fun (k : Nat) => [(34, I k)]) (fun (k : Nat) => k ≤ two.length ∧ crIn ct.brk a.path b.path i v 0 two = crIn ct.brk a.path b.path i v k (two.drop k)) (fun (k : Nat) => two.length - k) (0) rfl (⟨Nat.zero_le _, rfl⟩) ?_
    rintro k ⟨hk, hin⟩
    refine W_seq fun kz10 kq10 => ?_
    refine W_region [5, 6, 7, 12, 13, 14, 25, 26, 27, 32, 33, 34, 35] fun R hR => ?_   -- r6
    simp only [go_sem, hx]
    refine hR _ _ (kq10 _ _ ?_); clear hR R; try clear kq10 kz10
    try simp only [go_sem, hx]
    refine W_seq fun kz11 kq11 => ?_
    refine W_cond rfl (fun c2 => ?_) (fun c2 => ?_)
    · -- c2 true
      try simp only [nrm] at c2
      have hk' : k < two.length := by first | assumption | omega
      obtain ⟨w, hy⟩ : ∃ w, two[k]? = some w := ⟨two[k], by simp [hk']⟩
      have hdrop2 : two.drop k = w :: two.drop (k + 1) := by
        rw [List.drop_eq_getElem_cons hk']; congr 1; exact (List.getElem?_eq_some_iff.1 hy).2
      rw [hdrop2] at hin
      simp only [crIn] at hin
      refine W_skip (kq11 _ _ ?_)
      refine W_seq fun kz12 kq12 => ?_
      refine W_block ?_
      refine W_seq fun kz13 kq13 => ?_
      refine W_region [5, 6, 7, 12, 13, 14, 15, 16, 25, 26, 27, 32, 33, 34] fun R hR => ?_   -- r7
      simp only [go_sem, hx, hy]
      refine hR _ _ (kq13 _ _ ?_); clear hR R; try clear kq13 kz13
      try simp only [go_sem, hx, hy]
      refine W_seq fun kz14 kq14 => ?_
      refine W_seq fun kz15 kq15 => ?_
      refine W_region [5, 6, 7, 12, 13, 14, 15, 16, 25, 26, 27, 32, 33, 34, 42] fun R hR => ?_   -- r8
      simp only [go_sem, hx, hy]
      refine GCall_of (near_pc Y _ ct v w (oo v (List.mem_of_getElem? hx)) (ot w (List.mem_of_getElem? hy))) ?_   -- t42
      simp only [go_sem, hx, hy]
      refine hR _ _ (kq15 _ _ ?_); clear hR R; try clear kq15 kz15
      try simp only [go_sem, hx, hy]
      refine W_cond rfl (fun c3 => ?_) (fun c3 => ?_)
      · -- c3 true
        try simp only [nrm] at c3
        refine W_seq fun kz16 kq16 => ?_
        refine W_region [10] fun R hR => ?_   -- r9
        simp only [go_sem, hx, hy]
        refine hR _ _ (kq16 _ _ ?_); clear hR R; try clear kq16 kz16
        try simp only [go_sem, hx, hy]
        refine W_ret ?_
        simp only [go_sem, hx, hy]
        refine ⟨.inr (by trivial), ?_⟩
        first | refine Fin_same hcl rfl (Wk_eq ?_ (by simp only [go_sem])) | refine Fin_self hcl rfl (Wk_eq ?_ (by simp only [go_sem]))
        try simp only [go_sem]
        all_goals
          first | rfl | (simp_all; done) | (simp_all; omega)
      · -- c3 false
        try simp only [nrm] at c3
        refine W_skip (kq14 _ _ ?_)
        refine W_seq fun kz17 kq17 => ?_
        have hp1 : 0 < i → ∃ x, a.path[i - 1]? = some x := fun h => ⟨a.path[i - 1]'(by omega), by simp⟩
        have hp2 : 0 < k → ∃ x, b.path[k - 1]? = some x := fun h => ⟨b.path[k - 1]'(by omega), by simp⟩
        refine W_draw [5, 6, 7, 12, 13, 14, 25, 26, 27, 32, 33, 34, 72] [0, 1, 2, 3, 4, 5, 6, 7, 8, 9, 10, 11, 12, 13, 14, 15, 16, 17, 18, 19, 20, 21, 22, 23, 24, 25, 26, 27, 28, 29] [] [[], [0], [0, 1], [0, 1, 2], [0, 1, 2, 3], [0, 1, 2, 3, 4], [0, 1, 2, 3, 4, 5], [0, 1, 2, 3, 4, 5, 6], [0, 1, 2, 3, 4, 5, 6, 7], [0, 1, 2, 3, 4, 5, 6, 7, 8], [0, 1, 2, 3, 4, 5, 6], [0, 1, 2, 3, 4, 5, 6, 10], [0, 1, 2, 3, 4, 5, 6, 10, 11], [0, 1, 2, 3, 4, 5, 6, 7, 8, 9, 10, 11, 12], [0, 1, 2, 3, 4, 5, 6, 7, 8, 9, 10, 11, 12, 13], [0, 1, 2, 3, 4, 5, 6, 7, 8, 9, 10, 11, 12, 13, 14], [0, 1, 2, 3, 4, 5, 6, 7, 8, 9, 10, 11, 12, 13, 14, 15], [0, 1, 2, 3, 4, 5, 6, 7, 8, 9, 10, 11, 12, 13, 14, 15, 16], [0, 1, 2, 3, 4, 5, 6, 7, 8, 9, 10, 11, 12, 13, 14, 15], [0, 1, 2, 3, 4, 5, 6, 7, 8, 9, 10, 11, 12, 13, 14, 15, 18], [0, 1, 2, 3, 4, 5, 6, 7, 8, 9, 10, 11, 12, 13, 14, 15, 16, 17, 18, 19], [0, 1, 2, 3, 4, 5, 6, 7, 8, 9, 10, 11, 12, 13, 14, 15, 16, 17, 18, 19, 20], [0, 1, 2, 3, 4, 5, 6, 7, 8, 9, 10, 11, 12, 13, 14, 15], [0, 1, 2, 3, 4, 5, 6, 7, 8, 9, 10, 11, 12, 13, 14, 15, 22], [0, 1, 2, 3, 4, 5, 6, 7, 8, 9, 10, 11, 12, 13, 14, 15], [0, 1, 2, 3, 4, 5, 6, 7, 8, 9, 10, 11, 12, 13, 14, 15, 24], [0, 1, 2, 3, 4, 5, 6, 7, 8, 9, 10, 11, 12, 13, 14, 15, 22, 23, 24, 25], [0, 1, 2, 3, 4, 5, 6, 7, 8, 9, 10, 11, 12, 13, 14, 15, 22, 23, 24, 25, 26], [0, 1, 2, 3, 4, 5, 6, 7, 8, 9, 10, 11, 12, 13, 14, 15, 16, 17, 18, 19, 20, 21, 22, 23, 24, 25, 26, 27], [0, 1, 2, 3, 4, 5, 6, 7, 8, 9, 10, 11, 12, 13, 14, 15, 16, 17, 18, 19, 20, 21, 22, 23, 24, 25, 26, 27, 28]] mixed (by kernel_rfl) fun R hR => ?_   -- r10
        simp only [go_sem, hx, hy]
        refine GWant_split (fun g1 => ?_) (fun g1 => ?_)
        · try simp only [Bool.not_eq_true', Bool.not_eq_false'] at g1
          have n1 := g1; try simp only [nrm] at n1
          simp only [go_sem, hx, hy, g1]
          refine GWant_split (fun g2 => ?_) (fun g2 => ?_)
          · try simp only [Bool.not_eq_true', Bool.not_eq_false'] at g2
            have n2 := g2; try simp only [nrm] at n2
            simp only [go_sem, hx, hy, g2]
            refine GWant_split (fun g3 => ?_) (fun g3 => ?_)
            · try simp only [Bool.not_eq_true', Bool.not_eq_false'] at g3
              have n3 := g3; try simp only [nrm] at n3
              obtain ⟨x1, hx1⟩ := hp1 (by omega)
              obtain ⟨y1, hy1⟩ := hp2 (by omega)
              have e1 : ((i : Int) - 1).toNat = i - 1 := by omega
              have e2 : ((k : Int) - 1).toNat = k - 1 := by omega
              have e3 : (0 : Int) ≤ (i : Int) - 1 := by omega
              have e4 : (0 : Int) ≤ (k : Int) - 1 := by omega
              have w1 : IntKind.i64.wrap ((i : Int) - 1) = (i : Int) - 1 := wrapI (by omega) (by omega)
              have w2 : IntKind.i64.wrap ((k : Int) - 1) = (k : Int) - 1 := wrapI (by omega) (by omega)
              simp only [go_sem, hx, hy, w1, w2, e1, e2, e3, e4, hx1, hy1, g3]
              try simp (disch := omega) only [wrapI]
              refine hR _ _ (kq17 _ _ ?_); clear hR R; try clear kq17 kz17
              try simp only [go_sem, hx, hy, w1, w2, e1, e2, e3, e4, hx1, hy1]
              refine W_cond rfl (fun c4 => ?_) (fun c4 => ?_)
              · -- c4 true
                try simp only [nrm] at c4
                refine W_seq fun kz18 kq18 => ?_
                refine W_region [10] fun R hR => ?_   -- r11
                simp only [go_sem, hx, hy, w1, w2, e1, e2, e3, e4, hx1, hy1]
                refine hR _ _ (kq18 _ _ ?_); clear hR R; try clear kq18 kz18
                try simp only [go_sem, hx, hy, w1, w2, e1, e2, e3, e4, hx1, hy1]
                refine W_ret ?_
                simp only [go_sem, hx, hy, w1, w2, e1, e2, e3, e4, hx1, hy1]
                refine ⟨.inr (by trivial), ?_⟩
                first | refine Fin_same hcl rfl (Wk_eq ?_ (by simp only [go_sem])) | refine Fin_self hcl rfl (Wk_eq ?_ (by simp only [go_sem]))
                try simp only [go_sem]
                all_goals
                  first | rfl | (simp_all; done) | (simp_all; omega)
              · -- c4 false
                try simp only [nrm] at c4
                refine W_skip (kq12 _ _ ?_)
                refine W_region [5, 6, 7, 12, 13, 14, 25, 26, 27, 32, 33, 34] fun R hR => ?_   -- r12
                simp only [go_sem, hx, hy, w1, w2, e1, e2, e3, e4, hx1, hy1]
                try simp (disch := omega) only [wrapI]
                refine hR _ _ ?_; clear hR R
                try simp only [go_sem, hx, hy, w1, w2, e1, e2, e3, e4, hx1, hy1]
                refine ⟨k + 1, ?_, by (try simp only []); omega, ?_⟩
                · refine Weak.trans (Weak.cutX 4 0 (by omega) (by omega) hcl (by simp only [go_sem]) (by simp only [go_sem] <;> omega)) ?_
                  simp only [go_sem]
                  exact Weak.eq (by first | rfl | (simp only [go_sem]; done) | (simp only [go_sem]; rfl) | (simp [go_sem]; done) | (simp [go_sem]; omega)) (by first | rfl | (simp only [go_sem]; done) | (simp [go_sem]; done))
                · try dsimp only
                  refine ⟨hk', ?_⟩
                  rw [hin, if_neg (by simp [c3]), if_neg (by first | omega | (rw [hx1, hy1]; intro h; simp at h; omega))]
            · try simp only [Bool.not_eq_true', Bool.not_eq_false'] at g3
              have n3 := g3; try simp only [nrm] at n3
              simp only [go_sem, hx, hy, g3]
              try simp (disch := omega) only [wrapI]
              refine hR _ _ (kq17 _ _ ?_); clear hR R; try clear kq17 kz17
              try simp only [go_sem, hx, hy]
              refine W_cond_false rfl ?_
              refine W_skip (kq12 _ _ ?_)
              refine W_region [5, 6, 7, 12, 13, 14, 25, 26, 27, 32, 33, 34] fun R hR => ?_   -- r12
              simp only [go_sem, hx, hy]
              try simp (disch := omega) only [wrapI]
              refine hR _ _ ?_; clear hR R
              try simp only [go_sem, hx, hy]
              refine ⟨k + 1, ?_, by (try simp only []); omega, ?_⟩
              · refine Weak.trans (Weak.cutX 4 0 (by omega) (by omega) hcl (by simp only [go_sem]) (by simp only [go_sem] <;> omega)) ?_
                simp only [go_sem]
                exact Weak.eq (by first | rfl | (simp only [go_sem]; done) | (simp only [go_sem]; rfl) | (simp [go_sem]; done) | (simp [go_sem]; omega)) (by first | rfl | (simp only [go_sem]; done) | (simp [go_sem]; done))
              · try dsimp only
                refine ⟨hk', ?_⟩
                rw [hin, if_neg (by simp [c3]), if_neg (by first | omega | (rw [hx1, hy1]; intro h; simp at h; omega))]
          · try simp only [Bool.not_eq_true', Bool.not_eq_false'] at g2
            have n2 := g2; try simp only [nrm] at n2
            simp only [go_sem, hx, hy, g2]
            try simp (disch := omega) only [wrapI]
            refine hR _ _ (kq17 _ _ ?_); clear hR R; try clear kq17 kz17
            try simp only [go_sem, hx, hy]
            refine W_cond_false rfl ?_
            refine W_skip (kq12 _ _ ?_)
            refine W_region [5, 6, 7, 12, 13, 14, 25, 26, 27, 32, 33, 34] fun R hR => ?_   -- r12
            simp only [go_sem, hx, hy]
            try simp (disch := omega) only [wrapI]
            refine hR _ _ ?_; clear hR R
            try simp only [go_sem, hx, hy]
            refine ⟨k + 1, ?_, by (try simp only []); omega, ?_⟩
            · refine Weak.trans (Weak.cutX 4 0 (by omega) (by omega) hcl (by simp only [go_sem]) (by simp only [go_sem] <;> omega)) ?_
              simp only [go_sem]
              exact Weak.eq (by first | rfl | (simp only [go_sem]; done) | (simp only [go_sem]; rfl) | (simp [go_sem]; done) | (simp [go_sem]; omega)) (by first | rfl | (simp only [go_sem]; done) | (simp [go_sem]; done))
            · try dsimp only
              refine ⟨hk', ?_⟩
              rw [hin, if_neg (by simp [c3]), if_neg (by first | omega | (rw [hx1, hy1]; intro h; simp at h; omega))]
        · try simp only [Bool.not_eq_true', Bool.not_eq_false'] at g1
          have n1 := g1; try simp only [nrm] at n1
          simp only [go_sem, hx, hy, g1]
          try simp (disch := omega) only [wrapI]
          refine hR _ _ (kq17 _ _ ?_); clear hR R; try clear kq17 kz17
          try simp only [go_sem, hx, hy]
          refine W_cond_false rfl ?_
          refine W_skip (kq12 _ _ ?_)
          refine W_region [5, 6, 7, 12, 13, 14, 25, 26, 27, 32, 33, 34] fun R hR => ?_   -- r12
          simp only [go_sem, hx, hy]
          try simp (disch := omega) only [wrapI]
          refine hR _ _ ?_; clear hR R
          try simp only [go_sem, hx, hy]
          refine ⟨k + 1, ?_, by (try simp only []); omega, ?_⟩
          · refine Weak.trans (Weak.cutX 4 0 (by omega) (by omega) hcl (by simp only [go_sem]) (by simp only [go_sem] <;> omega)) ?_
            simp only [go_sem]
            exact Weak.eq (by first | rfl | (simp only [go_sem]; done) | (simp only [go_sem]; rfl) | (simp [go_sem]; done) | (simp [go_sem]; omega)) (by first | rfl | (simp only [go_sem]; done) | (simp [go_sem]; done))
          · try dsimp only
            refine ⟨hk', ?_⟩
            rw [hin, if_neg (by simp [c3]), if_neg (by first | omega | (rw [hx1, hy1]; intro h; simp at h; omega))]
    · -- c2 false
      try simp only [nrm] at c2
      have hdrop2 : two.drop k = [] := List.drop_eq_nil_of_le (by omega)
      rw [hdrop2] at hin
      simp only [crIn] at hin
      have hinner := hin
      refine W_exit ?_
      simp only [go_sem, hx]
      refine kq7 _ _ ?_
      refine W_region [5, 6, 7, 12, 25, 26, 27] fun R hR => ?_   -- r13
      simp only [go_sem, hx]
      try simp (disch := omega) only [wrapI]
      refine hR _ _ ?_; clear hR R
      try simp only [go_sem, hx]
      refine ⟨i + 1, ?_, by (try simp only []); omega, ?_⟩
      · refine Weak.trans (Weak.cutX 3 0 (by omega) (by omega) hcl (by simp only [go_sem]) (by simp only [go_sem] <;> omega)) ?_
        simp only [go_sem]
        exact Weak.eq (by first | rfl | (simp only [go_sem]; done) | (simp only [go_sem]; rfl) | (simp [go_sem]; done) | (simp [go_sem]; omega)) (by first | rfl | (simp only [go_sem]; done) | (simp [go_sem]; done))
      · try dsimp only
        exact ⟨hi', by rw [hinv, if_neg (by simp [hinner])]⟩
  · -- c1 false
    try simp only [nrm] at c1
    have hdrop : one.drop i = [] := List.drop_eq_nil_of_le (by omega)
    rw [hdrop] at hinv
    simp only [crOut] at hinv
    refine W_exit ?_
    simp only [go_sem]
    refine kq3 _ _ ?_
    refine W_seq fun kz19 kq19 => ?_
    refine W_region [10] fun R hR => ?_   -- r14
    simp only [go_sem]
    refine hR _ _ (kq19 _ _ ?_); clear hR R; try clear kq19 kz19
    try simp only [go_sem]
    refine W_ret ?_
    simp only [go_sem]
    refine ⟨.inr (by trivial), ?_⟩
    first | refine Fin_same hcl rfl (Wk_eq ?_ (by simp only [go_sem])) | refine Fin_self hcl rfl (Wk_eq ?_ (by simp only [go_sem]))
    try simp only [go_sem]
    all_goals
      first | rfl | (simp_all; done) | (simp_all; omega)
end Go.Proofs.Ytnpamcpoaklgeaa
namespace Go.Proofs.Ytnpamcpoaklgeaa
open Go Go.RowKit
set_option maxRecDepth 100000
theorem timesOf_ok {b : Band} (h : timesOf b = 0) : 0 ≤ b.lo ∧ b.lo ≤ b.hi ∧ b.hi ≤ 720 ∧ b.hi - b.lo ≤ 30 ∧ 1 ≤ b.stay ∧ b.stay ≤ 120 ∧ 0 ≤ b.people ∧ b.people ≤ 1000000 ∧ b.hi + b.stay * ((b.path.length : Int) + 1) ≤ 720 := by
  unfold timesOf at h
  split at h <;> try (simp at h; done)
  split at h <;> try (simp at h; done)
  split at h <;> try (simp at h; done)
  split at h <;> try (simp at h; done)
  split at h <;> try (simp at h; done)
  split at h <;> try (simp at h; done)
  split at h <;> try (simp at h; done)
  simp only [Bool.not_eq_false, inR_true] at *
  omega
theorem chkBand_ok {c : City} {b : Band} (h : chkBand c b = 0) : (sqs c b).2 = 0 ∧ timesOf b = 0 := by
  unfold chkBand at h
  split at h
  · exact absurd h ‹_›
  · exact ⟨by simp_all, h⟩
theorem chkBands_ok {c : City} : ∀ {l : List Band}, chkBands c l = 0 → ∀ b, b ∈ l → chkBand c b = 0 := by
  intro l
  induction l with
  | nil => intro _ b hb; cases hb
  | cons a l ih =>
    intro h b hb
    simp only [chkBands] at h
    split at h
    · exact absurd h ‹_›
    · rcases List.mem_cons.1 hb with rfl | hb
      · simp_all
      · exact ih h b hb
theorem askedOf_ok {c : City} {l : List Band} (h : askedOf c l = 0) : chkCity c = 0 ∧ chkBands c l = 0 := by
  unfold askedOf at h
  split at h
  · exact absurd h ‹_›
  · exact ⟨by simp_all, h⟩
theorem chkAll_ok {c : City} {l : List Band} (h : chkAll c l = 0) : chkCity c = 0 ∧ l.length ≤ 10 ∧ chkBands c l = 0 := by
  unfold chkAll at h
  split at h
  · exact absurd h ‹_›
  · split at h
    · simp at h
    · exact ⟨by simp_all, by omega, h⟩
/-- What is asked of two bands' cross. -/
def crossVal (c : City) (a b : Band) : Int := crossOf (crossing c a b) a.lo a.hi b.lo b.hi
def crossAns (c : City) (a b : Band) : Int × Int := if askedOf c [a, b] ≠ 0 then (0, askedOf c [a, b]) else (crossVal c a b, 0)
theorem bcross_pc (Y : YEnv) (σ : Sg) (ct : City) (a b : Band) (hc : ct.Ok) (ha : a.path.length < 2 ^ 50) (hb : b.path.length < 2 ^ 50) (ta : timesOf a = 0) (tb : timesOf b = 0) :
    PC Try.prog Y 67 [ctPV ct, bdPV a, bdPV b] σ (I (crossVal ct a b)) σ := by
  obtain ⟨a1, a2, a3, a4, a5, a6, a7, a8, a9⟩ := timesOf_ok ta
  obtain ⟨b1, b2, b3, b4, b5, b6, b7, b8, b9⟩ := timesOf_ok tb
  exact cross_pc (crossing ct a b) (ints ct.town.rooms) (.isl (ct.town.streets.map stPV) .ro) (.isl (ct.town.groups.map grPV) .ro) (I ct.town.steps) (I ct.brk) (ints ct.sleep) (I a.first) (ints a.path) (I a.stay) (I a.people) (I b.first) (ints b.path) (I b.stay) (I b.people) a.lo a.hi b.lo b.hi
    (by omega) (by omega) (by omega) (by omega) (by omega) (by omega)
    (fun Y σ i j h1 h2 h3 h4 => crosses_pc Y σ ct a b i j hc ha hb (by omega) (by omega) (by omega) (by omega) (by omega) (by omega) (by omega) (by omega)) Y σ
set_option maxHeartbeats 2000000 in
theorem bCross_pc (Y : YEnv) (σ : Sg) (ct : City) (a b : Band) (hc : ct.Ok) (ha : a.path.length < 2 ^ 50) (hb : b.path.length < 2 ^ 50) :
    PC Try.prog Y 24 [ctPV ct, bdPV a, bdPV b] σ (.tuple [I (crossAns ct a b).1, I (crossAns ct a b).2]) (σ) := by
  refine PC_of_W Try.func24 rfl (by kernel_rfl) Try.ntmps24 (by simp) fun hcl hca => ?_
  refine W_seq fun kz1 kq1 => ?_
  refine W_region [3, 4, 5] fun R hR => ?_   -- r0
  simp only [go_sem]
  refine hR _ _ (kq1 _ _ ?_); clear hR R; try clear kq1 kz1
  try simp only [go_sem]
  refine W_seq fun kz2 kq2 => ?_
  refine W_seq fun kz3 kq3 => ?_
  refine W_region [3, 4, 5, 8] fun R hR => ?_   -- r1
  simp only [go_sem]
  refine GCall_of (PC.ofRo (asked_pc Y _ ct [a, b] hc ⟨by simp, fun x hx => by simp at hx; rcases hx with rfl | rfl <;> assumption⟩) (by simp only [go_sem] <;> rfl)) ?_   -- t13
  simp only [go_sem]
  refine hR _ _ (kq3 _ _ ?_); clear hR R; try clear kq3 kz3
  try simp only [go_sem]
  refine W_seq fun kz4 kq4 => ?_
  refine W_region [3, 4, 5, 8, 15] fun R hR => ?_   -- r2
  simp only [go_sem]
  refine hR _ _ (kq4 _ _ ?_); clear hR R; try clear kq4 kz4
  try simp only [go_sem]
  refine W_cond rfl (fun c1 => ?_) (fun c1 => ?_)
  · -- c1 true
    try simp only [nrm] at c1
    refine W_seq fun kz5 kq5 => ?_
    refine W_region [6, 7] fun R hR => ?_   -- r3
    simp only [go_sem]
    refine hR _ _ (kq5 _ _ ?_); clear hR R; try clear kq5 kz5
    try simp only [go_sem]
    refine W_ret ?_
    simp only [go_sem]
    refine ⟨.inr (by trivial), ?_⟩
    first | refine Fin_same hcl rfl (Wk_eq ?_ (by simp only [go_sem])) | refine Fin_self hcl rfl (Wk_eq ?_ (by simp only [go_sem]))
    try simp only [go_sem]
    all_goals
      simp [crossAns, c1]
  · -- c1 false
    try simp only [nrm] at c1
    have tc : timesOf a = 0 ∧ timesOf b = 0 := by
      have h := chkBands_ok (askedOf_ok c1).2
      exact ⟨(chkBand_ok (h a (by simp))).2, (chkBand_ok (h b (by simp))).2⟩
    refine W_skip (kq2 _ _ ?_)
    refine W_seq fun kz6 kq6 => ?_
    refine W_region [6, 7] fun R hR => ?_   -- r4
    simp only [go_sem]
    refine GCall_of (bcross_pc Y _ ct a b hc ha hb tc.1 tc.2) ?_   -- t20
    simp only [go_sem]
    refine hR _ _ (kq6 _ _ ?_); clear hR R; try clear kq6 kz6
    try simp only [go_sem]
    refine W_ret ?_
    simp only [go_sem]
    refine ⟨.inr (by trivial), ?_⟩
    first | refine Fin_same hcl rfl (Wk_eq ?_ (by simp only [go_sem])) | refine Fin_self hcl rfl (Wk_eq ?_ (by simp only [go_sem]))
    try simp only [go_sem]
    all_goals
      simp [crossAns, c1]
/-- In minute t of the night, may a band be in a square? Its k-th visits are looked at, from k on. -/
def hFrom (b : Band) (sq : Int) (t : Int) : Nat → List Int → Bool
  | _, [] => false
  | k, s :: r => (decide (s = sq) && decide (b.lo + (k : Int) * b.stay ≤ t) && decide (t ≤ b.hi + (k : Int) * b.stay + b.stay - 1)) || hFrom b sq t (k + 1) r
def heardB (c : City) (b : Band) (sq : Int) (t : Int) : Bool := hFrom b sq t 0 (sqs c b).1
def loudAt (c : City) (l : List Band) (sq : Int) (t : Int) : Bool := l.any fun b => heardB c b sq t
/-- The minutes of a night. -/
def tab (f : Int → Bool) : List PV := (List.range 720).map fun t : Nat => .bool (f t)
theorem tab_len (f : Int → Bool) : (tab f).length = 720 := by simp [tab]
theorem tab_get (f : Int → Bool) {t : Nat} (h : t < 720) : (tab f)[t]? = some (.bool (f t)) := by simp [tab, h]
theorem tab_set (f : Int → Bool) {t : Nat} (h : t < 720) : (tab f).set t (.bool true) = tab fun s => f s || decide (s = (t : Int)) := by
  refine List.ext_getElem? fun i => ?_
  rw [List.getElem?_set]
  by_cases hi : i < 720
  · by_cases ht : t = i
    · subst ht; rw [if_pos rfl, if_pos (by rw [tab_len]; exact h), tab_get (fun s => f s || decide (s = (t : Int))) hi]; simp
    · rw [if_neg ht, tab_get (fun s => f s || decide (s = (t : Int))) hi, tab_get f hi]
      have : decide ((i : Int) = (t : Int)) = false := by simp; omega
      simp only [this, Bool.or_false]
  · rw [List.getElem?_eq_none (l := tab fun s => f s || decide (s = (t : Int))) (by rw [tab_len]; omega)]
    rw [if_neg (by omega), List.getElem?_eq_none (by rw [tab_len]; omega)]
theorem tab_none : List.replicate 720 (PV.bool false) = tab fun _ => false := by
  refine List.ext_getElem? fun i => ?_
  rw [List.getElem?_replicate]
  by_cases hi : i < 720
  · rw [if_pos hi, tab_get (fun _ => false) hi]
  · rw [if_neg hi, List.getElem?_eq_none (by rw [tab_len]; omega)]
theorem clean_tab {a b c : Nat} (f : Int → Bool) : CleanAll a b c (tab f) = True := eq_true fun p hp => by
  unfold tab at hp
  obtain ⟨t, _, rfl⟩ := List.mem_map.1 hp
  exact .bool _
theorem put_tab (f : Int → Bool) (t : Nat) : putCells (tab f) t [PV.bool true] = (tab f).set t (.bool true) := by simp [putCells]
attribute [go_sem] clean_tab tab_len
theorem visFrom_get (start stay : Int) : ∀ (l : List Int) (k i : Nat), (visFrom start stay k l)[i]? = (l[i]?).map fun s => ⟨start + ((k + i : Nat) : Int) * stay, start + ((k + i : Nat) : Int) * stay + stay - 1, s⟩ := by
  intro l
  induction l with
  | nil => intro k i; simp [visFrom]
  | cons s r ih =>
    intro k i
    cases i with
    | zero => simp [visFrom]
    | succ i =>
      simp only [visFrom, List.getElem?_cons_succ]
      rw [ih]
      rw [show k + 1 + i = k + (i + 1) by omega]
end Go.Proofs.Ytnpamcpoaklgeaa
namespace Go.Proofs.Ytnpamcpoaklgeaa
open Go Go.RowKit
set_option maxRecDepth 100000
theorem rep_tab : rep 720 (PV.bool false) = tab fun _ => false := tab_none
theorem tab_put (h : Int → Bool) {m : Int} (h0 : 0 ≤ m) (h1 : m < 720) : putCells (tab h) m.toNat [PV.bool true] = tab fun s => h s || decide (s = m) := by
  rw [put_tab, tab_set h (by omega), Int.toNat_of_nonneg h0]
theorem putCells_full : ∀ (ds cs : List PV), cs.length = ds.length → putCells cs 0 ds = ds := by
  have key : ∀ (ds cs pre : List PV), cs.length = ds.length → putCells (pre ++ cs) pre.length ds = pre ++ ds := by
    intro ds
    induction ds with
    | nil => intro cs pre h; cases cs <;> simp_all [putCells]
    | cons d ds ih =>
      intro cs pre h
      cases cs with
      | nil => simp at h
      | cons c cs =>
        simp only [putCells]
        have e : (pre ++ c :: cs).set pre.length d = (pre ++ [d]) ++ cs := by simp [List.set_append]
        rw [e]
        have := ih cs (pre ++ [d]) (by simpa using h)
        simp only [List.length_append, List.length_cons, List.length_nil, Nat.zero_add] at this
        rw [this]
        simp
  intro ds cs h
  exact key ds cs [] h
theorem put_full (f g : Int → Bool) : putCells (tab f) 0 (tab g) = tab g := putCells_full _ _ (by rw [tab_len, tab_len])
theorem tab_take (f : Int → Bool) : (tab f).take 720 = tab f := List.take_of_length_le (by rw [tab_len]; omega)
theorem tab_scalar (f : Int → Bool) : (tab f).all PV.scalar = true := by
  rw [List.all_eq_true]
  intro p hp
  unfold tab at hp
  obtain ⟨t, _, rfl⟩ := List.mem_map.1 hp
  rfl
attribute [go_sem] rep_tab put_full tab_take tab_scalar
theorem hFrom_snoc (b : Band) (sq t s : Int) : ∀ (l : List Int) (k : Nat), hFrom b sq t k (l ++ [s]) =
    (hFrom b sq t k l || (decide (s = sq) && decide (b.lo + ((k + l.length : Nat) : Int) * b.stay ≤ t) && decide (t ≤ b.hi + ((k + l.length : Nat) : Int) * b.stay + b.stay - 1))) := by
  intro l
  induction l with
  | nil => intro k; simp [hFrom]
  | cons a r ih =>
    intro k
    simp only [List.cons_append, hFrom, List.length_cons]
    rw [ih, show k + 1 + r.length = k + (r.length + 1) by omega, Bool.or_assoc]
theorem take_snoc {α : Type} {l : List α} {i : Nat} {x : α} (h : l[i]? = some x) : l.take (i + 1) = l.take i ++ [x] := by
  rw [List.take_add_one, h]; rfl
theorem loudAt_snoc (c : City) (l : List Band) (b : Band) (sq t : Int) : loudAt c (l ++ [b]) sq t = (loudAt c l sq t || heardB c b sq t) := by simp [loudAt]
set_option maxHeartbeats 2000000 in
theorem loudness_pc (Y : YEnv) (σ : Sg) (ct : City) (l : List Band) (sq : Int) (hc : ct.Ok) (hl : BandsOk l) (hv : ∀ b, b ∈ l → chkBand ct b = 0) :
    PC Try.prog Y 105 [ctPV ct, bands l, I sq] σ (.agg (tab fun t => loudAt ct l sq t)) (σ) := by
  refine PC_of_W Try.func105 rfl (by kernel_rfl) Try.ntmps105 (by simp) fun hcl hca => ?_
  have hl1 := hl.1
  have hl2 := hl.2
  refine W_seq fun kz1 kq1 => ?_
  refine W_region [1, 2, 3, 6] fun R hR => ?_   -- r0
  simp only [go_sem, rep_tab]
  refine hR _ _ (kq1 _ _ ?_); clear hR R; try clear kq1 kz1
  try simp only [go_sem, rep_tab]
  refine W_seq fun kz2 kq2 => ?_
  refine W_region [1, 2, 3, 6, 7] fun R hR => ?_   -- r1
  simp only [go_sem, rep_tab]
  refine hR _ _ (kq2 _ _ ?_); clear hR R; try clear kq2 kz2
  try simp only [go_sem, rep_tab]
  refine W_seq fun kz3 kq3 => ?_
  refine W_seq fun kz4 kq4 => ?_
  refine W_region [2, 3, 6, 7, 15, 16, 17] fun R hR => ?_   -- r2
  simp only [go_sem, rep_tab]
  refine hR _ _ (kq4 _ _ ?_); clear hR R; try clear kq4 kz4
  try simp only [go_sem, rep_tab]
  refine W_block ?_
  refine W_loopT (α := Nat × (Int → Bool)) (fun ⟨i, f⟩ => [(17, I i)]) (fun ⟨i, f⟩ => σ.ext [some (ctCells ct), some (tab fun _ => false), some (tab f)] []) (fun ⟨i, f⟩ => i ≤ l.length ∧ ∀ t, f t = loudAt ct (l.take i) sq t) (fun ⟨i, f⟩ => l.length - i) ((0, fun _ => false)) rfl (by first | rfl | (simp only [go_sem]; done) | (simp only [go_sem]; rfl)) (⟨Nat.zero_le _, fun t => rfl⟩) ?_
  rintro ⟨i, f⟩ ⟨hi, hf⟩
  refine W_seq fun kz5 kq5 => ?_
  refine W_region [2, 3, 6, 7, 15, 16, 17, 18] fun R hR => ?_   -- r3
  simp only [go_sem, rep_tab]
  refine hR _ _ (kq5 _ _ ?_); clear hR R; try clear kq5 kz5
  try simp only [go_sem, rep_tab]
  refine W_seq fun kz6 kq6 => ?_
  refine W_cond rfl (fun c1 => ?_) (fun c1 => ?_)
  · -- c1 true
    try simp only [nrm] at c1
    have hi' : i < l.length := by first | assumption | omega
    obtain ⟨b, hx⟩ : ∃ b, l[i]? = some b := ⟨l[i], by simp [hi']⟩
    have hdrop : l.drop i = b :: l.drop (i + 1) := by
      rw [List.drop_eq_getElem_cons hi']; congr 1; exact (List.getElem?_eq_some_iff.1 hx).2
    have hbl : b ∈ l := List.mem_of_getElem? hx
    have htk := take_snoc hx
    obtain ⟨b1, b2, b3, b4, b5, b6, b7, b8, b9⟩ := timesOf_ok (chkBand_ok (hv b hbl)).2
    have hsl := sqs_len ct b
    have hp := hl2 b hbl
    have hlf : (visOf ct b b.lo).length = (sqs ct b).1.length := visFrom_len ..
    refine W_skip (kq6 _ _ ?_)
    refine W_seq fun kz7 kq7 => ?_
    refine W_block ?_
    refine W_seq fun kz8 kq8 => ?_
    refine W_region [2, 3, 6, 7, 9, 15, 16, 17] fun R hR => ?_   -- r4
    simp only [go_sem, rep_tab, hx]
    refine hR _ _ (kq8 _ _ ?_); clear hR R; try clear kq8 kz8
    try simp only [go_sem, rep_tab, hx]
    refine W_seq fun kz9 kq9 => ?_
    refine W_draw [2, 3, 6, 7, 10, 11, 15, 16, 17] [0, 1, 2, 3, 4, 5, 6, 7, 8, 9, 10, 11, 12, 13] [(6, 5), (7, 5), (8, 5), (9, 5), (10, 5)] [[], [], [], [2], [2, 3], [0, 1, 2, 3, 4], [], [], [], [8], [8, 9], [0, 1, 2, 3, 4, 5, 6, 7, 8, 9, 10], [0, 1, 2, 3, 4, 5, 6, 7, 8, 9, 10, 11], [0, 1, 2, 3, 4, 5, 6, 7, 8, 9, 10, 11, 12]] mixed (by kernel_rfl) fun R hR => ?_   -- r5
    simp only [go_sem, rep_tab, hx]
    refine GCall_of (visits_pc Y _ ct b b.lo hc hp (by omega) (by omega) (by omega) (by omega)) ?_   -- t26
    simp only [go_sem, rep_tab, hx]
    refine GCall_of (visits_pc Y _ ct b b.hi hc hp (by omega) (by omega) (by omega) (by omega)) ?_   -- t32
    simp only [go_sem, rep_tab, hx]
    refine hR _ _ (kq9 _ _ ?_); clear hR R; try clear kq9 kz9
    try simp only [go_sem, rep_tab, hx]
    refine W_seq fun kz10 kq10 => ?_
    refine W_region [2, 3, 6, 7, 11, 15, 16, 17, 33, 34, 35] fun R hR => ?_   -- r6
    simp only [go_sem, rep_tab, hx]
    refine hR _ _ (kq10 _ _ ?_); clear hR R; try clear kq10 kz10
    try simp only [go_sem, rep_tab, hx]
    refine W_block ?_
    refine W_loopT (α := Nat × (Int → Bool)) (fun ⟨k, g⟩ => [(35, I k)]) (fun ⟨k, g⟩ => σ.ext [some (ctCells ct), some (tab fun _ => false), some (tab g), some (bdCells b)] []) (fun ⟨k, g⟩ => k ≤ (sqs ct b).1.length ∧ ∀ t, g t = (f t || hFrom b sq t 0 ((sqs ct b).1.take k))) (fun ⟨k, g⟩ => (sqs ct b).1.length - k) ((0, f)) rfl (by first | rfl | (simp only [go_sem]; done) | (simp only [go_sem]; rfl)) (⟨Nat.zero_le _, fun t => by simp [hFrom]⟩) ?_
    rintro ⟨k, g⟩ ⟨hk, hg⟩
    refine W_seq fun kz11 kq11 => ?_
    refine W_region [2, 3, 6, 7, 11, 15, 16, 17, 33, 34, 35, 36] fun R hR => ?_   -- r7
    simp only [go_sem, rep_tab, hx]
    refine hR _ _ (kq11 _ _ ?_); clear hR R; try clear kq11 kz11
    try simp only [go_sem, rep_tab, hx]
    refine W_seq fun kz12 kq12 => ?_
    refine W_cond rfl (fun c2 => ?_) (fun c2 => ?_)
    · -- c2 true
      try simp only [nrm] at c2
      have hk' : k < (visOf ct b b.lo).length := by first | assumption | omega
      obtain ⟨s, hs⟩ : ∃ s, (sqs ct b).1[k]? = some s := ⟨(sqs ct b).1[k]'(by omega), by simp⟩
      have htk2 := take_snoc hs
      have hy : (visOf ct b b.lo)[k]? = some ⟨b.lo + (k : Int) * b.stay, b.lo + (k : Int) * b.stay + b.stay - 1, s⟩ := by unfold visOf; rw [visFrom_get, hs]; simp
      have hz : (visOf ct b b.hi)[k]? = some ⟨b.hi + (k : Int) * b.stay, b.hi + (k : Int) * b.stay + b.stay - 1, s⟩ := by unfold visOf; rw [visFrom_get, hs]; simp
      have hmu := mul_bd (a := (k : Int)) (b := b.stay) (A := 13) (B := 120) (by omega) (by omega) (by omega) (by omega)
      have hm9 : (k : Int) * b.stay + b.stay ≤ b.stay * ((b.path.length : Int) + 1) := by
        have := Int.mul_le_mul_of_nonneg_right (show (k : Int) + 1 ≤ (b.path.length : Int) + 1 by omega) (show 0 ≤ b.stay by omega)
        rw [Int.add_mul, Int.one_mul] at this
        rw [Int.mul_comm b.stay]
        exact this
      refine W_skip (kq12 _ _ ?_)
      refine W_seq fun kz13 kq13 => ?_
      refine W_block ?_
      refine W_seq fun kz14 kq14 => ?_
      refine W_region [2, 3, 6, 7, 11, 12, 13, 15, 16, 17, 33, 34, 35] fun R hR => ?_   -- r8
      simp only [go_sem, rep_tab, hx, hy]
      refine hR _ _ (kq14 _ _ ?_); clear hR R; try clear kq14 kz14
      try simp only [go_sem, rep_tab, hx, hy]
      refine W_seq fun kz15 kq15 => ?_
      refine W_region [2, 3, 6, 7, 11, 12, 13, 14, 15, 16, 17, 33, 34, 35] fun R hR => ?_   -- r9
      simp only [go_sem, rep_tab, hx, hy]
      refine hR _ _ (kq15 _ _ ?_); clear hR R; try clear kq15 kz15
      try simp only [go_sem, rep_tab, hx, hy]
      refine W_block ?_
      refine W_loopT (α := Int × (Int → Bool)) (fun ⟨m, h⟩ => [(14, I m)]) (fun ⟨m, h⟩ => σ.ext [some (ctCells ct), some (tab fun _ => false), some (tab h), some (bdCells b), some [I (b.lo + (k : Int) * b.stay), I (b.lo + (k : Int) * b.stay + b.stay - 1), I s]] []) (fun ⟨m, h⟩ => b.lo + (k : Int) * b.stay ≤ m ∧ m ≤ b.hi + (k : Int) * b.stay + b.stay ∧ ∀ t, h t = (g t || (decide (s = sq) && decide (b.lo + (k : Int) * b.stay ≤ t) && decide (t < m)))) (fun ⟨m, h⟩ => (b.hi + (k : Int) * b.stay + b.stay - m).toNat) ((b.lo + (k : Int) * b.stay, g)) rfl (by first | rfl | (simp only [go_sem]; done) | (simp only [go_sem]; rfl)) (⟨Int.le_refl _, by (try dsimp only); omega, fun t => by simp; omega⟩) ?_
      rintro ⟨m, h⟩ ⟨hm1, hm2, hh⟩
      refine W_seq fun kz16 kq16 => ?_
      refine W_seq fun kz17 kq17 => ?_
      refine W_region [2, 3, 6, 7, 11, 12, 13, 14, 15, 16, 17, 33, 34, 35, 56] fun R hR => ?_   -- r10
      simp only [go_sem, rep_tab, hx, hy, hz]
      refine GWant_split (fun g1 => ?_) (fun g1 => ?_)
      · try simp only [Bool.not_eq_true', Bool.not_eq_false'] at g1
        have n1 := g1; try simp only [nrm] at n1
        simp only [go_sem, rep_tab, hx, hy, hz, g1]
        refine hR _ _ (kq17 _ _ ?_); clear hR R; try clear kq17 kz17
        try simp only [go_sem, rep_tab, hx, hy, hz]
        refine W_cond rfl (fun c3 => ?_) (fun c3 => ?_)
        · -- c3 true
          try simp only [nrm] at c3
          refine W_skip (kq16 _ _ ?_)
          refine W_seq fun kz18 kq18 => ?_
          refine W_block ?_
          have hmx0 : 0 ≤ m := by omega
          have hmx1 : m < 720 := by omega
          have hmx2 : m.toNat + 1 ≤ 720 := by omega
          refine W_region [2, 3, 6, 7, 11, 12, 13, 14, 15, 16, 17, 33, 34, 35] fun R hR => ?_   -- r12
          simp only [go_sem, rep_tab, hx, hy, hz, hmx0, hmx1, hmx2, tab_put h hmx0 hmx1, Nat.mul_one]
          refine hR _ _ (kq18 _ _ ?_); clear hR R; try clear kq18 kz18
          try simp only [go_sem, rep_tab, hx, hy, hz]
          refine W_region [2, 3, 6, 7, 11, 12, 13, 14, 15, 16, 17, 33, 34, 35] fun R hR => ?_   -- r11
          simp only [go_sem, rep_tab, hx, hy, hz]
          try simp (disch := omega) only [wrapI]
          refine hR _ _ ?_; clear hR R
          try simp only [go_sem, rep_tab, hx, hy, hz]
          refine ⟨(m + 1, fun t => h t || decide (t = m)), ?_, by (try simp only []); omega, ?_⟩
          · first | exact Weak.refl | exact Weak.eq (by first | rfl | (simp only [go_sem]; done) | (simp only [go_sem]; rfl) | (simp [go_sem]; done) | (simp [go_sem]; omega)) (by first | rfl | (simp only [go_sem]; done) | (simp [go_sem]; done))
          · try dsimp only
            exact ⟨by omega, by omega, fun t => by rw [hh]; rw [Bool.eq_iff_iff]; cases g t <;> simp [c3] <;> omega⟩
        · -- c3 false
          try simp only [nrm] at c3
          refine W_exit ?_
          simp only [go_sem, rep_tab, hx, hy, hz]
          refine kq13 _ _ ?_
          refine W_region [2, 3, 6, 7, 11, 15, 16, 17, 33, 34, 35] fun R hR => ?_   -- r13
          simp only [go_sem, rep_tab, hx, hy, hz]
          try simp (disch := omega) only [wrapI]
          refine hR _ _ ?_; clear hR R
          try simp only [go_sem, rep_tab, hx, hy, hz]
          refine ⟨(k + 1, h), ?_, by (try simp only []); omega, ?_⟩
          · refine Weak.trans (Weak.cutX 4 0 (by omega) (by omega) hcl (by simp only [go_sem]) (by simp only [go_sem] <;> omega)) ?_
            simp only [go_sem]
            exact Weak.eq (by first | rfl | (simp only [go_sem]; done) | (simp only [go_sem]; rfl) | (simp [go_sem]; done) | (simp [go_sem]; omega)) (by first | rfl | (simp only [go_sem]; done) | (simp [go_sem]; done))
          · try dsimp only
            refine ⟨by omega, fun t => ?_⟩
            rw [htk2, hFrom_snoc, ← Bool.or_assoc, ← hg, hh]
            have e : 0 + ((sqs ct b).1.take k).length = k := by simp; omega
            rw [e]
            congr 1
            rw [Bool.and_assoc, Bool.and_assoc]
            by_cases hss : s = sq
            · rw [decide_eq_true hss]
              rw [Bool.eq_iff_iff]; simp; omega
            · rw [decide_eq_false hss]; rfl
      · try simp only [Bool.not_eq_true', Bool.not_eq_false'] at g1
        have n1 := g1; try simp only [nrm] at n1
        simp only [go_sem, rep_tab, hx, hy, hz, g1]
        refine hR _ _ (kq17 _ _ ?_); clear hR R; try clear kq17 kz17
        try simp only [go_sem, rep_tab, hx, hy, hz]
        refine W_cond_false rfl ?_
        refine W_exit ?_
        simp only [go_sem, rep_tab, hx, hy, hz]
        refine kq13 _ _ ?_
        refine W_region [2, 3, 6, 7, 11, 15, 16, 17, 33, 34, 35] fun R hR => ?_   -- r13
        simp only [go_sem, rep_tab, hx, hy, hz]
        try simp (disch := omega) only [wrapI]
        refine hR _ _ ?_; clear hR R
        try simp only [go_sem, rep_tab, hx, hy, hz]
        refine ⟨(k + 1, h), ?_, by (try simp only []); omega, ?_⟩
        · refine Weak.trans (Weak.cutX 4 0 (by omega) (by omega) hcl (by simp only [go_sem]) (by simp only [go_sem] <;> omega)) ?_
          simp only [go_sem]
          exact Weak.eq (by first | rfl | (simp only [go_sem]; done) | (simp only [go_sem]; rfl) | (simp [go_sem]; done) | (simp [go_sem]; omega)) (by first | rfl | (simp only [go_sem]; done) | (simp [go_sem]; done))
        · try dsimp only
          refine ⟨by omega, fun t => ?_⟩
          rw [htk2, hFrom_snoc, ← Bool.or_assoc, ← hg, hh]
          have e : 0 + ((sqs ct b).1.take k).length = k := by simp; omega
          rw [e]
          congr 1
          rw [Bool.and_assoc, Bool.and_assoc]
          by_cases hss : s = sq
          · rw [decide_eq_true hss]
            rw [Bool.eq_iff_iff]; simp; omega
          · rw [decide_eq_false hss]; rfl
    · -- c2 false
      try simp only [nrm] at c2
      have hke : k = (sqs ct b).1.length := by omega
      subst hke
      rw [List.take_length] at hg
      refine W_exit ?_
      simp only [go_sem, rep_tab, hx]
      refine kq7 _ _ ?_
      refine W_region [2, 3, 6, 7, 15, 16, 17] fun R hR => ?_   -- r14
      simp only [go_sem, rep_tab, hx]
      try simp (disch := omega) only [wrapI]
      refine hR _ _ ?_; clear hR R
      try simp only [go_sem, rep_tab, hx]
      refine ⟨(i + 1, g), ?_, by (try simp only []); omega, ?_⟩
      · refine Weak.trans (Weak.cutX 3 0 (by omega) (by omega) hcl (by simp only [go_sem]) (by simp only [go_sem] <;> omega)) ?_
        simp only [go_sem]
        exact Weak.eq (by first | rfl | (simp only [go_sem]; done) | (simp only [go_sem]; rfl) | (simp [go_sem]; done) | (simp [go_sem]; omega)) (by first | rfl | (simp only [go_sem]; done) | (simp [go_sem]; done))
      · try dsimp only
        exact ⟨hi', fun t => by rw [hg, hf, htk, loudAt_snoc]; rfl⟩
  · -- c1 false
    try simp only [nrm] at c1
    have hie : i = l.length := by omega
    subst hie
    rw [List.take_length] at hf
    refine W_exit ?_
    simp only [go_sem, rep_tab]
    refine kq3 _ _ ?_
    refine W_seq fun kz19 kq19 => ?_
    refine W_region [6] fun R hR => ?_   -- r15
    simp only [go_sem, rep_tab]
    refine hR _ _ (kq19 _ _ ?_); clear hR R; try clear kq19 kz19
    try simp only [go_sem, rep_tab]
    refine W_ret ?_
    simp only [go_sem, rep_tab]
    refine ⟨.inr (by trivial), ?_⟩
    first | refine Fin_same hcl (by show resPV Try.prog _ _ [.cell 6 130] = some _; simp only [resPV, go_sem]; rfl) (Wk_eq ?_ (by simp only [go_sem])) | refine Fin_same hcl rfl (Wk_eq ?_ (by simp only [go_sem]))
    try simp only [go_sem]
    all_goals
      rw [show f = fun t => loudAt ct l sq t from funext hf]
end Go.Proofs.Ytnpamcpoaklgeaa
namespace Go.Proofs.Ytnpamcpoaklgeaa
open Go Go.RowKit
set_option maxRecDepth 100000
/-- The longest silent run so far: from, how many, and the run at work. -/
def slStep (f : Int → Bool) (t : Nat) (s : Int × Int × Int) : Int × Int × Int :=
  if s.2.1 < (if f t then 0 else s.2.2 + 1) then ((t : Int) - (if f t then 0 else s.2.2 + 1) + 1, (if f t then 0 else s.2.2 + 1), (if f t then 0 else s.2.2 + 1)) else (s.1, s.2.1, if f t then 0 else s.2.2 + 1)
def slRun (f : Int → Bool) : Nat → Int × Int × Int
  | 0 => (0, 0, 0)
  | t + 1 => slStep f t (slRun f t)
def sleepOf (f : Int → Bool) : Int × Int := ((slRun f 720).1, (slRun f 720).2.1)
theorem slRun_bd (f : Int → Bool) : ∀ t : Nat, 0 ≤ (slRun f t).1 ∧ (slRun f t).1 ≤ t ∧ 0 ≤ (slRun f t).2.1 ∧ (slRun f t).2.1 ≤ t ∧ 0 ≤ (slRun f t).2.2 ∧ (slRun f t).2.2 ≤ t := by
  intro t
  induction t with
  | zero => simp [slRun]
  | succ t ih =>
    rcases h : slRun f t with ⟨a, b, c⟩
    rw [h] at ih
    simp only [slRun, slStep, h]
    simp only at ih
    split <;> split <;> simp only [] <;> omega
set_option maxHeartbeats 2000000 in
theorem bsleep_pc (Y : YEnv) (σ : Sg) (ct : City) (l : List Band) (sq : Int) (hc : ct.Ok) (hl : BandsOk l) (hv : ∀ b, b ∈ l → chkBand ct b = 0) :
    PC Try.prog Y 70 [ctPV ct, bands l, I sq] σ (.tuple [I (sleepOf (loudAt ct l sq)).1, I (sleepOf (loudAt ct l sq)).2]) (σ) := by
  refine PC_of_W Try.func70 rfl (by kernel_rfl) Try.ntmps70 (by simp) fun hcl hca => ?_
  obtain ⟨f, hf⟩ : ∃ f, f = loudAt ct l sq := ⟨_, rfl⟩
  rw [← hf]
  refine W_seq fun kz1 kq1 => ?_
  refine W_region [1, 2, 3, 6, 7] fun R hR => ?_   -- r0
  simp only [go_sem]
  refine hR _ _ (kq1 _ _ ?_); clear hR R; try clear kq1 kz1
  try simp only [go_sem]
  refine W_seq fun kz2 kq2 => ?_
  refine W_region [1, 2, 3, 6, 7, 8] fun R hR => ?_   -- r1
  simp only [go_sem]
  refine hR _ _ (kq2 _ _ ?_); clear hR R; try clear kq2 kz2
  try simp only [go_sem]
  refine W_seq fun kz3 kq3 => ?_
  refine W_seq fun kz4 kq4 => ?_
  refine W_region [6, 7, 8, 14, 15] fun R hR => ?_   -- r2
  simp only [go_sem]
  refine GCall_of (PC.val (v' := .agg (tab f)) (loudness_pc Y _ ct l sq hc hl hv) (by rw [hf])) ?_   -- t14
  simp only [go_sem]
  refine hR _ _ (kq4 _ _ ?_); clear hR R; try clear kq4 kz4
  try simp only [go_sem]
  refine W_block ?_
  refine W_loopS (α := Nat × Int × Int × Int) (fun ⟨t, frm, many, run⟩ => [(6, I frm), (7, I many), (8, I run), (15, I t)]) (fun ⟨t, frm, many, run⟩ => t ≤ 720 ∧ slRun f t = (frm, many, run)) (fun ⟨t, frm, many, run⟩ => 720 - t) ((0, 0, 0, 0)) rfl (⟨Nat.zero_le _, rfl⟩) ?_
  rintro ⟨t, frm, many, run⟩ ⟨hi, hr⟩
  clear hf
  have hb := slRun_bd f t
  rw [hr] at hb
  dsimp only at hb
  obtain ⟨hb1, hb2, hb3, hb4, hb5, hb6⟩ := hb
  refine W_seq fun kz5 kq5 => ?_
  refine W_region [6, 7, 8, 14, 15, 16] fun R hR => ?_   -- r3
  simp only [go_sem]
  refine hR _ _ (kq5 _ _ ?_); clear hR R; try clear kq5 kz5
  try simp only [go_sem]
  refine W_seq fun kz6 kq6 => ?_
  refine W_cond rfl (fun c1 => ?_) (fun c1 => ?_)
  · -- c1 true
    try simp only [nrm] at c1
    have ht : t < 720 := by omega
    have hs : slRun f (t + 1) = slStep f t (frm, many, run) := by rw [← hr]; rfl
    have hz : (0 : Int) ≤ (t : Int) := by omega
    have hy : (t : Int) < 720 := by omega
    refine W_skip (kq6 _ _ ?_)
    refine W_seq fun kz7 kq7 => ?_
    refine W_block ?_
    refine W_seq fun kz8 kq8 => ?_
    refine W_region [6, 7, 8, 9, 10, 14, 15] fun R hR => ?_   -- r4
    simp only [go_sem, hz, hy, ht, tab_get f ht]
    refine hR _ _ (kq8 _ _ ?_); clear hR R; try clear kq8 kz8
    try simp only [go_sem]
    refine W_seq fun kz9 kq9 => ?_
    refine W_region [6, 7, 8, 9, 10, 14, 15] fun R hR => ?_   -- r5
    simp only [go_sem]
    try simp (disch := omega) only [wrapI]
    refine hR _ _ (kq9 _ _ ?_); clear hR R; try clear kq9 kz9
    try simp only [go_sem]
    refine W_seq fun kz10 kq10 => ?_
    refine W_seq fun kz11 kq11 => ?_
    refine W_region [6, 7, 8, 9, 14, 15, 21] fun R hR => ?_   -- r6
    simp only [go_sem]
    refine hR _ _ (kq11 _ _ ?_); clear hR R; try clear kq11 kz11
    try simp only [go_sem]
    refine W_cond rfl (fun c2 => ?_) (fun c2 => ?_)
    · -- c2 true
      try simp only [nrm] at c2
      refine W_region [6, 7, 8, 9, 14, 15] fun R hR => ?_   -- r7
      simp only [go_sem]
      refine hR _ _ (kq10 _ _ ?_); clear hR R; try clear kq10 kz10
      try simp only [go_sem]
      refine W_seq fun kz12 kq12 => ?_
      refine W_region [6, 7, 8, 9, 14, 15, 24] fun R hR => ?_   -- r8
      simp only [go_sem]
      refine hR _ _ (kq12 _ _ ?_); clear hR R; try clear kq12 kz12
      try simp only [go_sem]
      refine W_cond rfl (fun c3 => ?_) (fun c3 => ?_)
      · -- c3 true
        try simp only [nrm] at c3
        exfalso
        omega
      · -- c3 false
        try simp only [nrm] at c3
        refine W_skip (kq7 _ _ ?_)
        refine W_region [6, 7, 8, 14, 15] fun R hR => ?_   -- r10
        simp only [go_sem]
        try simp (disch := omega) only [wrapI]
        refine hR _ _ ?_; clear hR R
        try simp only [go_sem]
        refine ⟨(t + 1, frm, many, 0), ?_, by (try simp only []); omega, ?_⟩
        · first | exact Weak.refl | exact Weak.eq (by first | rfl | (simp only [go_sem]; done) | (simp only [go_sem]; rfl) | (simp [go_sem]; done) | (simp [go_sem]; omega)) (by first | rfl | (simp only [go_sem]; done) | (simp [go_sem]; done))
        · try dsimp only
          refine ⟨by omega, ?_⟩
          rw [hs]
          simp [slStep, *]
          try omega
    · -- c2 false
      try simp only [nrm] at c2
      refine W_skip (kq10 _ _ ?_)
      refine W_seq fun kz13 kq13 => ?_
      refine W_region [6, 7, 8, 9, 14, 15, 24] fun R hR => ?_   -- r8
      simp only [go_sem]
      refine hR _ _ (kq13 _ _ ?_); clear hR R; try clear kq13 kz13
      try simp only [go_sem]
      refine W_cond rfl (fun c4 => ?_) (fun c4 => ?_)
      · -- c4 true
        try simp only [nrm] at c4
        refine W_region [6, 7, 8, 14, 15] fun R hR => ?_   -- r9
        simp only [go_sem]
        try simp (disch := omega) only [wrapI]
        refine hR _ _ (kq7 _ _ ?_); clear hR R; try clear kq7 kz7
        try simp only [go_sem]
        refine W_region [6, 7, 8, 14, 15] fun R hR => ?_   -- r10
        simp only [go_sem]
        try simp (disch := omega) only [wrapI]
        refine hR _ _ ?_; clear hR R
        try simp only [go_sem]
        refine ⟨(t + 1, (t : Int) - (run + 1) + 1, run + 1, run + 1), ?_, by (try simp only []); omega, ?_⟩
        · first | exact Weak.refl | exact Weak.eq (by first | rfl | (simp only [go_sem]; done) | (simp only [go_sem]; rfl) | (simp [go_sem]; done) | (simp [go_sem]; omega)) (by first | rfl | (simp only [go_sem]; done) | (simp [go_sem]; done))
        · try dsimp only
          refine ⟨by omega, ?_⟩
          rw [hs]
          simp [slStep, *]
          try omega
      · -- c4 false
        try simp only [nrm] at c4
        refine W_skip (kq7 _ _ ?_)
        refine W_region [6, 7, 8, 14, 15] fun R hR => ?_   -- r10
        simp only [go_sem]
        try simp (disch := omega) only [wrapI]
        refine hR _ _ ?_; clear hR R
        try simp only [go_sem]
        refine ⟨(t + 1, frm, many, run + 1), ?_, by (try simp only []); omega, ?_⟩
        · first | exact Weak.refl | exact Weak.eq (by first | rfl | (simp only [go_sem]; done) | (simp only [go_sem]; rfl) | (simp [go_sem]; done) | (simp [go_sem]; omega)) (by first | rfl | (simp only [go_sem]; done) | (simp [go_sem]; done))
        · try dsimp only
          refine ⟨by omega, ?_⟩
          rw [hs]
          simp [slStep, *]
          try omega
  · -- c1 false
    try simp only [nrm] at c1
    have hte : t = 720 := by omega
    subst hte
    refine W_exit ?_
    simp only [go_sem]
    refine kq3 _ _ ?_
    refine W_seq fun kz14 kq14 => ?_
    refine W_region [6, 7] fun R hR => ?_   -- r11
    simp only [go_sem]
    refine hR _ _ (kq14 _ _ ?_); clear hR R; try clear kq14 kz14
    try simp only [go_sem]
    refine W_ret ?_
    simp only [go_sem]
    refine ⟨.inr (by trivial), ?_⟩
    first | refine Fin_same hcl rfl (Wk_eq ?_ (by simp only [go_sem])) | refine Fin_self hcl rfl (Wk_eq ?_ (by simp only [go_sem]))
    try simp only [go_sem]
    all_goals
      simp [sleepOf, hr]
def sleepAns (c : City) (l : List Band) (sq : Int) : Int × Int × Int :=
  if chkAll c l ≠ 0 then (0, 0, chkAll c l) else if inR sq 0 ((c.town.rooms.length : Int) - 1) = false then (0, 0, 7) else ((sleepOf (loudAt c l sq)).1, (sleepOf (loudAt c l sq)).2, 0)
set_option maxHeartbeats 2000000 in
theorem bSleep_pc (Y : YEnv) (σ : Sg) (ct : City) (l : List Band) (sq : Int) (hc : ct.Ok) (hl : BandsOk l) :
    PC Try.prog Y 26 [ctPV ct, bands l, I sq] σ (.tuple [I (sleepAns ct l sq).1, I (sleepAns ct l sq).2.1, I (sleepAns ct l sq).2.2]) (σ) := by
  refine PC_of_W Try.func26 rfl (by kernel_rfl) Try.ntmps26 (by simp) fun hcl hca => ?_
  have hr := hc.hr
  refine W_seq fun kz1 kq1 => ?_
  refine W_region [1, 2, 3] fun R hR => ?_   -- r0
  simp only [go_sem]
  refine hR _ _ (kq1 _ _ ?_); clear hR R; try clear kq1 kz1
  try simp only [go_sem]
  refine W_seq fun kz2 kq2 => ?_
  refine W_seq fun kz3 kq3 => ?_
  refine W_region [1, 2, 3, 9] fun R hR => ?_   -- r1
  simp only [go_sem]
  refine GCall_of (checkBands_pc Y _ ct l hc hl) ?_   -- t12
  simp only [go_sem]
  refine hR _ _ (kq3 _ _ ?_); clear hR R; try clear kq3 kz3
  try simp only [go_sem]
  refine W_seq fun kz4 kq4 => ?_
  refine W_region [1, 2, 3, 9, 14] fun R hR => ?_   -- r2
  simp only [go_sem]
  refine hR _ _ (kq4 _ _ ?_); clear hR R; try clear kq4 kz4
  try simp only [go_sem]
  refine W_cond rfl (fun c1 => ?_) (fun c1 => ?_)
  · -- c1 true
    try simp only [nrm] at c1
    refine W_seq fun kz5 kq5 => ?_
    refine W_region [6, 7, 8] fun R hR => ?_   -- r3
    simp only [go_sem]
    refine hR _ _ (kq5 _ _ ?_); clear hR R; try clear kq5 kz5
    try simp only [go_sem]
    refine W_ret ?_
    simp only [go_sem]
    refine ⟨.inr (by trivial), ?_⟩
    first | refine Fin_same hcl rfl (Wk_eq ?_ (by simp only [go_sem])) | refine Fin_self hcl rfl (Wk_eq ?_ (by simp only [go_sem]))
    try simp only [go_sem]
    all_goals
      simp [sleepAns, c1, *]
  · -- c1 false
    try simp only [nrm] at c1
    refine W_skip (kq2 _ _ ?_)
    refine W_seq fun kz6 kq6 => ?_
    refine W_seq fun kz7 kq7 => ?_
    refine W_region [1, 2, 3, 23] fun R hR => ?_   -- r4
    simp only [go_sem]
    try simp (disch := omega) only [wrapI]
    refine GCall_of (in_pc Y _ sq 0 _) ?_   -- t22
    simp only [go_sem]
    try simp (disch := omega) only [wrapI]
    refine hR _ _ (kq7 _ _ ?_); clear hR R; try clear kq7 kz7
    try simp only [go_sem]
    refine W_cond rfl (fun c2 => ?_) (fun c2 => ?_)
    · -- c2 true
      try simp only [nrm] at c2
      refine W_seq fun kz8 kq8 => ?_
      refine W_region [6, 7, 8] fun R hR => ?_   -- r5
      simp only [go_sem]
      refine hR _ _ (kq8 _ _ ?_); clear hR R; try clear kq8 kz8
      try simp only [go_sem]
      refine W_ret ?_
      simp only [go_sem]
      refine ⟨.inr (by trivial), ?_⟩
      first | refine Fin_same hcl rfl (Wk_eq ?_ (by simp only [go_sem])) | refine Fin_self hcl rfl (Wk_eq ?_ (by simp only [go_sem]))
      try simp only [go_sem]
      all_goals
        simp [sleepAns, c1, *]
    · -- c2 false
      try simp only [nrm] at c2
      refine W_skip (kq6 _ _ ?_)
      refine W_seq fun kz9 kq9 => ?_
      refine W_region [6, 7] fun R hR => ?_   -- r6
      simp only [go_sem]
      refine GCall_of (bsleep_pc Y _ ct l sq hc hl (chkBands_ok (chkAll_ok c1).2.2)) ?_   -- t28
      simp only [go_sem]
      refine hR _ _ (kq9 _ _ ?_); clear hR R; try clear kq9 kz9
      try simp only [go_sem]
      refine W_seq fun kz10 kq10 => ?_
      refine W_region [6, 7, 8] fun R hR => ?_   -- r7
      simp only [go_sem]
      refine hR _ _ (kq10 _ _ ?_); clear hR R; try clear kq10 kz10
      try simp only [go_sem]
      refine W_ret ?_
      simp only [go_sem]
      refine ⟨.inr (by trivial), ?_⟩
      first | refine Fin_same hcl rfl (Wk_eq ?_ (by simp only [go_sem])) | refine Fin_self hcl rfl (Wk_eq ?_ (by simp only [go_sem]))
      try simp only [go_sem]
      all_goals
        simp [sleepAns, c1, *]
set_option maxHeartbeats 2000000 in
theorem EqInts_pc (Y : YEnv) (σ : Sg) (xs ys : List Int) (o o2 : Own) (hx : xs.length < 2 ^ 50) :
    PC Try.prog Y 41 [.isl (xs.map I) o, .isl (ys.map I) o2] σ (.bool (decide (xs = ys))) (σ) := by
  refine PC_of_W Try.func41 rfl (by kernel_rfl) Try.ntmps41 (by simp) fun hcl hca => ?_
  refine W_seq fun kz1 kq1 => ?_
  refine W_region [0, 1] fun R hR => ?_   -- r0
  simp only [go_sem]
  refine hR _ _ (kq1 _ _ ?_); clear hR R; try clear kq1 kz1
  try simp only [go_sem]
  refine W_seq fun kz2 kq2 => ?_
  refine W_seq fun kz3 kq3 => ?_
  refine W_region [0, 1, 10] fun R hR => ?_   -- r1
  simp only [go_sem]
  refine hR _ _ (kq3 _ _ ?_); clear hR R; try clear kq3 kz3
  try simp only [go_sem]
  refine W_cond rfl (fun c1 => ?_) (fun c1 => ?_)
  · -- c1 true
    try simp only [nrm] at c1
    refine W_seq fun kz4 kq4 => ?_
    refine W_region [4] fun R hR => ?_   -- r2
    simp only [go_sem]
    refine hR _ _ (kq4 _ _ ?_); clear hR R; try clear kq4 kz4
    try simp only [go_sem]
    refine W_ret ?_
    simp only [go_sem]
    refine ⟨.inr (by trivial), ?_⟩
    first | refine Fin_same hcl rfl (Wk_eq ?_ (by simp only [go_sem])) | refine Fin_self hcl rfl (Wk_eq ?_ (by simp only [go_sem]))
    try simp only [go_sem]
    all_goals
      simp; intro h; subst h; exact c1 rfl
  · -- c1 false
    try simp only [nrm] at c1
    refine W_skip (kq2 _ _ ?_)
    refine W_seq fun kz5 kq5 => ?_
    refine W_seq fun kz6 kq6 => ?_
    refine W_region [0, 1, 5] fun R hR => ?_   -- r3
    simp only [go_sem]
    refine hR _ _ (kq6 _ _ ?_); clear hR R; try clear kq6 kz6
    try simp only [go_sem]
    refine W_block ?_
    refine W_loopS (α := Nat) (fun (i : Nat) => [(5, I i)]) (fun (i : Nat) => i ≤ xs.length ∧ xs.take i = ys.take i) (fun (i : Nat) => xs.length - i) (0) rfl (⟨Nat.zero_le _, rfl⟩) ?_
    rintro i ⟨hi, ht⟩
    refine W_seq fun kz7 kq7 => ?_
    refine W_seq fun kz8 kq8 => ?_
    refine W_region [0, 1, 5, 14] fun R hR => ?_   -- r4
    simp only [go_sem]
    refine hR _ _ (kq8 _ _ ?_); clear hR R; try clear kq8 kz8
    try simp only [go_sem]
    refine W_cond rfl (fun c2 => ?_) (fun c2 => ?_)
    · -- c2 true
      try simp only [nrm] at c2
      have hi' : i < xs.length := by first | assumption | omega
      obtain ⟨x, hxi⟩ : ∃ x, xs[i]? = some x := ⟨xs[i], by simp⟩
      obtain ⟨y, hyi⟩ : ∃ y, ys[i]? = some y := ⟨ys[i]'(by omega), by simp⟩
      refine W_skip (kq7 _ _ ?_)
      refine W_seq fun kz9 kq9 => ?_
      refine W_block ?_
      refine W_seq fun kz10 kq10 => ?_
      refine W_draw [0, 1, 5, 25] [0, 1, 2, 3, 4, 5, 6, 7, 8] [] [[], [], [0, 1], [0, 1, 2], [], [], [4, 5], [4, 5, 6], [0, 1, 2, 3, 4, 5, 6, 7]] mixed (by kernel_rfl) fun R hR => ?_   -- r6
      simp only [go_sem, hxi, hyi]
      refine hR _ _ (kq10 _ _ ?_); clear hR R; try clear kq10 kz10
      try simp only [go_sem, hxi, hyi]
      refine W_cond rfl (fun c3 => ?_) (fun c3 => ?_)
      · -- c3 true
        try simp only [nrm] at c3
        refine W_seq fun kz11 kq11 => ?_
        refine W_region [4] fun R hR => ?_   -- r7
        simp only [go_sem, hxi, hyi]
        refine hR _ _ (kq11 _ _ ?_); clear hR R; try clear kq11 kz11
        try simp only [go_sem, hxi, hyi]
        refine W_ret ?_
        simp only [go_sem, hxi, hyi]
        refine ⟨.inr (by trivial), ?_⟩
        first | refine Fin_same hcl rfl (Wk_eq ?_ (by simp only [go_sem])) | refine Fin_self hcl rfl (Wk_eq ?_ (by simp only [go_sem]))
        try simp only [go_sem]
        all_goals
          simp; intro h; subst h; rw [hxi] at hyi; injection hyi with h; exact c3 h
      · -- c3 false
        try simp only [nrm] at c3
        refine W_skip (kq9 _ _ ?_)
        refine W_region [0, 1, 5] fun R hR => ?_   -- r5
        simp only [go_sem, hxi, hyi]
        try simp (disch := omega) only [wrapI]
        refine hR _ _ ?_; clear hR R
        try simp only [go_sem, hxi, hyi]
        refine ⟨i + 1, ?_, by (try simp only []); omega, ?_⟩
        · first | exact Weak.refl | exact Weak.eq (by first | rfl | (simp only [go_sem]; done) | (simp only [go_sem]; rfl) | (simp [go_sem]; done) | (simp [go_sem]; omega)) (by first | rfl | (simp only [go_sem]; done) | (simp [go_sem]; done))
        · try dsimp only
          exact ⟨hi', by rw [List.take_add_one, List.take_add_one, ht, hxi, hyi, c3]⟩
    · -- c2 false
      try simp only [nrm] at c2
      have hie : i = xs.length := by omega
      subst hie
      have hxy : xs = ys := by rw [List.take_length] at ht; rw [c1, List.take_length] at ht; exact ht
      refine W_exit ?_
      simp only [go_sem]
      refine kq5 _ _ ?_
      refine W_seq fun kz12 kq12 => ?_
      refine W_region [4] fun R hR => ?_   -- r8
      simp only [go_sem]
      refine hR _ _ (kq12 _ _ ?_); clear hR R; try clear kq12 kz12
      try simp only [go_sem]
      refine W_ret ?_
      simp only [go_sem]
      refine ⟨.inr (by trivial), ?_⟩
      first | refine Fin_same hcl rfl (Wk_eq ?_ (by simp only [go_sem])) | refine Fin_self hcl rfl (Wk_eq ?_ (by simp only [go_sem]))
      try simp only [go_sem]
      all_goals
        simp [hxy]
end Go.Proofs.Ytnpamcpoaklgeaa
namespace Go.Proofs.Ytnpamcpoaklgeaa
open Go Go.RowKit
set_option maxRecDepth 100000
set_option maxHeartbeats 2000000 in
theorem rin_pc (Y : YEnv) (σ : Sg) (n lo hi : Int) :
    PC Try.prog Y 71 [I n, I lo, I hi] σ (.bool (inR n lo hi)) (σ) := by
  refine PC_of_W Try.func71 rfl (by kernel_rfl) Try.ntmps71 (by simp) fun hcl hca => ?_
  refine W_seq fun kz1 kq1 => ?_
  refine W_region [0, 1, 2] fun R hR => ?_   -- r0
  simp only [go_sem]
  refine hR _ _ (kq1 _ _ ?_); clear hR R; try clear kq1 kz1
  try simp only [go_sem]
  refine W_seq fun kz2 kq2 => ?_
  refine W_region [6] fun R hR => ?_   -- r1
  simp only [go_sem]
  refine GWant_split (fun g1 => ?_) (fun g1 => ?_)
  · try simp only [Bool.not_eq_true', Bool.not_eq_false'] at g1
    have n1 := g1; try simp only [nrm] at n1
    simp only [go_sem, g1]
    refine hR _ _ (kq2 _ _ ?_); clear hR R; try clear kq2 kz2
    try simp only [go_sem]
    refine W_ret ?_
    simp only [go_sem]
    refine ⟨.inr (by trivial), ?_⟩
    first | refine Fin_same hcl rfl (Wk_eq ?_ (by simp only [go_sem])) | refine Fin_self hcl rfl (Wk_eq ?_ (by simp only [go_sem]))
    try simp only [go_sem]
    all_goals
      simp only [inR]; first | rfl | (simp [*]; done) | (simp [*]; omega)
  · try simp only [Bool.not_eq_true', Bool.not_eq_false'] at g1
    have n1 := g1; try simp only [nrm] at n1
    simp only [go_sem, g1]
    refine hR _ _ (kq2 _ _ ?_); clear hR R; try clear kq2 kz2
    try simp only [go_sem]
    refine W_ret ?_
    simp only [go_sem]
    refine ⟨.inr (by trivial), ?_⟩
    first | refine Fin_same hcl rfl (Wk_eq ?_ (by simp only [go_sem])) | refine Fin_self hcl rfl (Wk_eq ?_ (by simp only [go_sem]))
    try simp only [go_sem]
    all_goals
      simp only [inR]; first | rfl | (simp [*]; done) | (simp [*]; omega)
set_option maxHeartbeats 2000000 in
theorem rin6_pc (Y : YEnv) (σ : Sg) (n lo hi : Int) :
    PC Try.prog Y 122 [I n, I lo, I hi] σ (.bool (inR n lo hi)) (σ) := by
  refine PC_of_W Try.func122 rfl (by kernel_rfl) Try.ntmps122 (by simp) fun hcl hca => ?_
  refine W_seq fun kz1 kq1 => ?_
  refine W_region [0, 1, 2] fun R hR => ?_   -- r0
  simp only [go_sem]
  refine hR _ _ (kq1 _ _ ?_); clear hR R; try clear kq1 kz1
  try simp only [go_sem]
  refine W_seq fun kz2 kq2 => ?_
  refine W_region [6] fun R hR => ?_   -- r1
  simp only [go_sem]
  refine GWant_split (fun g1 => ?_) (fun g1 => ?_)
  · try simp only [Bool.not_eq_true', Bool.not_eq_false'] at g1
    have n1 := g1; try simp only [nrm] at n1
    simp only [go_sem, g1]
    refine hR _ _ (kq2 _ _ ?_); clear hR R; try clear kq2 kz2
    try simp only [go_sem]
    refine W_ret ?_
    simp only [go_sem]
    refine ⟨.inr (by trivial), ?_⟩
    first | refine Fin_same hcl rfl (Wk_eq ?_ (by simp only [go_sem])) | refine Fin_self hcl rfl (Wk_eq ?_ (by simp only [go_sem]))
    try simp only [go_sem]
    all_goals
      simp only [inR]; first | rfl | (simp [*]; done) | (simp [*]; omega)
  · try simp only [Bool.not_eq_true', Bool.not_eq_false'] at g1
    have n1 := g1; try simp only [nrm] at n1
    simp only [go_sem, g1]
    refine hR _ _ (kq2 _ _ ?_); clear hR R; try clear kq2 kz2
    try simp only [go_sem]
    refine W_ret ?_
    simp only [go_sem]
    refine ⟨.inr (by trivial), ?_⟩
    first | refine Fin_same hcl rfl (Wk_eq ?_ (by simp only [go_sem])) | refine Fin_self hcl rfl (Wk_eq ?_ (by simp only [go_sem]))
    try simp only [go_sem]
    all_goals
      simp only [inR]; first | rfl | (simp [*]; done) | (simp [*]; omega)
set_option maxHeartbeats 2000000 in
theorem rother_pc (Y : YEnv) (σ : Sg) (s : Int × Int) (at' : Int) :
    PC Try.prog Y 64 [stPV s, I at'] σ (I (other s at')) (σ) := by
  refine PC_of_W Try.func64 rfl (by kernel_rfl) Try.ntmps64 (by simp) fun hcl hca => ?_
  refine W_seq fun kz1 kq1 => ?_
  refine W_region [1, 2] fun R hR => ?_   -- r0
  simp only [go_sem]
  refine hR _ _ (kq1 _ _ ?_); clear hR R; try clear kq1 kz1
  try simp only [go_sem]
  refine W_seq fun kz2 kq2 => ?_
  refine W_seq fun kz3 kq3 => ?_
  refine W_region [2, 5] fun R hR => ?_   -- r1
  simp only [go_sem]
  refine hR _ _ (kq3 _ _ ?_); clear hR R; try clear kq3 kz3
  try simp only [go_sem]
  refine W_block ?_
  refine W_seq fun kz4 kq4 => ?_
  refine W_region [2, 5, 6] fun R hR => ?_   -- r2
  simp only [go_sem]
  refine hR _ _ (kq4 _ _ ?_); clear hR R; try clear kq4 kz4
  try simp only [go_sem]
  refine W_cond rfl (fun c1 => ?_) (fun c1 => ?_)
  · -- c1 true
    try simp only [nrm] at c1
    refine W_seq fun kz5 kq5 => ?_
    refine W_region [4] fun R hR => ?_   -- r3
    simp only [go_sem]
    refine hR _ _ (kq5 _ _ ?_); clear hR R; try clear kq5 kz5
    try simp only [go_sem]
    refine W_ret ?_
    simp only [go_sem]
    refine ⟨.inr (by trivial), ?_⟩
    first | refine Fin_same hcl rfl (Wk_eq ?_ (by simp only [go_sem])) | refine Fin_self hcl rfl (Wk_eq ?_ (by simp only [go_sem]))
    try simp only [go_sem]
    all_goals
      simp_all [other]
  · -- c1 false
    try simp only [nrm] at c1
    refine W_seq fun kz6 kq6 => ?_
    refine W_region [2, 12] fun R hR => ?_   -- r4
    simp only [go_sem]
    refine hR _ _ (kq6 _ _ ?_); clear hR R; try clear kq6 kz6
    try simp only [go_sem]
    refine W_cond rfl (fun c2 => ?_) (fun c2 => ?_)
    · -- c2 true
      try simp only [nrm] at c2
      refine W_seq fun kz7 kq7 => ?_
      refine W_region [4] fun R hR => ?_   -- r5
      simp only [go_sem]
      refine hR _ _ (kq7 _ _ ?_); clear hR R; try clear kq7 kz7
      try simp only [go_sem]
      refine W_ret ?_
      simp only [go_sem]
      refine ⟨.inr (by trivial), ?_⟩
      first | refine Fin_same hcl rfl (Wk_eq ?_ (by simp only [go_sem])) | refine Fin_self hcl rfl (Wk_eq ?_ (by simp only [go_sem]))
      try simp only [go_sem]
      all_goals
        simp_all [other]
    · -- c2 false
      try simp only [nrm] at c2
      refine W_skip (kq2 _ _ ?_)
      refine W_seq fun kz8 kq8 => ?_
      refine W_region [4] fun R hR => ?_   -- r6
      simp only [go_sem]
      refine hR _ _ (kq8 _ _ ?_); clear hR R; try clear kq8 kz8
      try simp only [go_sem]
      refine W_ret ?_
      simp only [go_sem]
      refine ⟨.inr (by trivial), ?_⟩
      first | refine Fin_same hcl rfl (Wk_eq ?_ (by simp only [go_sem])) | refine Fin_self hcl rfl (Wk_eq ?_ (by simp only [go_sem]))
      try simp only [go_sem]
      all_goals
        simp_all [other]
set_option maxHeartbeats 2000000 in
theorem rspan_pc (Y : YEnv) (σ : Sg) (lo hi m : Int) :
    PC Try.prog Y 147 [.agg [I lo, I hi], I m] σ (I (chkSpan lo hi m)) (σ) := by
  refine PC_of_W Try.func147 rfl (by kernel_rfl) Try.ntmps147 (by simp) fun hcl hca => ?_
  refine W_seq fun kz1 kq1 => ?_
  refine W_region [1, 2] fun R hR => ?_   -- r0
  simp only [go_sem]
  refine hR _ _ (kq1 _ _ ?_); clear hR R; try clear kq1 kz1
  try simp only [go_sem]
  refine W_seq fun kz2 kq2 => ?_
  refine W_seq fun kz3 kq3 => ?_
  refine W_region [2, 16] fun R hR => ?_   -- r1
  simp only [go_sem]
  refine GCall_of (rin6_pc Y _ lo 0 m) ?_   -- t8
  simp only [go_sem]
  refine GWant_split (fun g1 => ?_) (fun g1 => ?_)
  · try simp only [Bool.not_eq_true', Bool.not_eq_false'] at g1
    have n1 := g1; try simp only [nrm] at n1
    simp only [go_sem, g1]
    refine GCall_of (rin6_pc Y _ hi 0 m) ?_   -- t14
    simp only [go_sem, g1]
    refine hR _ _ (kq3 _ _ ?_); clear hR R; try clear kq3 kz3
    try simp only [go_sem]
    refine W_cond rfl (fun c1 => ?_) (fun c1 => ?_)
    · -- c1 true
      try simp only [nrm] at c1
      refine W_seq fun kz4 kq4 => ?_
      refine W_region [4] fun R hR => ?_   -- r2
      simp only [go_sem]
      refine hR _ _ (kq4 _ _ ?_); clear hR R; try clear kq4 kz4
      try simp only [go_sem]
      refine W_ret ?_
      simp only [go_sem]
      refine ⟨.inr (by trivial), ?_⟩
      first | refine Fin_same hcl rfl (Wk_eq ?_ (by simp only [go_sem])) | refine Fin_self hcl rfl (Wk_eq ?_ (by simp only [go_sem]))
      try simp only [go_sem]
      all_goals
        first | rfl | (simp_all; done) | (simp_all; omega) | (simp only [chkSpan]; (repeat' split) <;> ((first | rfl | omega | (simp_all; done) | (simp_all; omega))))
    · -- c1 false
      try simp only [nrm] at c1
      refine W_skip (kq2 _ _ ?_)
      refine W_seq fun kz5 kq5 => ?_
      refine W_seq fun kz6 kq6 => ?_
      refine W_region [21] fun R hR => ?_   -- r3
      simp only [go_sem]
      refine hR _ _ (kq6 _ _ ?_); clear hR R; try clear kq6 kz6
      try simp only [go_sem]
      refine W_cond rfl (fun c2 => ?_) (fun c2 => ?_)
      · -- c2 true
        try simp only [nrm] at c2
        refine W_seq fun kz7 kq7 => ?_
        refine W_region [4] fun R hR => ?_   -- r4
        simp only [go_sem]
        refine hR _ _ (kq7 _ _ ?_); clear hR R; try clear kq7 kz7
        try simp only [go_sem]
        refine W_ret ?_
        simp only [go_sem]
        refine ⟨.inr (by trivial), ?_⟩
        first | refine Fin_same hcl rfl (Wk_eq ?_ (by simp only [go_sem])) | refine Fin_self hcl rfl (Wk_eq ?_ (by simp only [go_sem]))
        try simp only [go_sem]
        all_goals
          first | rfl | (simp_all; done) | (simp_all; omega) | (simp only [chkSpan]; (repeat' split) <;> ((first | rfl | omega | (simp_all; done) | (simp_all; omega))))
      · -- c2 false
        try simp only [nrm] at c2
        refine W_skip (kq5 _ _ ?_)
        refine W_seq fun kz8 kq8 => ?_
        refine W_region [4] fun R hR => ?_   -- r5
        simp only [go_sem]
        refine hR _ _ (kq8 _ _ ?_); clear hR R; try clear kq8 kz8
        try simp only [go_sem]
        refine W_ret ?_
        simp only [go_sem]
        refine ⟨.inr (by trivial), ?_⟩
        first | refine Fin_same hcl rfl (Wk_eq ?_ (by simp only [go_sem])) | refine Fin_self hcl rfl (Wk_eq ?_ (by simp only [go_sem]))
        try simp only [go_sem]
        all_goals
          first | rfl | (simp_all; done) | (simp_all; omega) | (simp only [chkSpan]; (repeat' split) <;> ((first | rfl | omega | (simp_all; done) | (simp_all; omega))))
  · try simp only [Bool.not_eq_true', Bool.not_eq_false'] at g1
    have n1 := g1; try simp only [nrm] at n1
    simp only [go_sem, g1]
    refine hR _ _ (kq3 _ _ ?_); clear hR R; try clear kq3 kz3
    try simp only [go_sem]
    refine W_cond_true rfl ?_
    refine W_seq fun kz9 kq9 => ?_
    refine W_region [4] fun R hR => ?_   -- r2
    simp only [go_sem]
    refine hR _ _ (kq9 _ _ ?_); clear hR R; try clear kq9 kz9
    try simp only [go_sem]
    refine W_ret ?_
    simp only [go_sem]
    refine ⟨.inr (by trivial), ?_⟩
    first | refine Fin_same hcl rfl (Wk_eq ?_ (by simp only [go_sem])) | refine Fin_self hcl rfl (Wk_eq ?_ (by simp only [go_sem]))
    try simp only [go_sem]
    all_goals
      first | rfl | (simp_all; done) | (simp_all; omega) | (simp only [chkSpan]; (repeat' split) <;> ((first | rfl | omega | (simp_all; done) | (simp_all; omega))))
set_option maxHeartbeats 2000000 in
theorem rgroup_pc (Y : YEnv) (σ : Sg) (t : Town) (g : Group) (hr : t.rooms.length < 2 ^ 50) (hs : t.streets.length < 2 ^ 50) (hp : g.path.length < 2 ^ 50) :
    PC Try.prog Y 130 [twPV t, grPV g] σ (I (chkGroup t g)) (σ) := by
  refine PC_of_W Try.func130 rfl (by kernel_rfl) Try.ntmps130 (by simp) fun hcl hca => ?_
  obtain ⟨res, hres⟩ : ∃ r, chkGroup t g = r := ⟨_, rfl⟩
  rw [hres]
  refine W_seq fun kz1 kq1 => ?_
  refine W_region [2, 3] fun R hR => ?_   -- r0
  simp only [go_sem]
  refine hR _ _ (kq1 _ _ ?_); clear hR R; try clear kq1 kz1
  try simp only [go_sem]
  refine W_seq fun kz2 kq2 => ?_
  refine W_seq fun kz3 kq3 => ?_
  refine W_region [2, 3, 5] fun R hR => ?_   -- r1
  simp only [go_sem]
  refine GCall_of (rspan_pc Y _ g.slo g.shi 1000000) ?_   -- t11
  simp only [go_sem]
  refine hR _ _ (kq3 _ _ ?_); clear hR R; try clear kq3 kz3
  try simp only [go_sem]
  refine W_seq fun kz4 kq4 => ?_
  refine W_region [2, 3, 5, 13] fun R hR => ?_   -- r2
  simp only [go_sem]
  refine hR _ _ (kq4 _ _ ?_); clear hR R; try clear kq4 kz4
  try simp only [go_sem]
  refine W_cond rfl (fun c1 => ?_) (fun c1 => ?_)
  · -- c1 true
    try simp only [nrm] at c1
    refine W_seq fun kz5 kq5 => ?_
    refine W_region [4] fun R hR => ?_   -- r3
    simp only [go_sem]
    refine hR _ _ (kq5 _ _ ?_); clear hR R; try clear kq5 kz5
    try simp only [go_sem]
    refine W_ret ?_
    simp only [go_sem]
    refine ⟨.inr (by trivial), ?_⟩
    first | refine Fin_same hcl rfl (Wk_eq ?_ (by simp only [go_sem])) | refine Fin_self hcl rfl (Wk_eq ?_ (by simp only [go_sem]))
    try simp only [go_sem]
    all_goals
      rw [← hres]; simp [chkGroup, *]
  · -- c1 false
    try simp only [nrm] at c1
    refine W_skip (kq2 _ _ ?_)
    refine W_seq fun kz6 kq6 => ?_
    refine W_seq fun kz7 kq7 => ?_
    refine W_region [2, 3, 6] fun R hR => ?_   -- r4
    simp only [go_sem]
    refine GCall_of (rspan_pc Y _ g.alo g.ahi 96) ?_   -- t17
    simp only [go_sem]
    refine hR _ _ (kq7 _ _ ?_); clear hR R; try clear kq7 kz7
    try simp only [go_sem]
    refine W_seq fun kz8 kq8 => ?_
    refine W_region [2, 3, 6, 19] fun R hR => ?_   -- r5
    simp only [go_sem]
    refine hR _ _ (kq8 _ _ ?_); clear hR R; try clear kq8 kz8
    try simp only [go_sem]
    refine W_cond rfl (fun c2 => ?_) (fun c2 => ?_)
    · -- c2 true
      try simp only [nrm] at c2
      refine W_seq fun kz9 kq9 => ?_
      refine W_region [4] fun R hR => ?_   -- r6
      simp only [go_sem]
      refine hR _ _ (kq9 _ _ ?_); clear hR R; try clear kq9 kz9
      try simp only [go_sem]
      refine W_ret ?_
      simp only [go_sem]
      refine ⟨.inr (by trivial), ?_⟩
      first | refine Fin_same hcl rfl (Wk_eq ?_ (by simp only [go_sem])) | refine Fin_self hcl rfl (Wk_eq ?_ (by simp only [go_sem]))
      try simp only [go_sem]
      all_goals
        rw [← hres]; simp [chkGroup, *]
    · -- c2 false
      try simp only [nrm] at c2
      refine W_skip (kq6 _ _ ?_)
      refine W_seq fun kz10 kq10 => ?_
      refine W_seq fun kz11 kq11 => ?_
      refine W_region [2, 3, 24] fun R hR => ?_   -- r7
      simp only [go_sem]
      refine GCall_of (rin6_pc Y _ g.stay 1 96) ?_   -- t23
      simp only [go_sem]
      refine hR _ _ (kq11 _ _ ?_); clear hR R; try clear kq11 kz11
      try simp only [go_sem]
      refine W_cond rfl (fun c3 => ?_) (fun c3 => ?_)
      · -- c3 true
        try simp only [nrm] at c3
        refine W_seq fun kz12 kq12 => ?_
        refine W_region [4] fun R hR => ?_   -- r8
        simp only [go_sem]
        refine hR _ _ (kq12 _ _ ?_); clear hR R; try clear kq12 kz12
        try simp only [go_sem]
        refine W_ret ?_
        simp only [go_sem]
        refine ⟨.inr (by trivial), ?_⟩
        first | refine Fin_same hcl rfl (Wk_eq ?_ (by simp only [go_sem])) | refine Fin_self hcl rfl (Wk_eq ?_ (by simp only [go_sem]))
        try simp only [go_sem]
        all_goals
          rw [← hres]; simp [chkGroup, *]
      · -- c3 false
        try simp only [nrm] at c3
        refine W_skip (kq10 _ _ ?_)
        refine W_seq fun kz13 kq13 => ?_
        refine W_seq fun kz14 kq14 => ?_
        refine W_region [2, 3, 32] fun R hR => ?_   -- r9
        simp only [go_sem]
        try simp (disch := omega) only [wrapI]
        refine GCall_of (rin6_pc Y _ g.first 0 _) ?_   -- t31
        simp only [go_sem]
        try simp (disch := omega) only [wrapI]
        refine hR _ _ (kq14 _ _ ?_); clear hR R; try clear kq14 kz14
        try simp only [go_sem]
        refine W_cond rfl (fun c4 => ?_) (fun c4 => ?_)
        · -- c4 true
          try simp only [nrm] at c4
          refine W_seq fun kz15 kq15 => ?_
          refine W_region [4] fun R hR => ?_   -- r10
          simp only [go_sem]
          refine hR _ _ (kq15 _ _ ?_); clear hR R; try clear kq15 kz15
          try simp only [go_sem]
          refine W_ret ?_
          simp only [go_sem]
          refine ⟨.inr (by trivial), ?_⟩
          first | refine Fin_same hcl rfl (Wk_eq ?_ (by simp only [go_sem])) | refine Fin_self hcl rfl (Wk_eq ?_ (by simp only [go_sem]))
          try simp only [go_sem]
          all_goals
            rw [← hres]; simp [chkGroup, *]
        · -- c4 false
          try simp only [nrm] at c4
          refine W_skip (kq13 _ _ ?_)
          refine W_seq fun kz16 kq16 => ?_
          refine W_seq fun kz17 kq17 => ?_
          refine W_region [2, 3, 36] fun R hR => ?_   -- r11
          simp only [go_sem]
          refine hR _ _ (kq17 _ _ ?_); clear hR R; try clear kq17 kz17
          try simp only [go_sem]
          refine W_cond rfl (fun c5 => ?_) (fun c5 => ?_)
          · -- c5 true
            try simp only [nrm] at c5
            refine W_seq fun kz18 kq18 => ?_
            refine W_region [4] fun R hR => ?_   -- r12
            simp only [go_sem]
            refine hR _ _ (kq18 _ _ ?_); clear hR R; try clear kq18 kz18
            try simp only [go_sem]
            refine W_ret ?_
            simp only [go_sem]
            refine ⟨.inr (by trivial), ?_⟩
            first | refine Fin_same hcl rfl (Wk_eq ?_ (by simp only [go_sem])) | refine Fin_self hcl rfl (Wk_eq ?_ (by simp only [go_sem]))
            try simp only [go_sem]
            all_goals
              rw [← hres]; have d5 : g.path.length > 12 := by omega
              simp [chkGroup, *]
          · -- c5 false
            try simp only [nrm] at c5
            refine W_skip (kq16 _ _ ?_)
            refine W_seq fun kz19 kq19 => ?_
            refine W_region [2, 3, 7] fun R hR => ?_   -- r13
            simp only [go_sem]
            refine hR _ _ (kq19 _ _ ?_); clear hR R; try clear kq19 kz19
            try simp only [go_sem]
            refine W_seq fun kz20 kq20 => ?_
            refine W_seq fun kz21 kq21 => ?_
            refine W_region [2, 3, 7, 8] fun R hR => ?_   -- r14
            simp only [go_sem]
            refine hR _ _ (kq21 _ _ ?_); clear hR R; try clear kq21 kz21
            try simp only [go_sem]
            refine W_block ?_
            refine W_loopS (α := Nat × Int) (fun ⟨i, at'⟩ => [(7, I at'), (8, I i)]) (fun ⟨i, at'⟩ => i ≤ g.path.length ∧ res = chkPath t.streets (g.path.drop i) at') (fun ⟨i, at'⟩ => g.path.length - i) ((0, g.first)) rfl (⟨Nat.zero_le _, by rw [← hres]; have d5 : ¬ g.path.length > 12 := (by omega); simp [chkGroup, *]⟩) ?_
            rintro ⟨i, at'⟩ ⟨hi, hinv⟩
            refine W_seq fun kz22 kq22 => ?_
            refine W_seq fun kz23 kq23 => ?_
            refine W_region [2, 3, 7, 8, 43] fun R hR => ?_   -- r15
            simp only [go_sem]
            refine hR _ _ (kq23 _ _ ?_); clear hR R; try clear kq23 kz23
            try simp only [go_sem]
            refine W_cond rfl (fun c6 => ?_) (fun c6 => ?_)
            · -- c6 true
              try simp only [nrm] at c6
              have hi' : i < g.path.length := by first | assumption | omega
              obtain ⟨x, hx⟩ : ∃ x, g.path[i]? = some x := ⟨g.path[i], by simp [hi']⟩
              have hdrop : g.path.drop i = x :: g.path.drop (i + 1) := by
                rw [List.drop_eq_getElem_cons hi']; congr 1; exact (List.getElem?_eq_some_iff.1 hx).2
              rw [hdrop] at hinv
              simp only [chkPath] at hinv
              refine W_skip (kq22 _ _ ?_)
              refine W_seq fun kz24 kq24 => ?_
              refine W_block ?_
              refine W_seq fun kz25 kq25 => ?_
              refine W_seq fun kz26 kq26 => ?_
              refine W_draw [2, 3, 7, 8, 56] [0, 1, 2, 3, 4, 5, 6, 7, 8, 9, 10] [] [[], [0], [], [0, 1, 2], [0, 1, 2, 3], [], [5], [5, 6], [5, 6, 7], [0, 1, 2, 3, 4, 5, 6, 7, 8], [0, 1, 2, 3, 4, 5, 6, 7, 8, 9]] mixed (by kernel_rfl) fun R hR => ?_   -- r17
              simp only [go_sem, hx]
              try simp (disch := omega) only [wrapI]
              refine GCall_of (rin6_pc Y _ x 0 _) ?_   -- t55
              simp only [go_sem, hx]
              try simp (disch := omega) only [wrapI]
              refine hR _ _ (kq26 _ _ ?_); clear hR R; try clear kq26 kz26
              try simp only [go_sem, hx]
              refine W_cond rfl (fun c7 => ?_) (fun c7 => ?_)
              · -- c7 true
                try simp only [nrm] at c7
                refine W_seq fun kz27 kq27 => ?_
                refine W_region [4] fun R hR => ?_   -- r18
                simp only [go_sem, hx]
                refine hR _ _ (kq27 _ _ ?_); clear hR R; try clear kq27 kz27
                try simp only [go_sem, hx]
                refine W_ret ?_
                simp only [go_sem, hx]
                refine ⟨.inr (by trivial), ?_⟩
                first | refine Fin_same hcl rfl (Wk_eq ?_ (by simp only [go_sem])) | refine Fin_self hcl rfl (Wk_eq ?_ (by simp only [go_sem]))
                try simp only [go_sem]
                all_goals
                  rw [hinv]; simp [c7]
              · -- c7 false
                try simp only [nrm] at c7
                have hin : 0 ≤ x ∧ x ≤ (t.streets.length : Int) - 1 := by simpa [inR] using c7
                obtain ⟨n, rfl⟩ : ∃ n : Nat, x = (n : Int) := ⟨x.toNat, by omega⟩
                obtain ⟨s, hs'⟩ : ∃ s, t.streets[n]? = some s := ⟨t.streets[n]'(by omega), by simp⟩
                simp only [c7, Int.toNat_natCast, hs', Bool.not_true, Bool.false_eq_true, if_false] at hinv
                refine W_skip (kq25 _ _ ?_)
                refine W_seq fun kz28 kq28 => ?_
                refine W_draw [2, 3, 7, 8] [0, 1, 2, 3, 4, 5, 6, 7, 8, 9, 10, 11] [] [[], [0], [], [2], [], [2, 3, 4], [2, 3, 4, 5], [0, 1, 2, 3, 4, 5, 6], [0, 1, 2, 3, 4, 5, 6, 7], [], [0, 1, 2, 3, 4, 5, 6, 7, 8, 9], [0, 1, 2, 3, 4, 5, 6, 7, 8, 9, 10]] mixed (by kernel_rfl) fun R hR => ?_   -- r19
                simp only [go_sem, hx, hs']
                refine GCall_of (rother_pc Y _ s at') ?_   -- t67
                simp only [go_sem, hx, hs']
                refine hR _ _ (kq28 _ _ ?_); clear hR R; try clear kq28 kz28
                try simp only [go_sem, hx, hs']
                refine W_seq fun kz29 kq29 => ?_
                refine W_region [2, 3, 7, 8, 69] fun R hR => ?_   -- r20
                simp only [go_sem, hx, hs']
                refine hR _ _ (kq29 _ _ ?_); clear hR R; try clear kq29 kz29
                try simp only [go_sem, hx, hs']
                refine W_cond rfl (fun c8 => ?_) (fun c8 => ?_)
                · -- c8 true
                  try simp only [nrm] at c8
                  refine W_seq fun kz30 kq30 => ?_
                  refine W_region [4] fun R hR => ?_   -- r21
                  simp only [go_sem, hx, hs']
                  refine hR _ _ (kq30 _ _ ?_); clear hR R; try clear kq30 kz30
                  try simp only [go_sem, hx, hs']
                  refine W_ret ?_
                  simp only [go_sem, hx, hs']
                  refine ⟨.inr (by trivial), ?_⟩
                  first | refine Fin_same hcl rfl (Wk_eq ?_ (by simp only [go_sem])) | refine Fin_self hcl rfl (Wk_eq ?_ (by simp only [go_sem]))
                  try simp only [go_sem]
                  all_goals
                    rw [hinv, if_pos (by omega)]
                · -- c8 false
                  try simp only [nrm] at c8
                  refine W_skip (kq24 _ _ ?_)
                  refine W_region [2, 3, 7, 8] fun R hR => ?_   -- r16
                  simp only [go_sem, hx, hs']
                  try simp (disch := omega) only [wrapI]
                  refine hR _ _ ?_; clear hR R
                  try simp only [go_sem, hx, hs']
                  refine ⟨(i + 1, other s at'), ?_, by (try simp only []); omega, ?_⟩
                  · first | exact Weak.refl | exact Weak.eq (by first | rfl | (simp only [go_sem]; done) | (simp only [go_sem]; rfl) | (simp [go_sem]; done) | (simp [go_sem]; omega)) (by first | rfl | (simp only [go_sem]; done) | (simp [go_sem]; done))
                  · try dsimp only
                    exact ⟨hi', by rw [hinv, if_neg (by omega)]⟩
            · -- c6 false
              try simp only [nrm] at c6
              have hdrop : g.path.drop i = [] := List.drop_eq_nil_of_le (by omega)
              rw [hdrop] at hinv
              simp only [chkPath] at hinv
              refine W_exit ?_
              simp only [go_sem]
              refine kq20 _ _ ?_
              refine W_seq fun kz31 kq31 => ?_
              refine W_region [4] fun R hR => ?_   -- r22
              simp only [go_sem]
              refine hR _ _ (kq31 _ _ ?_); clear hR R; try clear kq31 kz31
              try simp only [go_sem]
              refine W_ret ?_
              simp only [go_sem]
              refine ⟨.inr (by trivial), ?_⟩
              first | refine Fin_same hcl rfl (Wk_eq ?_ (by simp only [go_sem])) | refine Fin_self hcl rfl (Wk_eq ?_ (by simp only [go_sem]))
              try simp only [go_sem]
              all_goals
                rw [hinv]
set_option maxHeartbeats 2000000 in
theorem rtown_pc (Y : YEnv) (σ : Sg) (t : Town) (hr : t.rooms.length < 2 ^ 50) (hs : t.streets.length < 2 ^ 50) (hg : t.groups.length < 2 ^ 50) (hp : ∀ g, g ∈ t.groups → g.path.length < 2 ^ 50) :
    PC Try.prog Y 98 [twPV t] σ (I (chkTown t)) (σ) := by
  refine PC_of_W Try.func98 rfl (by kernel_rfl) Try.ntmps98 (by simp) fun hcl hca => ?_
  obtain ⟨res, hres⟩ : ∃ r, chkTown t = r := ⟨_, rfl⟩
  rw [hres]
  refine W_seq fun kz1 kq1 => ?_
  refine W_region [1] fun R hR => ?_   -- r0
  simp only [go_sem]
  refine hR _ _ (kq1 _ _ ?_); clear hR R; try clear kq1 kz1
  try simp only [go_sem]
  refine W_seq fun kz2 kq2 => ?_
  refine W_seq fun kz3 kq3 => ?_
  refine W_region [1, 11] fun R hR => ?_   -- r1
  simp only [go_sem]
  refine hR _ _ (kq3 _ _ ?_); clear hR R; try clear kq3 kz3
  try simp only [go_sem]
  refine W_cond rfl (fun c1 => ?_) (fun c1 => ?_)
  · -- c1 true
    try simp only [nrm] at c1
    refine W_seq fun kz4 kq4 => ?_
    refine W_region [2] fun R hR => ?_   -- r2
    simp only [go_sem]
    refine hR _ _ (kq4 _ _ ?_); clear hR R; try clear kq4 kz4
    try simp only [go_sem]
    refine W_ret ?_
    simp only [go_sem]
    refine ⟨.inr (by trivial), ?_⟩
    first | refine Fin_same hcl rfl (Wk_eq ?_ (by simp only [go_sem])) | refine Fin_self hcl rfl (Wk_eq ?_ (by simp only [go_sem]))
    try simp only [go_sem]
    all_goals
      rw [← hres]; have d1 : t.rooms.length = 0 := by omega
      simp [chkTown, d1]
  · -- c1 false
    try simp only [nrm] at c1
    refine W_skip (kq2 _ _ ?_)
    refine W_seq fun kz5 kq5 => ?_
    refine W_seq fun kz6 kq6 => ?_
    refine W_region [1, 15] fun R hR => ?_   -- r3
    simp only [go_sem]
    refine hR _ _ (kq6 _ _ ?_); clear hR R; try clear kq6 kz6
    try simp only [go_sem]
    refine W_cond rfl (fun c2 => ?_) (fun c2 => ?_)
    · -- c2 true
      try simp only [nrm] at c2
      refine W_seq fun kz7 kq7 => ?_
      refine W_region [2] fun R hR => ?_   -- r4
      simp only [go_sem]
      refine hR _ _ (kq7 _ _ ?_); clear hR R; try clear kq7 kz7
      try simp only [go_sem]
      refine W_ret ?_
      simp only [go_sem]
      refine ⟨.inr (by trivial), ?_⟩
      first | refine Fin_same hcl rfl (Wk_eq ?_ (by simp only [go_sem])) | refine Fin_self hcl rfl (Wk_eq ?_ (by simp only [go_sem]))
      try simp only [go_sem]
      all_goals
        rw [← hres]; have d2 : t.rooms.length > 12 := by omega
        have d1 : t.rooms.length ≠ 0 := by omega
        simp [chkTown, *]
    · -- c2 false
      try simp only [nrm] at c2
      refine W_skip (kq5 _ _ ?_)
      refine W_seq fun kz8 kq8 => ?_
      refine W_seq fun kz9 kq9 => ?_
      refine W_region [1, 3] fun R hR => ?_   -- r5
      simp only [go_sem]
      refine hR _ _ (kq9 _ _ ?_); clear hR R; try clear kq9 kz9
      try simp only [go_sem]
      refine W_block ?_
      refine W_loopS (α := Nat) (fun (i : Nat) => [(3, I i)]) (fun (i : Nat) => i ≤ t.rooms.length ∧ allIn 0 1000000 (t.rooms.take i) = true) (fun (i : Nat) => t.rooms.length - i) (0) rfl (⟨Nat.zero_le _, rfl⟩) ?_
      rintro i ⟨hi, hall⟩
      refine W_seq fun kz10 kq10 => ?_
      refine W_seq fun kz11 kq11 => ?_
      refine W_region [1, 3, 20] fun R hR => ?_   -- r6
      simp only [go_sem]
      refine hR _ _ (kq11 _ _ ?_); clear hR R; try clear kq11 kz11
      try simp only [go_sem]
      refine W_cond rfl (fun c3 => ?_) (fun c3 => ?_)
      · -- c3 true
        try simp only [nrm] at c3
        have hi' : i < t.rooms.length := by first | assumption | omega
        obtain ⟨x, hx⟩ : ∃ x, t.rooms[i]? = some x := ⟨t.rooms[i], by simp [hi']⟩
        have hdrop : t.rooms.drop i = x :: t.rooms.drop (i + 1) := by
          rw [List.drop_eq_getElem_cons hi']; congr 1; exact (List.getElem?_eq_some_iff.1 hx).2
        refine W_skip (kq10 _ _ ?_)
        refine W_seq fun kz12 kq12 => ?_
        refine W_block ?_
        refine W_seq fun kz13 kq13 => ?_
        refine W_region [1, 3, 29] fun R hR => ?_   -- r8
        simp only [go_sem, hx]
        refine GCall_of (rin6_pc Y _ x 0 1000000) ?_   -- t28
        simp only [go_sem, hx]
        refine hR _ _ (kq13 _ _ ?_); clear hR R; try clear kq13 kz13
        try simp only [go_sem, hx]
        refine W_cond rfl (fun c4 => ?_) (fun c4 => ?_)
        · -- c4 true
          try simp only [nrm] at c4
          refine W_seq fun kz14 kq14 => ?_
          refine W_region [2] fun R hR => ?_   -- r9
          simp only [go_sem, hx]
          refine hR _ _ (kq14 _ _ ?_); clear hR R; try clear kq14 kz14
          try simp only [go_sem, hx]
          refine W_ret ?_
          simp only [go_sem, hx]
          refine ⟨.inr (by trivial), ?_⟩
          first | refine Fin_same hcl rfl (Wk_eq ?_ (by simp only [go_sem])) | refine Fin_self hcl rfl (Wk_eq ?_ (by simp only [go_sem]))
          try simp only [go_sem]
          all_goals
            have hall : allIn 0 1000000 t.rooms = false := by
              rw [Bool.eq_false_iff]
              intro hh
              have := List.all_eq_true.1 hh x (List.mem_of_getElem? hx)
              rw [this] at c4; cases c4
            rw [← hres]; have d2 : ¬ t.rooms.length > 12 := by omega
            have d1 : t.rooms.length ≠ 0 := by omega
            simp [chkTown, *]
        · -- c4 false
          try simp only [nrm] at c4
          refine W_skip (kq12 _ _ ?_)
          refine W_region [1, 3] fun R hR => ?_   -- r7
          simp only [go_sem, hx]
          try simp (disch := omega) only [wrapI]
          refine hR _ _ ?_; clear hR R
          try simp only [go_sem, hx]
          refine ⟨i + 1, ?_, by (try simp only []); omega, ?_⟩
          · first | exact Weak.refl | exact Weak.eq (by first | rfl | (simp only [go_sem]; done) | (simp only [go_sem]; rfl) | (simp [go_sem]; done) | (simp [go_sem]; omega)) (by first | rfl | (simp only [go_sem]; done) | (simp [go_sem]; done))
          · try dsimp only
            refine ⟨hi', ?_⟩
            rw [List.take_add_one, hx]
            unfold allIn at hall ⊢
            rw [List.all_append, hall]
            simpa using c4
      · -- c3 false
        try simp only [nrm] at c3
        have hie : i = t.rooms.length := by omega
        subst hie
        rw [List.take_length] at hall
        have d2 : ¬ t.rooms.length > 12 := by omega
        have d1 : t.rooms.length ≠ 0 := by omega
        refine W_exit ?_
        simp only [go_sem]
        refine kq8 _ _ ?_
        refine W_seq fun kz15 kq15 => ?_
        refine W_seq fun kz16 kq16 => ?_
        refine W_region [1, 33] fun R hR => ?_   -- r10
        simp only [go_sem]
        refine hR _ _ (kq16 _ _ ?_); clear hR R; try clear kq16 kz16
        try simp only [go_sem]
        refine W_cond rfl (fun c5 => ?_) (fun c5 => ?_)
        · -- c5 true
          try simp only [nrm] at c5
          refine W_seq fun kz17 kq17 => ?_
          refine W_region [2] fun R hR => ?_   -- r11
          simp only [go_sem]
          refine hR _ _ (kq17 _ _ ?_); clear hR R; try clear kq17 kz17
          try simp only [go_sem]
          refine W_ret ?_
          simp only [go_sem]
          refine ⟨.inr (by trivial), ?_⟩
          first | refine Fin_same hcl rfl (Wk_eq ?_ (by simp only [go_sem])) | refine Fin_self hcl rfl (Wk_eq ?_ (by simp only [go_sem]))
          try simp only [go_sem]
          all_goals
            rw [← hres]; have d5 : t.streets.length > 12 := by omega
            simp [chkTown, *]
        · -- c5 false
          try simp only [nrm] at c5
          refine W_skip (kq15 _ _ ?_)
          refine W_seq fun kz18 kq18 => ?_
          refine W_seq fun kz19 kq19 => ?_
          refine W_region [1, 4] fun R hR => ?_   -- r12
          simp only [go_sem]
          refine hR _ _ (kq19 _ _ ?_); clear hR R; try clear kq19 kz19
          try simp only [go_sem]
          refine W_block ?_
          have hq : res = if chkStreets t.rooms.length t.streets ≠ 0 then chkStreets t.rooms.length t.streets else if !(inR t.steps 0 96) then 2 else if t.groups.length > 12 then 5 else chkGroups t t.groups := by
            have d5 : ¬ t.streets.length > 12 := by omega
            rw [← hres]; simp [chkTown, *]
          refine W_loopS (α := Nat) (fun (j : Nat) => [(4, I j)]) (fun (j : Nat) => j ≤ t.streets.length ∧ chkStreets t.rooms.length t.streets = chkStreets t.rooms.length (t.streets.drop j)) (fun (j : Nat) => t.streets.length - j) (0) rfl (⟨Nat.zero_le _, rfl⟩) ?_
          rintro j ⟨hi, hst⟩
          refine W_seq fun kz20 kq20 => ?_
          refine W_seq fun kz21 kq21 => ?_
          refine W_region [1, 4, 38] fun R hR => ?_   -- r13
          simp only [go_sem]
          refine hR _ _ (kq21 _ _ ?_); clear hR R; try clear kq21 kz21
          try simp only [go_sem]
          refine W_cond rfl (fun c6 => ?_) (fun c6 => ?_)
          · -- c6 true
            try simp only [nrm] at c6
            have hi' : j < t.streets.length := by first | assumption | omega
            obtain ⟨s, hx⟩ : ∃ s, t.streets[j]? = some s := ⟨t.streets[j], by simp [hi']⟩
            have hdrop : t.streets.drop j = s :: t.streets.drop (j + 1) := by
              rw [List.drop_eq_getElem_cons hi']; congr 1; exact (List.getElem?_eq_some_iff.1 hx).2
            rw [hdrop] at hst
            simp only [chkStreets] at hst
            refine W_skip (kq20 _ _ ?_)
            refine W_seq fun kz22 kq22 => ?_
            refine W_block ?_
            refine W_seq fun kz23 kq23 => ?_
            refine W_region [1, 4, 5] fun R hR => ?_   -- r15
            simp only [go_sem, hx]
            refine hR _ _ (kq23 _ _ ?_); clear hR R; try clear kq23 kz23
            try simp only [go_sem, hx]
            refine W_seq fun kz24 kq24 => ?_
            refine W_seq fun kz25 kq25 => ?_
            refine W_region [1, 4, 5, 63] fun R hR => ?_   -- r16
            simp only [go_sem, hx]
            try simp (disch := omega) only [wrapI]
            refine GCall_of (rin6_pc Y _ s.1 0 _) ?_   -- t52
            simp only [go_sem, hx]
            refine GWant_split (fun g1 => ?_) (fun g1 => ?_)
            · try simp only [Bool.not_eq_true', Bool.not_eq_false'] at g1
              have n1 := g1; try simp only [nrm] at n1
              simp only [go_sem, hx, g1]
              try simp (disch := omega) only [wrapI]
              refine GCall_of (rin6_pc Y _ s.2 0 _) ?_   -- t61
              simp only [go_sem, hx, g1]
              try simp (disch := omega) only [wrapI]
              refine hR _ _ (kq25 _ _ ?_); clear hR R; try clear kq25 kz25
              try simp only [go_sem, hx]
              refine W_cond rfl (fun c7 => ?_) (fun c7 => ?_)
              · -- c7 true
                try simp only [nrm] at c7
                refine W_seq fun kz26 kq26 => ?_
                refine W_region [2] fun R hR => ?_   -- r17
                simp only [go_sem, hx]
                refine hR _ _ (kq26 _ _ ?_); clear hR R; try clear kq26 kz26
                try simp only [go_sem, hx]
                refine W_ret ?_
                simp only [go_sem, hx]
                refine ⟨.inr (by trivial), ?_⟩
                first | refine Fin_same hcl rfl (Wk_eq ?_ (by simp only [go_sem])) | refine Fin_self hcl rfl (Wk_eq ?_ (by simp only [go_sem]))
                try simp only [go_sem]
                all_goals
                  rw [hq, hst]; simp [*]
              · -- c7 false
                try simp only [nrm] at c7
                refine W_skip (kq24 _ _ ?_)
                refine W_seq fun kz27 kq27 => ?_
                refine W_region [1, 4, 68] fun R hR => ?_   -- r18
                simp only [go_sem, hx]
                refine hR _ _ (kq27 _ _ ?_); clear hR R; try clear kq27 kz27
                try simp only [go_sem, hx]
                refine W_cond rfl (fun c8 => ?_) (fun c8 => ?_)
                · -- c8 true
                  try simp only [nrm] at c8
                  refine W_seq fun kz28 kq28 => ?_
                  refine W_region [2] fun R hR => ?_   -- r19
                  simp only [go_sem, hx]
                  refine hR _ _ (kq28 _ _ ?_); clear hR R; try clear kq28 kz28
                  try simp only [go_sem, hx]
                  refine W_ret ?_
                  simp only [go_sem, hx]
                  refine ⟨.inr (by trivial), ?_⟩
                  first | refine Fin_same hcl rfl (Wk_eq ?_ (by simp only [go_sem])) | refine Fin_self hcl rfl (Wk_eq ?_ (by simp only [go_sem]))
                  try simp only [go_sem]
                  all_goals
                    rw [hq, hst]; simp [*]
                · -- c8 false
                  try simp only [nrm] at c8
                  refine W_skip (kq22 _ _ ?_)
                  refine W_region [1, 4] fun R hR => ?_   -- r14
                  simp only [go_sem, hx]
                  try simp (disch := omega) only [wrapI]
                  refine hR _ _ ?_; clear hR R
                  try simp only [go_sem, hx]
                  refine ⟨j + 1, ?_, by (try simp only []); omega, ?_⟩
                  · refine Weak.trans (Weak.cutX 1 0 (by omega) (by omega) hcl (by simp only [go_sem]) (by simp only [go_sem] <;> omega)) ?_
                    simp only [go_sem]
                    exact Weak.eq (by first | rfl | (simp only [go_sem]; done) | (simp only [go_sem]; rfl) | (simp [go_sem]; done) | (simp [go_sem]; omega)) (by first | rfl | (simp only [go_sem]; done) | (simp [go_sem]; done))
                  · try dsimp only
                    exact ⟨hi', by rw [hst]; simp [*]⟩
            · try simp only [Bool.not_eq_true', Bool.not_eq_false'] at g1
              have n1 := g1; try simp only [nrm] at n1
              simp only [go_sem, hx, g1]
              try simp (disch := omega) only [wrapI]
              refine hR _ _ (kq25 _ _ ?_); clear hR R; try clear kq25 kz25
              try simp only [go_sem, hx]
              refine W_cond_true rfl ?_
              refine W_seq fun kz29 kq29 => ?_
              refine W_region [2] fun R hR => ?_   -- r17
              simp only [go_sem, hx]
              refine hR _ _ (kq29 _ _ ?_); clear hR R; try clear kq29 kz29
              try simp only [go_sem, hx]
              refine W_ret ?_
              simp only [go_sem, hx]
              refine ⟨.inr (by trivial), ?_⟩
              first | refine Fin_same hcl rfl (Wk_eq ?_ (by simp only [go_sem])) | refine Fin_self hcl rfl (Wk_eq ?_ (by simp only [go_sem]))
              try simp only [go_sem]
              all_goals
                rw [hq, hst]; simp [*]
          · -- c6 false
            try simp only [nrm] at c6
            have hdrop : t.streets.drop j = [] := List.drop_eq_nil_of_le (by omega)
            rw [hdrop] at hst
            simp only [chkStreets] at hst
            rw [hst, if_neg (by simp)] at hq
            refine W_exit ?_
            simp only [go_sem]
            refine kq18 _ _ ?_
            refine W_seq fun kz30 kq30 => ?_
            refine W_seq fun kz31 kq31 => ?_
            refine W_region [1, 72] fun R hR => ?_   -- r20
            simp only [go_sem]
            refine GCall_of (rin6_pc Y _ t.steps 0 96) ?_   -- t71
            simp only [go_sem]
            refine hR _ _ (kq31 _ _ ?_); clear hR R; try clear kq31 kz31
            try simp only [go_sem]
            refine W_cond rfl (fun c9 => ?_) (fun c9 => ?_)
            · -- c9 true
              try simp only [nrm] at c9
              refine W_seq fun kz32 kq32 => ?_
              refine W_region [2] fun R hR => ?_   -- r21
              simp only [go_sem]
              refine hR _ _ (kq32 _ _ ?_); clear hR R; try clear kq32 kz32
              try simp only [go_sem]
              refine W_ret ?_
              simp only [go_sem]
              refine ⟨.inr (by trivial), ?_⟩
              first | refine Fin_same hcl rfl (Wk_eq ?_ (by simp only [go_sem])) | refine Fin_self hcl rfl (Wk_eq ?_ (by simp only [go_sem]))
              try simp only [go_sem]
              all_goals
                rw [hq]; simp [*]
            · -- c9 false
              try simp only [nrm] at c9
              refine W_skip (kq30 _ _ ?_)
              refine W_seq fun kz33 kq33 => ?_
              refine W_seq fun kz34 kq34 => ?_
              refine W_region [1, 76] fun R hR => ?_   -- r22
              simp only [go_sem]
              refine hR _ _ (kq34 _ _ ?_); clear hR R; try clear kq34 kz34
              try simp only [go_sem]
              refine W_cond rfl (fun c10 => ?_) (fun c10 => ?_)
              · -- c10 true
                try simp only [nrm] at c10
                refine W_seq fun kz35 kq35 => ?_
                refine W_region [2] fun R hR => ?_   -- r23
                simp only [go_sem]
                refine hR _ _ (kq35 _ _ ?_); clear hR R; try clear kq35 kz35
                try simp only [go_sem]
                refine W_ret ?_
                simp only [go_sem]
                refine ⟨.inr (by trivial), ?_⟩
                first | refine Fin_same hcl rfl (Wk_eq ?_ (by simp only [go_sem])) | refine Fin_self hcl rfl (Wk_eq ?_ (by simp only [go_sem]))
                try simp only [go_sem]
                all_goals
                  rw [hq]; have d5 : t.groups.length > 12 := by omega
                  simp [*]
              · -- c10 false
                try simp only [nrm] at c10
                refine W_skip (kq33 _ _ ?_)
                refine W_seq fun kz36 kq36 => ?_
                refine W_seq fun kz37 kq37 => ?_
                refine W_region [1, 6] fun R hR => ?_   -- r24
                simp only [go_sem]
                refine hR _ _ (kq37 _ _ ?_); clear hR R; try clear kq37 kz37
                try simp only [go_sem]
                refine W_block ?_
                refine W_loopS (α := Nat) (fun (k : Nat) => [(6, I k)]) (fun (k : Nat) => k ≤ t.groups.length ∧ res = chkGroups t (t.groups.drop k)) (fun (k : Nat) => t.groups.length - k) (0) rfl (⟨Nat.zero_le _, by have d6 : ¬ t.groups.length > 12 := (by omega); rw [hq]; simp [*]⟩) ?_
                rintro k ⟨hk, hgr⟩
                refine W_seq fun kz38 kq38 => ?_
                refine W_seq fun kz39 kq39 => ?_
                refine W_region [1, 6, 81] fun R hR => ?_   -- r25
                simp only [go_sem]
                refine hR _ _ (kq39 _ _ ?_); clear hR R; try clear kq39 kz39
                try simp only [go_sem]
                refine W_cond rfl (fun c11 => ?_) (fun c11 => ?_)
                · -- c11 true
                  try simp only [nrm] at c11
                  have hi' : k < t.groups.length := by first | assumption | omega
                  obtain ⟨g, hx⟩ : ∃ g, t.groups[k]? = some g := ⟨t.groups[k], by simp [hi']⟩
                  have hdrop : t.groups.drop k = g :: t.groups.drop (k + 1) := by
                    rw [List.drop_eq_getElem_cons hi']; congr 1; exact (List.getElem?_eq_some_iff.1 hx).2
                  rw [hdrop] at hgr
                  simp only [chkGroups] at hgr
                  refine W_skip (kq38 _ _ ?_)
                  refine W_seq fun kz40 kq40 => ?_
                  refine W_block ?_
                  refine W_seq fun kz41 kq41 => ?_
                  refine W_draw [1, 6, 7] [0, 1, 2, 3, 4, 5, 6, 7] [] [[], [], [1], [], [1, 2, 3], [1, 2, 3, 4], [0, 1, 2, 3, 4, 5], [0, 1, 2, 3, 4, 5, 6]] mixed (by kernel_rfl) fun R hR => ?_   -- r27
                  simp only [go_sem, hx]
                  refine GCall_of (rgroup_pc Y _ t g hr hs (hp g (List.mem_of_getElem? hx))) ?_   -- t90
                  simp only [go_sem, hx]
                  refine hR _ _ (kq41 _ _ ?_); clear hR R; try clear kq41 kz41
                  try simp only [go_sem, hx]
                  refine W_seq fun kz42 kq42 => ?_
                  refine W_region [1, 6, 7, 92] fun R hR => ?_   -- r28
                  simp only [go_sem, hx]
                  refine hR _ _ (kq42 _ _ ?_); clear hR R; try clear kq42 kz42
                  try simp only [go_sem, hx]
                  refine W_cond rfl (fun c12 => ?_) (fun c12 => ?_)
                  · -- c12 true
                    try simp only [nrm] at c12
                    refine W_seq fun kz43 kq43 => ?_
                    refine W_region [2] fun R hR => ?_   -- r29
                    simp only [go_sem, hx]
                    refine hR _ _ (kq43 _ _ ?_); clear hR R; try clear kq43 kz43
                    try simp only [go_sem, hx]
                    refine W_ret ?_
                    simp only [go_sem, hx]
                    refine ⟨.inr (by trivial), ?_⟩
                    first | refine Fin_same hcl rfl (Wk_eq ?_ (by simp only [go_sem])) | refine Fin_self hcl rfl (Wk_eq ?_ (by simp only [go_sem]))
                    try simp only [go_sem]
                    all_goals
                      rw [hgr]; simp [*]
                  · -- c12 false
                    try simp only [nrm] at c12
                    refine W_skip (kq40 _ _ ?_)
                    refine W_region [1, 6] fun R hR => ?_   -- r26
                    simp only [go_sem, hx]
                    try simp (disch := omega) only [wrapI]
                    refine hR _ _ ?_; clear hR R
                    try simp only [go_sem, hx]
                    refine ⟨k + 1, ?_, by (try simp only []); omega, ?_⟩
                    · first | exact Weak.refl | exact Weak.eq (by first | rfl | (simp only [go_sem]; done) | (simp only [go_sem]; rfl) | (simp [go_sem]; done) | (simp [go_sem]; omega)) (by first | rfl | (simp only [go_sem]; done) | (simp [go_sem]; done))
                    · try dsimp only
                      exact ⟨hi', by rw [hgr]; simp [*]⟩
                · -- c11 false
                  try simp only [nrm] at c11
                  have hdrop : t.groups.drop k = [] := List.drop_eq_nil_of_le (by omega)
                  rw [hdrop] at hgr
                  simp only [chkGroups] at hgr
                  refine W_exit ?_
                  simp only [go_sem]
                  refine kq36 _ _ ?_
                  refine W_seq fun kz44 kq44 => ?_
                  refine W_region [2] fun R hR => ?_   -- r30
                  simp only [go_sem]
                  refine hR _ _ (kq44 _ _ ?_); clear hR R; try clear kq44 kz44
                  try simp only [go_sem]
                  refine W_ret ?_
                  simp only [go_sem]
                  refine ⟨.inr (by trivial), ?_⟩
                  first | refine Fin_same hcl rfl (Wk_eq ?_ (by simp only [go_sem])) | refine Fin_self hcl rfl (Wk_eq ?_ (by simp only [go_sem]))
                  try simp only [go_sem]
                  all_goals
                    rw [hgr]
end Go.Proofs.Ytnpamcpoaklgeaa
namespace Go.Proofs.Ytnpamcpoaklgeaa
open Go Go.RowKit
set_option maxRecDepth 100000
theorem any_take {q : Int → Bool} {l : List Int} {i : Nat} {x : Int} (h : l[i]? = some x) : (l.take (i + 1)).any q = ((l.take i).any q || q x) := by
  rw [List.take_add_one, h]; simp
theorem any_of {q : Int → Bool} {l : List Int} {i : Nat} {x : Int} (h : l[i]? = some x) (hq : q x = true) : l.any q = true :=
  List.any_eq_true.2 ⟨x, List.mem_of_getElem? h, hq⟩
theorem walkSq_ok (st : List (Int × Int)) : ∀ (l : List Int) (a : Int) (out : List Int), (walkSq st l a out).2 = 0 → (walkSq st l a out).1.length = out.length + l.length := by
  intro l
  induction l with
  | nil => intro a out _; simp [walkSq]
  | cons n r ih =>
    intro a out
    simp only [walkSq]
    split
    · simp
    · split
      · simp
      · rename_i s _
        split
        · intro h; have := ih s.2 (out ++ [s.2]) h; simp at this ⊢; omega
        · split
          · intro h; have := ih s.1 (out ++ [s.1]) h; simp at this ⊢; omega
          · simp
theorem sqs_ok {c : City} {b : Band} (h : (sqs c b).2 = 0) : (sqs c b).1.length = b.path.length + 1 := by
  unfold sqs at h ⊢
  split
  · simp_all
  · split
    · simp_all
    · rename_i h1 h2
      rw [if_neg h1, if_neg h2] at h
      have := walkSq_ok _ _ _ _ h
      simp at this; omega
set_option maxHeartbeats 2000000 in
theorem rcheck_pc (Y : YEnv) (σ : Sg) (ct : City) (hc : ct.Ok) :
    PC Try.prog Y 54 [ctPV ct] σ (I (chkCity ct)) (σ) := by
  refine PC_of_W Try.func54 rfl (by kernel_rfl) Try.ntmps54 (by simp) fun hcl hca => ?_
  have hsl := hc.hsl
  refine W_seq fun kz1 kq1 => ?_
  refine W_region [1] fun R hR => ?_   -- r0
  simp only [go_sem]
  refine hR _ _ (kq1 _ _ ?_); clear hR R; try clear kq1 kz1
  try simp only [go_sem]
  refine W_seq fun kz2 kq2 => ?_
  refine W_seq fun kz3 kq3 => ?_
  refine W_region [1, 3] fun R hR => ?_   -- r1
  simp only [go_sem]
  refine GCall_of (rtown_pc Y _ ct.town hc.hr hc.hs hc.hg hc.hp) ?_   -- t7
  simp only [go_sem]
  refine hR _ _ (kq3 _ _ ?_); clear hR R; try clear kq3 kz3
  try simp only [go_sem]
  refine W_seq fun kz4 kq4 => ?_
  refine W_region [1, 3, 9] fun R hR => ?_   -- r2
  simp only [go_sem]
  refine hR _ _ (kq4 _ _ ?_); clear hR R; try clear kq4 kz4
  try simp only [go_sem]
  refine W_cond rfl (fun c1 => ?_) (fun c1 => ?_)
  · -- c1 true
    try simp only [nrm] at c1
    refine W_seq fun kz5 kq5 => ?_
    refine W_region [2] fun R hR => ?_   -- r3
    simp only [go_sem]
    refine hR _ _ (kq5 _ _ ?_); clear hR R; try clear kq5 kz5
    try simp only [go_sem]
    refine W_ret ?_
    simp only [go_sem]
    refine ⟨.inr (by trivial), ?_⟩
    first | refine Fin_same hcl rfl (Wk_eq ?_ (by simp only [go_sem])) | refine Fin_self hcl rfl (Wk_eq ?_ (by simp only [go_sem]))
    try simp only [go_sem]
    all_goals
      simp [chkCity, *]
  · -- c1 false
    try simp only [nrm] at c1
    refine W_skip (kq2 _ _ ?_)
    refine W_seq fun kz6 kq6 => ?_
    refine W_seq fun kz7 kq7 => ?_
    refine W_region [1, 14] fun R hR => ?_   -- r4
    simp only [go_sem]
    refine GCall_of (rin_pc Y _ ct.brk 0 120) ?_   -- t13
    simp only [go_sem]
    refine hR _ _ (kq7 _ _ ?_); clear hR R; try clear kq7 kz7
    try simp only [go_sem]
    refine W_cond rfl (fun c2 => ?_) (fun c2 => ?_)
    · -- c2 true
      try simp only [nrm] at c2
      refine W_seq fun kz8 kq8 => ?_
      refine W_region [2] fun R hR => ?_   -- r5
      simp only [go_sem]
      refine hR _ _ (kq8 _ _ ?_); clear hR R; try clear kq8 kz8
      try simp only [go_sem]
      refine W_ret ?_
      simp only [go_sem]
      refine ⟨.inr (by trivial), ?_⟩
      first | refine Fin_same hcl rfl (Wk_eq ?_ (by simp only [go_sem])) | refine Fin_self hcl rfl (Wk_eq ?_ (by simp only [go_sem]))
      try simp only [go_sem]
      all_goals
        simp [chkCity, *]
    · -- c2 false
      try simp only [nrm] at c2
      refine W_skip (kq6 _ _ ?_)
      refine W_seq fun kz9 kq9 => ?_
      refine W_seq fun kz10 kq10 => ?_
      refine W_region [1, 22] fun R hR => ?_   -- r6
      simp only [go_sem]
      refine hR _ _ (kq10 _ _ ?_); clear hR R; try clear kq10 kz10
      try simp only [go_sem]
      refine W_cond rfl (fun c3 => ?_) (fun c3 => ?_)
      · -- c3 true
        try simp only [nrm] at c3
        refine W_seq fun kz11 kq11 => ?_
        refine W_region [2] fun R hR => ?_   -- r7
        simp only [go_sem]
        refine hR _ _ (kq11 _ _ ?_); clear hR R; try clear kq11 kz11
        try simp only [go_sem]
        refine W_ret ?_
        simp only [go_sem]
        refine ⟨.inr (by trivial), ?_⟩
        first | refine Fin_same hcl rfl (Wk_eq ?_ (by simp only [go_sem])) | refine Fin_self hcl rfl (Wk_eq ?_ (by simp only [go_sem]))
        try simp only [go_sem]
        all_goals
          simp [chkCity, *]
      · -- c3 false
        try simp only [nrm] at c3
        refine W_skip (kq9 _ _ ?_)
        refine W_seq fun kz12 kq12 => ?_
        refine W_seq fun kz13 kq13 => ?_
        refine W_region [1, 4] fun R hR => ?_   -- r8
        simp only [go_sem]
        refine hR _ _ (kq13 _ _ ?_); clear hR R; try clear kq13 kz13
        try simp only [go_sem]
        refine W_block ?_
        refine W_loopS (α := Nat) (fun (i : Nat) => [(4, I i)]) (fun (i : Nat) => i ≤ ct.sleep.length ∧ (ct.sleep.take i).any (fun n => !(inR n 0 720)) = false) (fun (i : Nat) => ct.sleep.length - i) (0) rfl (⟨Nat.zero_le _, rfl⟩) ?_
        rintro i ⟨hi, hall⟩
        refine W_seq fun kz14 kq14 => ?_
        refine W_seq fun kz15 kq15 => ?_
        refine W_region [1, 4, 27] fun R hR => ?_   -- r9
        simp only [go_sem]
        refine hR _ _ (kq15 _ _ ?_); clear hR R; try clear kq15 kz15
        try simp only [go_sem]
        refine W_cond rfl (fun c4 => ?_) (fun c4 => ?_)
        · -- c4 true
          try simp only [nrm] at c4
          have hi' : i < ct.sleep.length := by first | assumption | omega
          obtain ⟨x, hx⟩ : ∃ x, ct.sleep[i]? = some x := ⟨ct.sleep[i], by simp [hi']⟩
          have hdrop : ct.sleep.drop i = x :: ct.sleep.drop (i + 1) := by
            rw [List.drop_eq_getElem_cons hi']; congr 1; exact (List.getElem?_eq_some_iff.1 hx).2
          refine W_skip (kq14 _ _ ?_)
          refine W_seq fun kz16 kq16 => ?_
          refine W_block ?_
          refine W_seq fun kz17 kq17 => ?_
          refine W_region [1, 4, 36] fun R hR => ?_   -- r11
          simp only [go_sem, hx]
          refine GCall_of (rin_pc Y _ x 0 720) ?_   -- t35
          simp only [go_sem, hx]
          refine hR _ _ (kq17 _ _ ?_); clear hR R; try clear kq17 kz17
          try simp only [go_sem, hx]
          refine W_cond rfl (fun c5 => ?_) (fun c5 => ?_)
          · -- c5 true
            try simp only [nrm] at c5
            refine W_seq fun kz18 kq18 => ?_
            refine W_region [2] fun R hR => ?_   -- r12
            simp only [go_sem, hx]
            refine hR _ _ (kq18 _ _ ?_); clear hR R; try clear kq18 kz18
            try simp only [go_sem, hx]
            refine W_ret ?_
            simp only [go_sem, hx]
            refine ⟨.inr (by trivial), ?_⟩
            first | refine Fin_same hcl rfl (Wk_eq ?_ (by simp only [go_sem])) | refine Fin_self hcl rfl (Wk_eq ?_ (by simp only [go_sem]))
            try simp only [go_sem]
            all_goals
              have hany : ct.sleep.any (fun n => !(inR n 0 720)) = true := any_of hx (by simp [c5])
              unfold chkCity
              rw [if_neg (by simp [c1]), if_neg (by simp [c2]), if_neg (by simp [c3]), if_pos hany]
          · -- c5 false
            try simp only [nrm] at c5
            refine W_skip (kq16 _ _ ?_)
            refine W_region [1, 4] fun R hR => ?_   -- r10
            simp only [go_sem, hx]
            try simp (disch := omega) only [wrapI]
            refine hR _ _ ?_; clear hR R
            try simp only [go_sem, hx]
            refine ⟨i + 1, ?_, by (try simp only []); omega, ?_⟩
            · first | exact Weak.refl | exact Weak.eq (by first | rfl | (simp only [go_sem]; done) | (simp only [go_sem]; rfl) | (simp [go_sem]; done) | (simp [go_sem]; omega)) (by first | rfl | (simp only [go_sem]; done) | (simp [go_sem]; done))
            · try dsimp only
              exact ⟨hi', by rw [any_take hx, hall, c5]; rfl⟩
        · -- c4 false
          try simp only [nrm] at c4
          have hie : i = ct.sleep.length := by omega
          subst hie
          rw [List.take_length] at hall
          refine W_exit ?_
          simp only [go_sem]
          refine kq12 _ _ ?_
          refine W_seq fun kz19 kq19 => ?_
          refine W_region [2] fun R hR => ?_   -- r13
          simp only [go_sem]
          refine hR _ _ (kq19 _ _ ?_); clear hR R; try clear kq19 kz19
          try simp only [go_sem]
          refine W_ret ?_
          simp only [go_sem]
          refine ⟨.inr (by trivial), ?_⟩
          first | refine Fin_same hcl rfl (Wk_eq ?_ (by simp only [go_sem])) | refine Fin_self hcl rfl (Wk_eq ?_ (by simp only [go_sem]))
          try simp only [go_sem]
          all_goals
            unfold chkCity
            rw [if_neg (by simp [c1]), if_neg (by simp [c2]), if_neg (by simp [c3]), if_neg (by rw [hall]; simp)]
set_option maxHeartbeats 2000000 in
theorem rsquares_pc (Y : YEnv) (σ : Sg) (ct : City) (b : Band) (hc : ct.Ok) (hb : b.path.length < 2 ^ 50) :
    PC Try.prog Y 75 [ctPV ct, bdPV b] σ (sqPV (sqs ct b)) (σ) := by
  refine PC_of_W Try.func75 rfl (by kernel_rfl) Try.ntmps75 (by simp) fun hcl hca => ?_
  have hr := hc.hr
  have hs := hc.hs
  obtain ⟨res, hres⟩ : ∃ r, sqs ct b = r := ⟨_, rfl⟩
  rw [hres]
  refine W_seq fun kz1 kq1 => ?_
  refine W_region [2, 3] fun R hR => ?_   -- r0
  simp only [go_sem]
  refine hR _ _ (kq1 _ _ ?_); clear hR R; try clear kq1 kz1
  try simp only [go_sem]
  refine W_seq fun kz2 kq2 => ?_
  refine W_seq fun kz3 kq3 => ?_
  refine W_region [2, 3, 18] fun R hR => ?_   -- r1
  simp only [go_sem]
  try simp (disch := omega) only [wrapI]
  refine GCall_of (rin_pc Y _ b.first 0 _) ?_   -- t17
  simp only [go_sem]
  try simp (disch := omega) only [wrapI]
  refine hR _ _ (kq3 _ _ ?_); clear hR R; try clear kq3 kz3
  try simp only [go_sem]
  refine W_cond rfl (fun c1 => ?_) (fun c1 => ?_)
  · -- c1 true
    try simp only [nrm] at c1
    refine W_seq fun kz4 kq4 => ?_
    refine W_region [4, 5] fun R hR => ?_   -- r2
    simp only [go_sem]
    refine hR _ _ (kq4 _ _ ?_); clear hR R; try clear kq4 kz4
    try simp only [go_sem]
    refine W_ret ?_
    simp only [go_sem]
    refine ⟨.inr (by trivial), ?_⟩
    refine Fin_same hcl rfl (Wk.ro (by simp only [go_sem]) ?_)
    try simp only [go_sem]
    all_goals
      first | rfl | (simp_all; done) | (simp_all; omega) | (rw [← hres]; simp only [sqs]; (repeat' split) <;> ((first | rfl | omega | (simp_all; done) | (simp_all; omega))))
  · -- c1 false
    try simp only [nrm] at c1
    refine W_skip (kq2 _ _ ?_)
    refine W_seq fun kz5 kq5 => ?_
    refine W_seq fun kz6 kq6 => ?_
    refine W_region [2, 3, 22] fun R hR => ?_   -- r3
    simp only [go_sem]
    refine hR _ _ (kq6 _ _ ?_); clear hR R; try clear kq6 kz6
    try simp only [go_sem]
    refine W_cond rfl (fun c2 => ?_) (fun c2 => ?_)
    · -- c2 true
      try simp only [nrm] at c2
      refine W_seq fun kz7 kq7 => ?_
      refine W_region [4, 5] fun R hR => ?_   -- r4
      simp only [go_sem]
      refine hR _ _ (kq7 _ _ ?_); clear hR R; try clear kq7 kz7
      try simp only [go_sem]
      refine W_ret ?_
      simp only [go_sem]
      refine ⟨.inr (by trivial), ?_⟩
      refine Fin_same hcl rfl (Wk.ro (by simp only [go_sem]) ?_)
      try simp only [go_sem]
      all_goals
        first | rfl | (simp_all; done) | (simp_all; omega) | (rw [← hres]; simp only [sqs]; (repeat' split) <;> ((first | rfl | omega | (simp_all; done) | (simp_all; omega))))
    · -- c2 false
      try simp only [nrm] at c2
      refine W_skip (kq5 _ _ ?_)
      refine W_seq fun kz8 kq8 => ?_
      refine W_region [2, 3, 6] fun R hR => ?_   -- r5
      simp only [go_sem]
      refine hR _ _ (kq8 _ _ ?_); clear hR R; try clear kq8 kz8
      try simp only [go_sem]
      refine W_seq fun kz9 kq9 => ?_
      refine W_region [2, 3, 6, 7] fun R hR => ?_   -- r6
      simp only [go_sem]
      refine hR _ _ (kq9 _ _ ?_); clear hR R; try clear kq9 kz9
      try simp only [go_sem]
      refine W_seq fun kz10 kq10 => ?_
      refine W_seq fun kz11 kq11 => ?_
      refine W_region [2, 3, 6, 7, 8] fun R hR => ?_   -- r7
      simp only [go_sem]
      refine hR _ _ (kq11 _ _ ?_); clear hR R; try clear kq11 kz11
      try simp only [go_sem]
      refine W_block ?_
      refine W_weak (Weak.room (t := 7) (es := 1) rfl (by simp)) ?_
      refine W_weak (Weak.keep [2, 3, 6, 7, 8]) ?_
      simp only [go_sem]
      refine W_loopT (α := Nat × Int × (List Int)) (fun ⟨i, at', out⟩ => [(6, I at'), (7, .isl (out.map I) (.tok σ.rooms.length out.length 1)), (8, I i)]) (fun ⟨i, at', out⟩ => σ.ext [some (ctCells ct), some (bdCells b)] [out.length]) (fun ⟨i, at', out⟩ => i ≤ b.path.length ∧ out.length = i + 1 ∧ res = walkSq ct.town.streets (b.path.drop i) at' out) (fun ⟨i, at', out⟩ => b.path.length - i) ((0, b.first, [b.first])) rfl (by first | rfl | (simp only [go_sem]; done) | (simp only [go_sem]; rfl)) (⟨Nat.zero_le _, rfl, by rw [← hres]; simp only [sqs]; simp [c1, c2]⟩) ?_
      rintro ⟨i, at', out⟩ ⟨hi, ho, hinv⟩
      refine W_seq fun kz12 kq12 => ?_
      refine W_seq fun kz13 kq13 => ?_
      refine W_region [2, 3, 6, 7, 8, 31] fun R hR => ?_   -- r8
      simp only [go_sem]
      refine hR _ _ (kq13 _ _ ?_); clear hR R; try clear kq13 kz13
      try simp only [go_sem]
      refine W_cond rfl (fun c3 => ?_) (fun c3 => ?_)
      · -- c3 true
        try simp only [nrm] at c3
        have hi' : i < b.path.length := by first | assumption | omega
        obtain ⟨x, hx⟩ : ∃ x, b.path[i]? = some x := ⟨b.path[i], by simp [hi']⟩
        have hdrop : b.path.drop i = x :: b.path.drop (i + 1) := by
          rw [List.drop_eq_getElem_cons hi']; congr 1; exact (List.getElem?_eq_some_iff.1 hx).2
        rw [hdrop] at hinv
        simp only [walkSq] at hinv
        refine W_skip (kq12 _ _ ?_)
        refine W_seq fun kz14 kq14 => ?_
        refine W_block ?_
        refine W_seq fun kz15 kq15 => ?_
        refine W_seq fun kz16 kq16 => ?_
        refine W_draw [2, 3, 6, 7, 8, 45] [0, 1, 2, 3, 4, 5, 6, 7, 8, 9, 10, 11] [] [[], [0], [], [0, 1, 2], [0, 1, 2, 3], [], [5], [5, 6], [5, 6, 7], [5, 6, 7, 8], [0, 1, 2, 3, 4, 5, 6, 7, 8, 9], [0, 1, 2, 3, 4, 5, 6, 7, 8, 9, 10]] mixed (by kernel_rfl) fun R hR => ?_   -- r10
        simp only [go_sem, hx]
        try simp (disch := omega) only [wrapI]
        refine GCall_of (rin_pc Y _ x 0 _) ?_   -- t44
        simp only [go_sem, hx]
        try simp (disch := omega) only [wrapI]
        try refine And.intro (by repeat' (first | refine And.intro ?_ ?_ | exact GOr_right (fun _ => by simp only [go_sem, hx]))) ?_
        refine hR _ _ (kq16 _ _ ?_); clear hR R; try clear kq16 kz16
        try simp only [go_sem, hx]
        refine W_cond rfl (fun c4 => ?_) (fun c4 => ?_)
        · -- c4 true
          try simp only [nrm] at c4
          refine W_seq fun kz17 kq17 => ?_
          refine W_region [4, 5] fun R hR => ?_   -- r11
          simp only [go_sem, hx]
          refine hR _ _ (kq17 _ _ ?_); clear hR R; try clear kq17 kz17
          try simp only [go_sem, hx]
          refine W_ret ?_
          simp only [go_sem, hx]
          refine ⟨.inr (by trivial), ?_⟩
          refine Fin_same hcl rfl (Wk.ro (by simp only [go_sem]) ?_)
          try simp only [go_sem]
          all_goals
            first | rfl | (simp_all; done) | (simp_all; omega) | (rw [← hres]; simp only [sqs]; (repeat' split) <;> ((first | rfl | omega | (simp_all; done) | (simp_all; omega))))
        · -- c4 false
          try simp only [nrm] at c4
          have hin : 0 ≤ x ∧ x ≤ (ct.town.streets.length : Int) - 1 := by simpa [inR] using c4
          obtain ⟨n, rfl⟩ : ∃ n : Nat, x = (n : Int) := ⟨x.toNat, by omega⟩
          obtain ⟨s, hs'⟩ : ∃ s, ct.town.streets[n]? = some s := ⟨ct.town.streets[n]'(by omega), by simp⟩
          simp only [c4, Int.toNat_natCast, hs'] at hinv
          refine W_skip (kq15 _ _ ?_)
          refine W_seq fun kz18 kq18 => ?_
          refine W_seq fun kz19 kq19 => ?_
          refine W_draw [2, 3, 6, 7, 8, 9] [0, 1, 2, 3, 4, 5, 6, 7, 8, 9, 10, 11] [(0, 11), (1, 11), (2, 11), (3, 11), (4, 11), (5, 11), (6, 11), (7, 11), (8, 11), (9, 11)] [[], [0], [0, 1], [], [3], [], [3, 4, 5], [3, 4, 5, 6], [0, 1, 2, 3, 4, 5, 6, 7], [0, 1, 2, 3, 4, 5, 6, 7, 8], [], [0, 1, 2, 3, 4, 5, 6, 7, 8, 9, 10]] mixed (by kernel_rfl) fun R hR => ?_   -- r12
          simp only [go_sem, hx, hs']
          try refine And.intro (by repeat' (first | refine And.intro ?_ ?_ | exact GOr_right (fun _ => by simp only [go_sem, hx, hs']))) ?_
          refine hR _ _ (kq19 _ _ ?_); clear hR R; try clear kq19 kz19
          try simp only [go_sem, hx, hs']
          refine W_seq fun kz20 kq20 => ?_
          refine W_region [2, 3, 7, 8, 9, 56] fun R hR => ?_   -- r13
          simp only [go_sem, hx, hs']
          refine hR _ _ (kq20 _ _ ?_); clear hR R; try clear kq20 kz20
          try simp only [go_sem, hx, hs']
          refine W_block ?_
          refine W_seq fun kz21 kq21 => ?_
          refine W_region [2, 3, 7, 8, 9, 56, 57] fun R hR => ?_   -- r15
          simp only [go_sem, hx, hs']
          refine hR _ _ (kq21 _ _ ?_); clear hR R; try clear kq21 kz21
          try simp only [go_sem, hx, hs']
          refine W_cond rfl (fun c5 => ?_) (fun c5 => ?_)
          · -- c5 true
            try simp only [nrm] at c5
            refine W_region [2, 3, 6, 7, 8] fun R hR => ?_   -- r16
            simp only [go_sem, hx, hs']
            refine hR _ _ (kq18 _ _ ?_); clear hR R; try clear kq18 kz18
            try simp only [go_sem, hx, hs']
            refine W_region [2, 3, 6, 7, 8] fun R hR => ?_   -- r19
            simp only [go_sem, hx, hs']
            simp (disch := first | omega | (simp only [go_sem] <;> omega)) only [wrapI, appX_exact, appX_tok]
            try simp only [go_sem, hx, hs']
            refine hR _ _ (kq14 _ _ ?_); clear hR R; try clear kq14 kz14
            try simp only [go_sem, hx, hs']
            refine W_region [2, 3, 6, 7, 8] fun R hR => ?_   -- r9
            simp only [go_sem, hx, hs']
            try simp (disch := omega) only [wrapI]
            refine hR _ _ ?_; clear hR R
            try simp only [go_sem, hx, hs']
            refine ⟨(i + 1, s.2, out ++ [s.2]), ?_, by (try simp only []); omega, ?_⟩
            · refine Weak.trans (Weak.cutX 2 1 (by omega) (by omega) hcl (by simp only [go_sem]) (by simp only [go_sem] <;> omega)) ?_
              simp only [go_sem]
              exact Weak.eq (by first | rfl | (simp only [go_sem]; done) | (simp only [go_sem]; rfl) | (simp [go_sem]; done) | (simp [go_sem]; omega)) (by first | rfl | (simp only [go_sem]; done) | (simp [go_sem]; done))
            · try dsimp only
              exact ⟨hi', by simp; omega, by simp_all⟩
          · -- c5 false
            try simp only [nrm] at c5
            refine W_seq fun kz22 kq22 => ?_
            refine W_region [2, 3, 7, 8, 9, 63] fun R hR => ?_   -- r17
            simp only [go_sem, hx, hs']
            refine hR _ _ (kq22 _ _ ?_); clear hR R; try clear kq22 kz22
            try simp only [go_sem, hx, hs']
            refine W_cond rfl (fun c6 => ?_) (fun c6 => ?_)
            · -- c6 true
              try simp only [nrm] at c6
              refine W_region [2, 3, 6, 7, 8] fun R hR => ?_   -- r18
              simp only [go_sem, hx, hs']
              refine hR _ _ (kq18 _ _ ?_); clear hR R; try clear kq18 kz18
              try simp only [go_sem, hx, hs']
              refine W_region [2, 3, 6, 7, 8] fun R hR => ?_   -- r19
              simp only [go_sem, hx, hs']
              simp (disch := first | omega | (simp only [go_sem] <;> omega)) only [wrapI, appX_exact, appX_tok]
              try simp only [go_sem, hx, hs']
              refine hR _ _ (kq14 _ _ ?_); clear hR R; try clear kq14 kz14
              try simp only [go_sem, hx, hs']
              refine W_region [2, 3, 6, 7, 8] fun R hR => ?_   -- r9
              simp only [go_sem, hx, hs']
              try simp (disch := omega) only [wrapI]
              refine hR _ _ ?_; clear hR R
              try simp only [go_sem, hx, hs']
              refine ⟨(i + 1, s.1, out ++ [s.1]), ?_, by (try simp only []); omega, ?_⟩
              · refine Weak.trans (Weak.cutX 2 1 (by omega) (by omega) hcl (by simp only [go_sem]) (by simp only [go_sem] <;> omega)) ?_
                simp only [go_sem]
                exact Weak.eq (by first | rfl | (simp only [go_sem]; done) | (simp only [go_sem]; rfl) | (simp [go_sem]; done) | (simp [go_sem]; omega)) (by first | rfl | (simp only [go_sem]; done) | (simp [go_sem]; done))
              · try dsimp only
                exact ⟨hi', by simp; omega, by simp_all⟩
            · -- c6 false
              try simp only [nrm] at c6
              refine W_seq fun kz23 kq23 => ?_
              refine W_region [4, 5] fun R hR => ?_   -- r14
              simp only [go_sem, hx, hs']
              refine hR _ _ (kq23 _ _ ?_); clear hR R; try clear kq23 kz23
              try simp only [go_sem, hx, hs']
              refine W_ret ?_
              simp only [go_sem, hx, hs']
              refine ⟨.inr (by trivial), ?_⟩
              refine Fin_same hcl rfl (Wk.ro (by simp only [go_sem]) ?_)
              try simp only [go_sem]
              all_goals
                first | rfl | (simp_all; done) | (simp_all; omega) | (rw [← hres]; simp only [sqs]; (repeat' split) <;> ((first | rfl | omega | (simp_all; done) | (simp_all; omega))))
      · -- c3 false
        try simp only [nrm] at c3
        have hdrop : b.path.drop i = [] := List.drop_eq_nil_of_le (by omega)
        rw [hdrop] at hinv
        simp only [walkSq] at hinv
        refine W_exit ?_
        simp only [go_sem]
        refine kq10 _ _ ?_
        refine W_seq fun kz24 kq24 => ?_
        refine W_region [4, 5] fun R hR => ?_   -- r20
        simp only [go_sem]
        refine hR _ _ (kq24 _ _ ?_); clear hR R; try clear kq24 kz24
        try simp only [go_sem]
        refine W_ret ?_
        simp only [go_sem]
        refine ⟨.inr (by trivial), ?_⟩
        refine Fin_same hcl rfl (Wk.ro (by simp only [go_sem]) ?_)
        try simp only [go_sem]
        all_goals
          first | rfl | (simp_all; done) | (simp_all; omega) | (rw [← hres]; simp only [sqs]; (repeat' split) <;> ((first | rfl | omega | (simp_all; done) | (simp_all; omega))))
set_option maxHeartbeats 2000000 in
theorem rcheckBand_pc (Y : YEnv) (σ : Sg) (ct : City) (b : Band) (hc : ct.Ok) (hb : b.path.length < 2 ^ 50) :
    PC Try.prog Y 100 [ctPV ct, bdPV b] σ (I (chkBand ct b)) (σ) := by
  refine PC_of_W Try.func100 rfl (by kernel_rfl) Try.ntmps100 (by simp) fun hcl hca => ?_
  refine W_seq fun kz1 kq1 => ?_
  refine W_region [2, 3] fun R hR => ?_   -- r0
  simp only [go_sem]
  refine hR _ _ (kq1 _ _ ?_); clear hR R; try clear kq1 kz1
  try simp only [go_sem]
  refine W_seq fun kz2 kq2 => ?_
  refine W_region [3, 5, 6] fun R hR => ?_   -- r1
  simp only [go_sem]
  refine GCall_of (rsquares_pc Y _ ct b hc hb) ?_   -- t10
  simp only [go_sem]
  refine hR _ _ (kq2 _ _ ?_); clear hR R; try clear kq2 kz2
  try simp only [go_sem]
  refine W_seq fun kz3 kq3 => ?_
  refine W_seq fun kz4 kq4 => ?_
  refine W_region [3, 5, 6, 14] fun R hR => ?_   -- r2
  simp only [go_sem]
  refine hR _ _ (kq4 _ _ ?_); clear hR R; try clear kq4 kz4
  try simp only [go_sem]
  refine W_cond rfl (fun c1 => ?_) (fun c1 => ?_)
  · -- c1 true
    try simp only [nrm] at c1
    refine W_seq fun kz5 kq5 => ?_
    refine W_region [4] fun R hR => ?_   -- r3
    simp only [go_sem]
    refine hR _ _ (kq5 _ _ ?_); clear hR R; try clear kq5 kz5
    try simp only [go_sem]
    refine W_ret ?_
    simp only [go_sem]
    refine ⟨.inr (by trivial), ?_⟩
    first | refine Fin_same hcl rfl (Wk_eq ?_ (by simp only [go_sem])) | refine Fin_self hcl rfl (Wk_eq ?_ (by simp only [go_sem]))
    try simp only [go_sem]
    all_goals
      simp [chkBand, timesOf, *]
  · -- c1 false
    try simp only [nrm] at c1
    have hln := sqs_ok c1
    refine W_skip (kq3 _ _ ?_)
    refine W_seq fun kz6 kq6 => ?_
    refine W_seq fun kz7 kq7 => ?_
    refine W_region [3, 5, 27] fun R hR => ?_   -- r4
    simp only [go_sem]
    refine GCall_of (rin_pc Y _ b.lo 0 720) ?_   -- t19
    simp only [go_sem]
    refine GWant_split (fun g1 => ?_) (fun g1 => ?_)
    · try simp only [Bool.not_eq_true', Bool.not_eq_false'] at g1
      have n1 := g1; try simp only [nrm] at n1
      simp only [go_sem, g1]
      refine GCall_of (rin_pc Y _ b.hi 0 720) ?_   -- t25
      simp only [go_sem, g1]
      refine hR _ _ (kq7 _ _ ?_); clear hR R; try clear kq7 kz7
      try simp only [go_sem]
      refine W_cond rfl (fun c2 => ?_) (fun c2 => ?_)
      · -- c2 true
        try simp only [nrm] at c2
        refine W_seq fun kz8 kq8 => ?_
        refine W_region [4] fun R hR => ?_   -- r5
        simp only [go_sem]
        refine hR _ _ (kq8 _ _ ?_); clear hR R; try clear kq8 kz8
        try simp only [go_sem]
        refine W_ret ?_
        simp only [go_sem]
        refine ⟨.inr (by trivial), ?_⟩
        first | refine Fin_same hcl rfl (Wk_eq ?_ (by simp only [go_sem])) | refine Fin_self hcl rfl (Wk_eq ?_ (by simp only [go_sem]))
        try simp only [go_sem]
        all_goals
          simp [chkBand, timesOf, *]
      · -- c2 false
        try simp only [nrm] at c2
        refine W_skip (kq6 _ _ ?_)
        refine W_seq fun kz9 kq9 => ?_
        refine W_seq fun kz10 kq10 => ?_
        refine W_region [3, 5, 34] fun R hR => ?_   -- r6
        simp only [go_sem]
        refine hR _ _ (kq10 _ _ ?_); clear hR R; try clear kq10 kz10
        try simp only [go_sem]
        refine W_cond rfl (fun c3 => ?_) (fun c3 => ?_)
        · -- c3 true
          try simp only [nrm] at c3
          refine W_seq fun kz11 kq11 => ?_
          refine W_region [4] fun R hR => ?_   -- r7
          simp only [go_sem]
          refine hR _ _ (kq11 _ _ ?_); clear hR R; try clear kq11 kz11
          try simp only [go_sem]
          refine W_ret ?_
          simp only [go_sem]
          refine ⟨.inr (by trivial), ?_⟩
          first | refine Fin_same hcl rfl (Wk_eq ?_ (by simp only [go_sem])) | refine Fin_self hcl rfl (Wk_eq ?_ (by simp only [go_sem]))
          try simp only [go_sem]
          all_goals
            simp [chkBand, timesOf, *]
        · -- c3 false
          try simp only [nrm] at c3
          refine W_skip (kq9 _ _ ?_)
          refine W_seq fun kz12 kq12 => ?_
          refine W_seq fun kz13 kq13 => ?_
          have d1 : inR b.lo 0 720 = true := by first | assumption | (simp_all; done)
          have d2 : inR b.hi 0 720 = true := by first | assumption | (simp_all; done)
          simp only [inR_true] at d1 d2
          refine W_region [3, 5, 54] fun R hR => ?_   -- r8
          simp only [go_sem]
          refine GWant_split (fun g2 => ?_) (fun g2 => ?_)
          · try simp only [Bool.not_eq_true', Bool.not_eq_false'] at g2
            have n2 := g2; try simp only [nrm] at n2
            try simp (disch := omega) only [wrapI] at n2
            simp only [go_sem, g2]
            try simp (disch := omega) only [wrapI]
            refine GCall_of (rin_pc Y _ b.stay 1 120) ?_   -- t46
            simp only [go_sem, g2]
            refine GWant_split (fun g3 => ?_) (fun g3 => ?_)
            · try simp only [Bool.not_eq_true', Bool.not_eq_false'] at g3
              have n3 := g3; try simp only [nrm] at n3
              try simp (disch := omega) only [wrapI] at n3
              simp only [go_sem, g2, g3]
              try simp (disch := omega) only [wrapI]
              refine GCall_of (rin_pc Y _ b.people 0 1000000) ?_   -- t52
              simp only [go_sem, g2, g3]
              try simp (disch := omega) only [wrapI]
              refine hR _ _ (kq13 _ _ ?_); clear hR R; try clear kq13 kz13
              try simp only [go_sem]
              refine W_cond rfl (fun c4 => ?_) (fun c4 => ?_)
              · -- c4 true
                try simp only [nrm] at c4
                refine W_seq fun kz14 kq14 => ?_
                refine W_region [4] fun R hR => ?_   -- r9
                simp only [go_sem]
                refine hR _ _ (kq14 _ _ ?_); clear hR R; try clear kq14 kz14
                try simp only [go_sem]
                refine W_ret ?_
                simp only [go_sem]
                refine ⟨.inr (by trivial), ?_⟩
                first | refine Fin_same hcl rfl (Wk_eq ?_ (by simp only [go_sem])) | refine Fin_self hcl rfl (Wk_eq ?_ (by simp only [go_sem]))
                try simp only [go_sem]
                all_goals
                  simp [chkBand, timesOf, *]
              · -- c4 false
                try simp only [nrm] at c4
                refine W_skip (kq12 _ _ ?_)
                refine W_seq fun kz15 kq15 => ?_
                refine W_seq fun kz16 kq16 => ?_
                have d3 : inR b.stay 1 120 = true := by first | assumption | (simp_all; done)
                simp only [inR_true] at d3
                have d4 := mul_bd (a := b.stay) (b := (b.path.length : Int) + 1) (A := 120) (B := 2 ^ 51) (by omega) (by omega) (by omega) (by omega)
                have d5 : ((sqs ct b).1.length : Int) * b.stay = b.stay * ((b.path.length : Int) + 1) := by rw [hln, Int.mul_comm]; rfl
                refine W_region [64] fun R hR => ?_   -- r10
                simp only [go_sem]
                try simp (disch := omega) only [wrapI]
                simp only [d5, wrapI (show -9223372036854775808 ≤ b.stay * ((b.path.length : Int) + 1) by omega) (by omega), wrapI (show -9223372036854775808 ≤ b.hi + b.stay * ((b.path.length : Int) + 1) by omega) (by omega)]
                refine hR _ _ (kq16 _ _ ?_); clear hR R; try clear kq16 kz16
                try simp only [go_sem]
                refine W_cond rfl (fun c5 => ?_) (fun c5 => ?_)
                · -- c5 true
                  try simp only [nrm] at c5
                  refine W_seq fun kz17 kq17 => ?_
                  refine W_region [4] fun R hR => ?_   -- r11
                  simp only [go_sem]
                  refine hR _ _ (kq17 _ _ ?_); clear hR R; try clear kq17 kz17
                  try simp only [go_sem]
                  refine W_ret ?_
                  simp only [go_sem]
                  refine ⟨.inr (by trivial), ?_⟩
                  first | refine Fin_same hcl rfl (Wk_eq ?_ (by simp only [go_sem])) | refine Fin_self hcl rfl (Wk_eq ?_ (by simp only [go_sem]))
                  try simp only [go_sem]
                  all_goals
                    simp [chkBand, timesOf, *]
                · -- c5 false
                  try simp only [nrm] at c5
                  refine W_skip (kq15 _ _ ?_)
                  refine W_seq fun kz18 kq18 => ?_
                  refine W_region [4] fun R hR => ?_   -- r12
                  simp only [go_sem]
                  refine hR _ _ (kq18 _ _ ?_); clear hR R; try clear kq18 kz18
                  try simp only [go_sem]
                  refine W_ret ?_
                  simp only [go_sem]
                  refine ⟨.inr (by trivial), ?_⟩
                  first | refine Fin_same hcl rfl (Wk_eq ?_ (by simp only [go_sem])) | refine Fin_self hcl rfl (Wk_eq ?_ (by simp only [go_sem]))
                  try simp only [go_sem]
                  all_goals
                    simp [chkBand, timesOf, *]
            · try simp only [Bool.not_eq_true', Bool.not_eq_false'] at g3
              have n3 := g3; try simp only [nrm] at n3
              try simp (disch := omega) only [wrapI] at n3
              simp only [go_sem, g2, g3]
              try simp (disch := omega) only [wrapI]
              refine hR _ _ (kq13 _ _ ?_); clear hR R; try clear kq13 kz13
              try simp only [go_sem]
              refine W_cond_true rfl ?_
              refine W_seq fun kz19 kq19 => ?_
              refine W_region [4] fun R hR => ?_   -- r9
              simp only [go_sem]
              refine hR _ _ (kq19 _ _ ?_); clear hR R; try clear kq19 kz19
              try simp only [go_sem]
              refine W_ret ?_
              simp only [go_sem]
              refine ⟨.inr (by trivial), ?_⟩
              first | refine Fin_same hcl rfl (Wk_eq ?_ (by simp only [go_sem])) | refine Fin_self hcl rfl (Wk_eq ?_ (by simp only [go_sem]))
              try simp only [go_sem]
              all_goals
                simp [chkBand, timesOf, *]
          · try simp only [Bool.not_eq_true', Bool.not_eq_false'] at g2
            have n2 := g2; try simp only [nrm] at n2
            try simp (disch := omega) only [wrapI] at n2
            simp only [go_sem, g2]
            try simp (disch := omega) only [wrapI]
            refine hR _ _ (kq13 _ _ ?_); clear hR R; try clear kq13 kz13
            try simp only [go_sem]
            refine W_cond_true rfl ?_
            refine W_seq fun kz20 kq20 => ?_
            refine W_region [4] fun R hR => ?_   -- r9
            simp only [go_sem]
            refine hR _ _ (kq20 _ _ ?_); clear hR R; try clear kq20 kz20
            try simp only [go_sem]
            refine W_ret ?_
            simp only [go_sem]
            refine ⟨.inr (by trivial), ?_⟩
            first | refine Fin_same hcl rfl (Wk_eq ?_ (by simp only [go_sem])) | refine Fin_self hcl rfl (Wk_eq ?_ (by simp only [go_sem]))
            try simp only [go_sem]
            all_goals
              simp [chkBand, timesOf, *]
    · try simp only [Bool.not_eq_true', Bool.not_eq_false'] at g1
      have n1 := g1; try simp only [nrm] at n1
      simp only [go_sem, g1]
      refine hR _ _ (kq7 _ _ ?_); clear hR R; try clear kq7 kz7
      try simp only [go_sem]
      refine W_cond_true rfl ?_
      refine W_seq fun kz21 kq21 => ?_
      refine W_region [4] fun R hR => ?_   -- r5
      simp only [go_sem]
      refine hR _ _ (kq21 _ _ ?_); clear hR R; try clear kq21 kz21
      try simp only [go_sem]
      refine W_ret ?_
      simp only [go_sem]
      refine ⟨.inr (by trivial), ?_⟩
      first | refine Fin_same hcl rfl (Wk_eq ?_ (by simp only [go_sem])) | refine Fin_self hcl rfl (Wk_eq ?_ (by simp only [go_sem]))
      try simp only [go_sem]
      all_goals
        simp [chkBand, timesOf, *]
set_option maxHeartbeats 2000000 in
theorem rcheckBands_pc (Y : YEnv) (σ : Sg) (ct : City) (l : List Band) (hc : ct.Ok) (hl : BandsOk l) :
    PC Try.prog Y 56 [ctPV ct, bands l] σ (I (chkAll ct l)) (σ) := by
  refine PC_of_W Try.func56 rfl (by kernel_rfl) Try.ntmps56 (by simp) fun hcl hca => ?_
  have hl1 := hl.1
  have hl2 := hl.2
  obtain ⟨res, hres⟩ : ∃ r, chkAll ct l = r := ⟨_, rfl⟩
  rw [hres]
  refine W_seq fun kz1 kq1 => ?_
  refine W_region [1, 2] fun R hR => ?_   -- r0
  simp only [go_sem]
  refine hR _ _ (kq1 _ _ ?_); clear hR R; try clear kq1 kz1
  try simp only [go_sem]
  refine W_seq fun kz2 kq2 => ?_
  refine W_seq fun kz3 kq3 => ?_
  refine W_region [1, 2, 5] fun R hR => ?_   -- r1
  simp only [go_sem]
  refine GCall_of (rcheck_pc Y _ ct hc) ?_   -- t9
  simp only [go_sem]
  refine hR _ _ (kq3 _ _ ?_); clear hR R; try clear kq3 kz3
  try simp only [go_sem]
  refine W_seq fun kz4 kq4 => ?_
  refine W_region [1, 2, 5, 11] fun R hR => ?_   -- r2
  simp only [go_sem]
  refine hR _ _ (kq4 _ _ ?_); clear hR R; try clear kq4 kz4
  try simp only [go_sem]
  refine W_cond rfl (fun c1 => ?_) (fun c1 => ?_)
  · -- c1 true
    try simp only [nrm] at c1
    refine W_seq fun kz5 kq5 => ?_
    refine W_region [4] fun R hR => ?_   -- r3
    simp only [go_sem]
    refine hR _ _ (kq5 _ _ ?_); clear hR R; try clear kq5 kz5
    try simp only [go_sem]
    refine W_ret ?_
    simp only [go_sem]
    refine ⟨.inr (by trivial), ?_⟩
    first | refine Fin_same hcl rfl (Wk_eq ?_ (by simp only [go_sem])) | refine Fin_self hcl rfl (Wk_eq ?_ (by simp only [go_sem]))
    try simp only [go_sem]
    all_goals
      first | rfl | (simp_all; done) | (simp_all; omega) | (rw [← hres]; simp only [chkAll]; (repeat' split) <;> ((first | rfl | omega | (simp_all; done) | (simp_all; omega))))
  · -- c1 false
    try simp only [nrm] at c1
    refine W_skip (kq2 _ _ ?_)
    refine W_seq fun kz6 kq6 => ?_
    refine W_seq fun kz7 kq7 => ?_
    refine W_region [1, 2, 15] fun R hR => ?_   -- r4
    simp only [go_sem]
    refine hR _ _ (kq7 _ _ ?_); clear hR R; try clear kq7 kz7
    try simp only [go_sem]
    refine W_cond rfl (fun c2 => ?_) (fun c2 => ?_)
    · -- c2 true
      try simp only [nrm] at c2
      refine W_seq fun kz8 kq8 => ?_
      refine W_region [4] fun R hR => ?_   -- r5
      simp only [go_sem]
      refine hR _ _ (kq8 _ _ ?_); clear hR R; try clear kq8 kz8
      try simp only [go_sem]
      refine W_ret ?_
      simp only [go_sem]
      refine ⟨.inr (by trivial), ?_⟩
      first | refine Fin_same hcl rfl (Wk_eq ?_ (by simp only [go_sem])) | refine Fin_self hcl rfl (Wk_eq ?_ (by simp only [go_sem]))
      try simp only [go_sem]
      all_goals
        first | rfl | (simp_all; done) | (simp_all; omega) | (rw [← hres]; simp only [chkAll]; (repeat' split) <;> ((first | rfl | omega | (simp_all; done) | (simp_all; omega))))
    · -- c2 false
      try simp only [nrm] at c2
      refine W_skip (kq6 _ _ ?_)
      refine W_seq fun kz9 kq9 => ?_
      refine W_seq fun kz10 kq10 => ?_
      refine W_region [1, 2, 6] fun R hR => ?_   -- r6
      simp only [go_sem]
      refine hR _ _ (kq10 _ _ ?_); clear hR R; try clear kq10 kz10
      try simp only [go_sem]
      refine W_block ?_
      refine W_loopS (α := Nat) (fun (i : Nat) => [(6, I i)]) (fun (i : Nat) => i ≤ l.length ∧ res = chkBands ct (l.drop i)) (fun (i : Nat) => l.length - i) (0) rfl (⟨Nat.zero_le _, by rw [← hres]; simp [askedOf, chkAll, *]⟩) ?_
      rintro i ⟨hi, hinv⟩
      refine W_seq fun kz11 kq11 => ?_
      refine W_seq fun kz12 kq12 => ?_
      refine W_region [1, 2, 6, 19] fun R hR => ?_   -- r7
      simp only [go_sem]
      refine hR _ _ (kq12 _ _ ?_); clear hR R; try clear kq12 kz12
      try simp only [go_sem]
      refine W_cond rfl (fun c3 => ?_) (fun c3 => ?_)
      · -- c3 true
        try simp only [nrm] at c3
        have hi' : i < l.length := by first | assumption | omega
        obtain ⟨b, hx⟩ : ∃ b, l[i]? = some b := ⟨l[i], by simp [hi']⟩
        have hdrop : l.drop i = b :: l.drop (i + 1) := by
          rw [List.drop_eq_getElem_cons hi']; congr 1; exact (List.getElem?_eq_some_iff.1 hx).2
        have hbl : b ∈ l := List.mem_of_getElem? hx
        rw [hdrop] at hinv
        simp only [chkBands] at hinv
        refine W_skip (kq11 _ _ ?_)
        refine W_seq fun kz13 kq13 => ?_
        refine W_block ?_
        refine W_seq fun kz14 kq14 => ?_
        refine W_draw [1, 2, 6, 7] [0, 1, 2, 3, 4, 5, 6] [] [[], [], [], [1, 2], [1, 2, 3], [0, 1, 2, 3, 4], [0, 1, 2, 3, 4, 5]] mixed (by kernel_rfl) fun R hR => ?_   -- r9
        simp only [go_sem, hx]
        refine GCall_of (rcheckBand_pc Y _ ct b hc (hl2 b hbl)) ?_   -- t27
        simp only [go_sem, hx]
        try refine And.intro (by repeat' (first | refine And.intro ?_ ?_ | exact GOr_right (fun _ => by simp only [go_sem, hx]))) ?_
        refine hR _ _ (kq14 _ _ ?_); clear hR R; try clear kq14 kz14
        try simp only [go_sem, hx]
        refine W_seq fun kz15 kq15 => ?_
        refine W_region [1, 2, 6, 7, 29] fun R hR => ?_   -- r10
        simp only [go_sem, hx]
        refine hR _ _ (kq15 _ _ ?_); clear hR R; try clear kq15 kz15
        try simp only [go_sem, hx]
        refine W_cond rfl (fun c4 => ?_) (fun c4 => ?_)
        · -- c4 true
          try simp only [nrm] at c4
          refine W_seq fun kz16 kq16 => ?_
          refine W_region [4] fun R hR => ?_   -- r11
          simp only [go_sem, hx]
          refine hR _ _ (kq16 _ _ ?_); clear hR R; try clear kq16 kz16
          try simp only [go_sem, hx]
          refine W_ret ?_
          simp only [go_sem, hx]
          refine ⟨.inr (by trivial), ?_⟩
          first | refine Fin_same hcl rfl (Wk_eq ?_ (by simp only [go_sem])) | refine Fin_self hcl rfl (Wk_eq ?_ (by simp only [go_sem]))
          try simp only [go_sem]
          all_goals
            first | rfl | (simp_all; done) | (simp_all; omega) | (rw [← hres]; simp only [chkAll]; (repeat' split) <;> ((first | rfl | omega | (simp_all; done) | (simp_all; omega))))
        · -- c4 false
          try simp only [nrm] at c4
          refine W_skip (kq13 _ _ ?_)
          refine W_region [1, 2, 6] fun R hR => ?_   -- r8
          simp only [go_sem, hx]
          try simp (disch := omega) only [wrapI]
          refine hR _ _ ?_; clear hR R
          try simp only [go_sem, hx]
          refine ⟨i + 1, ?_, by (try simp only []); omega, ?_⟩
          · first | exact Weak.refl | exact Weak.eq (by first | rfl | (simp only [go_sem]; done) | (simp only [go_sem]; rfl) | (simp [go_sem]; done) | (simp [go_sem]; omega)) (by first | rfl | (simp only [go_sem]; done) | (simp [go_sem]; done))
          · try dsimp only
            exact ⟨hi', by simp_all⟩
      · -- c3 false
        try simp only [nrm] at c3
        have hdrop : l.drop i = [] := List.drop_eq_nil_of_le (by omega)
        rw [hdrop] at hinv
        simp only [chkBands] at hinv
        refine W_exit ?_
        simp only [go_sem]
        refine kq9 _ _ ?_
        refine W_seq fun kz17 kq17 => ?_
        refine W_region [4] fun R hR => ?_   -- r12
        simp only [go_sem]
        refine hR _ _ (kq17 _ _ ?_); clear hR R; try clear kq17 kz17
        try simp only [go_sem]
        refine W_ret ?_
        simp only [go_sem]
        refine ⟨.inr (by trivial), ?_⟩
        first | refine Fin_same hcl rfl (Wk_eq ?_ (by simp only [go_sem])) | refine Fin_self hcl rfl (Wk_eq ?_ (by simp only [go_sem]))
        try simp only [go_sem]
        all_goals
          first | rfl | (simp_all; done) | (simp_all; omega) | (rw [← hres]; simp only [chkAll]; (repeat' split) <;> ((first | rfl | omega | (simp_all; done) | (simp_all; omega))))
end Go.Proofs.Ytnpamcpoaklgeaa
namespace Go.Proofs.Ytnpamcpoaklgeaa
open Go Go.RowKit
set_option maxRecDepth 100000
end Go.Proofs.Ytnpamcpoaklgeaa
namespace Go.Proofs.Ytnpamcpoaklgeaa
open Go Go.RowKit
set_option maxRecDepth 100000
theorem visOf_get (c : City) (b : Band) (m : Int) (i : Nat) (v : Vis) : (visOf c b m)[i]? = some v ↔ ∃ s, (sqs c b).1[i]? = some s ∧ v = ⟨m + (i : Int) * b.stay, m + (i : Int) * b.stay + b.stay - 1, s⟩ := by
  unfold visOf
  rw [visFrom_get]
  cases (sqs c b).1[i]? with
  | none => simp
  | some s => simp [eq_comm]
end Go.Proofs.Ytnpamcpoaklgeaa
namespace Go.Proofs.Ytnpamcpoaklgeaa
open Go Go.RowKit
set_option maxRecDepth 100000
/-- A list of numbers, in a list. -/
def lsPV (xs : List Int) : PV := .isl (xs.map I) .ro
theorem okC_ls {xs : List (List Int)} : okC 1 (xs.map lsPV) = True := okC_map fun x => by simp [okC, lsPV, PV.cells, PV.scalar]
theorem roL_ls {xs : List (List Int)} : PV.roL (xs.map lsPV) = xs.map lsPV := roL_enc fun x => by simp only [lsPV, ro_isl, roL_ints]
theorem cA_ls {a b c : Nat} {xs : List (List Int)} : CleanAll a b c (xs.map lsPV) = True := CleanAll_map fun x => by simp only [lsPV, go_sem]
attribute [go_sem] lsPV okC_ls roL_ls cA_ls
end Go.Proofs.Ytnpamcpoaklgeaa
namespace Go.Proofs.Ytnpamcpoaklgeaa
open Go Go.RowKit
set_option maxRecDepth 100000
def wideB (c : City) (l : List Band) : Bool :=
  (c.town.groups.take 20).any (fun g => decide (20 < (g.path.length : Int))) || l.any (fun b => decide (15 < (b.path.length : Int))) || decide (20 < (c.town.rooms.length : Int)) || decide (20 < (c.town.streets.length : Int)) || decide (20 < (c.town.groups.length : Int)) ||
  decide (20 < (c.sleep.length : Int)) || decide (12 < (l.length : Int))
theorem any_take' {α : Type} {q : α → Bool} {l : List α} {i : Nat} {x : α} (h : l[i]? = some x) : (l.take (i + 1)).any q = ((l.take i).any q || q x) := by
  rw [List.take_add_one, h]; simp
theorem wide_not {c : City} {l : List Band} (h : wideB c l = false) : c.town.rooms.length ≤ 20 ∧ c.town.streets.length ≤ 20 ∧ c.town.groups.length ≤ 20 ∧ c.sleep.length ≤ 20 ∧ l.length ≤ 12 ∧ (∀ g, g ∈ c.town.groups → g.path.length ≤ 20) ∧ ∀ b, b ∈ l → b.path.length ≤ 15 := by
  unfold wideB at h
  simp only [Bool.or_eq_false_iff, decide_eq_false_iff_not] at h
  obtain ⟨⟨⟨⟨⟨⟨h1, h2⟩, h3⟩, h4⟩, h5⟩, h6⟩, h7⟩ := h
  refine ⟨by omega, by omega, by omega, by omega, by omega, fun g hg => ?_, fun b hb => ?_⟩
  · rw [List.take_of_length_le (by omega)] at h1
    have := List.any_eq_false.1 h1 g hg
    simp at this; omega
  · have := List.any_eq_false.1 h2 b hb
    simp at this; omega
set_option maxHeartbeats 2000000 in
theorem wide_pc (Y : YEnv) (σ : Sg) (c : City) (l : List Band) (hc : c.Ok) (hl : l.length < 2 ^ 50) :
    PC Try.prog Y 15 [ctPV c, bands l] σ (.bool (wideB c l)) (σ) := by
  refine PC_of_W Try.func15 rfl (by kernel_rfl) Try.ntmps15 (by simp) fun hcl hca => ?_
  have hg := hc.hg
  refine W_seq fun kz1 kq1 => ?_
  refine W_region [1, 2] fun R hR => ?_   -- r0
  simp only [go_sem]
  refine hR _ _ (kq1 _ _ ?_); clear hR R; try clear kq1 kz1
  try simp only [go_sem]
  refine W_seq fun kz2 kq2 => ?_
  refine W_seq fun kz3 kq3 => ?_
  refine W_region [1, 2, 5] fun R hR => ?_   -- r1
  simp only [go_sem]
  refine hR _ _ (kq3 _ _ ?_); clear hR R; try clear kq3 kz3
  try simp only [go_sem]
  refine W_block ?_
  refine W_loopS (α := Nat) (fun (i : Nat) => [(5, I i)]) (fun (i : Nat) => i ≤ c.town.groups.length ∧ i ≤ 20 ∧ (c.town.groups.take i).any (fun g => decide (20 < (g.path.length : Int))) = false) (fun (i : Nat) => c.town.groups.length - i) (0) rfl (⟨Nat.zero_le _, by omega, rfl⟩) ?_
  rintro i ⟨hi, hi20, ha⟩
  refine W_seq fun kz4 kq4 => ?_
  refine W_seq fun kz5 kq5 => ?_
  refine W_regionJ [1, 2, 5, 16] [(16, .bool (decide (i < c.town.groups.length) && decide (i < 20)))] ?_ fun R hR => ?_   -- r2
  · refine kq5 _ _ ?_
    simp only [go_sem]
    refine W_cond rfl (fun c1 => ?_) (fun c1 => ?_)
    · -- c1 true
      try simp only [nrm] at c1
      simp only [Bool.and_eq_true, decide_eq_true_eq] at c1
      have hi' : i < c.town.groups.length := c1.1
      obtain ⟨g, hx⟩ : ∃ g, c.town.groups[i]? = some g := ⟨c.town.groups[i], by simp⟩
      refine W_skip (kq4 _ _ ?_)
      refine W_seq fun kz6 kq6 => ?_
      refine W_block ?_
      refine W_seq fun kz7 kq7 => ?_
      refine W_region [1, 2, 5, 27] fun R hR => ?_   -- r4
      simp only [go_sem, hx]
      refine hR _ _ (kq7 _ _ ?_); clear hR R; try clear kq7 kz7
      try simp only [go_sem, hx]
      refine W_cond rfl (fun c2 => ?_) (fun c2 => ?_)
      · -- c2 true
        try simp only [nrm] at c2
        refine W_seq fun kz8 kq8 => ?_
        refine W_region [4] fun R hR => ?_   -- r5
        simp only [go_sem, hx]
        refine hR _ _ (kq8 _ _ ?_); clear hR R; try clear kq8 kz8
        try simp only [go_sem, hx]
        refine W_ret ?_
        simp only [go_sem, hx]
        refine ⟨.inr (by trivial), ?_⟩
        first | refine Fin_same hcl rfl (Wk_eq ?_ (by simp only [go_sem])) | refine Fin_self hcl rfl (Wk_eq ?_ (by simp only [go_sem]))
        try simp only [go_sem]
        all_goals
          have hga : (c.town.groups.take 20).any (fun g => decide (20 < (g.path.length : Int))) = true := List.any_eq_true.2 ⟨g, List.mem_of_getElem? (i := i) (by rw [List.getElem?_take_of_lt (by omega)]; exact hx), by simp [c2]⟩
          simp only [wideB, hga, Bool.true_or]
      · -- c2 false
        try simp only [nrm] at c2
        refine W_skip (kq6 _ _ ?_)
        refine W_region [1, 2, 5] fun R hR => ?_   -- r3
        simp only [go_sem, hx]
        try simp (disch := omega) only [wrapI]
        refine hR _ _ ?_; clear hR R
        try simp only [go_sem, hx]
        refine ⟨i + 1, ?_, by (try simp only []); omega, ?_⟩
        · first | exact Weak.refl | exact Weak.eq (by first | rfl | (simp only [go_sem]; done) | (simp only [go_sem]; rfl) | (simp [go_sem]; done) | (simp [go_sem]; omega)) (by first | rfl | (simp only [go_sem]; done) | (simp [go_sem]; done))
        · try dsimp only
          exact ⟨by omega, by omega, by rw [any_take' hx, ha]; simp [c2]⟩
    · -- c1 false
      try simp only [nrm] at c1
      have hga : (c.town.groups.take 20).any (fun g => decide (20 < (g.path.length : Int))) = false := by
        simp only [Bool.and_eq_false_iff, decide_eq_false_iff_not] at c1
        by_cases h20 : i = 20
        · subst h20; exact ha
        · rw [List.take_of_length_le (by omega)] at ha ⊢; exact ha
      refine W_exit ?_
      simp only [go_sem]
      refine kq2 _ _ ?_
      refine W_seq fun kz9 kq9 => ?_
      refine W_seq fun kz10 kq10 => ?_
      refine W_region [1, 2, 6] fun R hR => ?_   -- r6
      simp only [go_sem]
      refine hR _ _ (kq10 _ _ ?_); clear hR R; try clear kq10 kz10
      try simp only [go_sem]
      refine W_block ?_
      refine W_loopS (α := Nat) (fun (j : Nat) => [(6, I j)]) (fun (j : Nat) => j ≤ l.length ∧ (l.take j).any (fun b => decide (15 < (b.path.length : Int))) = false) (fun (j : Nat) => l.length - j) (0) rfl (⟨Nat.zero_le _, rfl⟩) ?_
      rintro j ⟨hj, hb⟩
      refine W_seq fun kz11 kq11 => ?_
      refine W_seq fun kz12 kq12 => ?_
      refine W_region [1, 2, 6, 31] fun R hR => ?_   -- r7
      simp only [go_sem]
      refine hR _ _ (kq12 _ _ ?_); clear hR R; try clear kq12 kz12
      try simp only [go_sem]
      refine W_cond rfl (fun c3 => ?_) (fun c3 => ?_)
      · -- c3 true
        try simp only [nrm] at c3
        have hi' : j < l.length := by first | assumption | omega
        obtain ⟨b, hx⟩ : ∃ b, l[j]? = some b := ⟨l[j], by simp [hi']⟩
        have hdrop : l.drop j = b :: l.drop (j + 1) := by
          rw [List.drop_eq_getElem_cons hi']; congr 1; exact (List.getElem?_eq_some_iff.1 hx).2
        refine W_skip (kq11 _ _ ?_)
        refine W_seq fun kz13 kq13 => ?_
        refine W_block ?_
        refine W_seq fun kz14 kq14 => ?_
        refine W_region [1, 2, 6, 40] fun R hR => ?_   -- r9
        simp only [go_sem, hx]
        refine hR _ _ (kq14 _ _ ?_); clear hR R; try clear kq14 kz14
        try simp only [go_sem, hx]
        refine W_cond rfl (fun c4 => ?_) (fun c4 => ?_)
        · -- c4 true
          try simp only [nrm] at c4
          refine W_seq fun kz15 kq15 => ?_
          refine W_region [4] fun R hR => ?_   -- r10
          simp only [go_sem, hx]
          refine hR _ _ (kq15 _ _ ?_); clear hR R; try clear kq15 kz15
          try simp only [go_sem, hx]
          refine W_ret ?_
          simp only [go_sem, hx]
          refine ⟨.inr (by trivial), ?_⟩
          first | refine Fin_same hcl rfl (Wk_eq ?_ (by simp only [go_sem])) | refine Fin_self hcl rfl (Wk_eq ?_ (by simp only [go_sem]))
          try simp only [go_sem]
          all_goals
            have hba : l.any (fun b => decide (15 < (b.path.length : Int))) = true := List.any_eq_true.2 ⟨b, List.mem_of_getElem? hx, by simp [c4]⟩
            simp only [wideB, hba, Bool.true_or, Bool.or_true]
        · -- c4 false
          try simp only [nrm] at c4
          refine W_skip (kq13 _ _ ?_)
          refine W_region [1, 2, 6] fun R hR => ?_   -- r8
          simp only [go_sem, hx]
          try simp (disch := omega) only [wrapI]
          refine hR _ _ ?_; clear hR R
          try simp only [go_sem, hx]
          refine ⟨j + 1, ?_, by (try simp only []); omega, ?_⟩
          · first | exact Weak.refl | exact Weak.eq (by first | rfl | (simp only [go_sem]; done) | (simp only [go_sem]; rfl) | (simp [go_sem]; done) | (simp [go_sem]; omega)) (by first | rfl | (simp only [go_sem]; done) | (simp [go_sem]; done))
          · try dsimp only
            exact ⟨hi', by rw [any_take' hx, hb]; simp [c4]⟩
      · -- c3 false
        try simp only [nrm] at c3
        have hje : j = l.length := by omega
        subst hje
        rw [List.take_length] at hb
        refine W_exit ?_
        simp only [go_sem]
        refine kq9 _ _ ?_
        refine W_seq fun kz16 kq16 => ?_
        refine W_region [4] fun R hR => ?_   -- r11
        simp only [go_sem]
        refine GWant_split (fun g1 => ?_) (fun g1 => ?_)
        · try simp only [Bool.not_eq_true', Bool.not_eq_false'] at g1
          have n1 := g1; try simp only [nrm] at n1
          simp only [go_sem, g1]
          refine GWant_split (fun g2 => ?_) (fun g2 => ?_)
          · try simp only [Bool.not_eq_true', Bool.not_eq_false'] at g2
            have n2 := g2; try simp only [nrm] at n2
            simp only [go_sem, g1, g2]
            refine GWant_split (fun g3 => ?_) (fun g3 => ?_)
            · try simp only [Bool.not_eq_true', Bool.not_eq_false'] at g3
              have n3 := g3; try simp only [nrm] at n3
              simp only [go_sem, g1, g2, g3]
              refine GWant_split (fun g4 => ?_) (fun g4 => ?_)
              · try simp only [Bool.not_eq_true', Bool.not_eq_false'] at g4
                have n4 := g4; try simp only [nrm] at n4
                simp only [go_sem, g1, g2, g3, g4]
                refine hR _ _ (kq16 _ _ ?_); clear hR R; try clear kq16 kz16
                try simp only [go_sem]
                refine W_ret ?_
                simp only [go_sem]
                refine ⟨.inr (by trivial), ?_⟩
                first | refine Fin_same hcl rfl (Wk_eq ?_ (by simp only [go_sem])) | refine Fin_self hcl rfl (Wk_eq ?_ (by simp only [go_sem]))
                try simp only [go_sem]
                all_goals
                  simp only [wideB, hga, hb]; simp [*]
              · try simp only [Bool.not_eq_true', Bool.not_eq_false'] at g4
                have n4 := g4; try simp only [nrm] at n4
                simp only [go_sem, g1, g2, g3, g4]
                refine hR _ _ (kq16 _ _ ?_); clear hR R; try clear kq16 kz16
                try simp only [go_sem]
                refine W_ret ?_
                simp only [go_sem]
                refine ⟨.inr (by trivial), ?_⟩
                first | refine Fin_same hcl rfl (Wk_eq ?_ (by simp only [go_sem])) | refine Fin_self hcl rfl (Wk_eq ?_ (by simp only [go_sem]))
                try simp only [go_sem]
                all_goals
                  simp only [wideB, hga, hb]; simp [*]
            · try simp only [Bool.not_eq_true', Bool.not_eq_false'] at g3
              have n3 := g3; try simp only [nrm] at n3
              simp only [go_sem, g1, g2, g3]
              refine hR _ _ (kq16 _ _ ?_); clear hR R; try clear kq16 kz16
              try simp only [go_sem]
              refine W_ret ?_
              simp only [go_sem]
              refine ⟨.inr (by trivial), ?_⟩
              first | refine Fin_same hcl rfl (Wk_eq ?_ (by simp only [go_sem])) | refine Fin_self hcl rfl (Wk_eq ?_ (by simp only [go_sem]))
              try simp only [go_sem]
              all_goals
                simp only [wideB, hga, hb]; simp [*]
          · try simp only [Bool.not_eq_true', Bool.not_eq_false'] at g2
            have n2 := g2; try simp only [nrm] at n2
            simp only [go_sem, g1, g2]
            refine hR _ _ (kq16 _ _ ?_); clear hR R; try clear kq16 kz16
            try simp only [go_sem]
            refine W_ret ?_
            simp only [go_sem]
            refine ⟨.inr (by trivial), ?_⟩
            first | refine Fin_same hcl rfl (Wk_eq ?_ (by simp only [go_sem])) | refine Fin_self hcl rfl (Wk_eq ?_ (by simp only [go_sem]))
            try simp only [go_sem]
            all_goals
              simp only [wideB, hga, hb]; simp [*]
        · try simp only [Bool.not_eq_true', Bool.not_eq_false'] at g1
          have n1 := g1; try simp only [nrm] at n1
          simp only [go_sem, g1]
          refine hR _ _ (kq16 _ _ ?_); clear hR R; try clear kq16 kz16
          try simp only [go_sem]
          refine W_ret ?_
          simp only [go_sem]
          refine ⟨.inr (by trivial), ?_⟩
          first | refine Fin_same hcl rfl (Wk_eq ?_ (by simp only [go_sem])) | refine Fin_self hcl rfl (Wk_eq ?_ (by simp only [go_sem]))
          try simp only [go_sem]
          all_goals
            simp only [wideB, hga, hb]; simp [*]
  · simp only [go_sem]
    refine GWant_split (fun g5 => ?_) (fun g5 => ?_)
    · try simp only [Bool.not_eq_true', Bool.not_eq_false'] at g5
      have n5 := g5; try simp only [nrm] at n5
      simp only [go_sem, g5]
      refine hR _ ?_
      try simp only [go_sem]
      all_goals
        first | rfl | (simp [*]; done) | (simp [*]; omega)
    · try simp only [Bool.not_eq_true', Bool.not_eq_false'] at g5
      have n5 := g5; try simp only [nrm] at n5
      simp only [go_sem, g5]
      refine hR _ ?_
      try simp only [go_sem]
      all_goals
        first | rfl | (simp [*]; done) | (simp [*]; omega)
end Go.Proofs.Ytnpamcpoaklgeaa
