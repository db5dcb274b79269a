/-
  Walks: the reference's requests, permits, choices (bateriaref07).
  Plain law: choices of bands: lists of numbers in order, sets as numbers, what is better.
  Walks: choices of bands (bateriaref07.Best, band.Best).
  Walks: choices of bands: members of a set, what can be together, the reference's best choice.
  Walk: the search for the best choice of bands (band.Best).
  Plain law: two searches for the best choice of bands find the same.
  What may come in: cities and bands; few enough of them.
  Plain law: choices that are granted one after the other; what is granted in turn is no more than the best choice.
-/
import Derived.Test.YtnpamcpoaklgeaaPj
import Derived.Test.YtnpamcpoaklgeaaPc
import Derived.Test.YtnpamcpoaklgeaaPi
set_option linter.unusedSimpArgs false
set_option linter.unusedVariables false
namespace Go.Proofs.Ytnpamcpoaklgeaa
open Go Go.RowKit
set_option maxRecDepth 100000

theorem firstOf3 (a b c : Int) : firstOf [a, b, c] = if a ≠ 0 then a else if b ≠ 0 then b else if c ≠ 0 then c else 0 := rfl
theorem clash_or (c : City) (b : Band) (w : List Band) : clashOf c b w = 0 ∨ clashOf c b w = 10 := (clashOf_cases c b w).imp (fun h => h.1) (fun h => h.1)
theorem over_or (c : City) (b : Band) : overOf c b = 0 ∨ overOf c b = 13 := (overL_cases c b (sqs c b).1).imp (fun h => h.1) (fun h => h.1)
theorem awk_or (c : City) (l : List Band) : awkOf c l = 0 ∨ awkOf c l = 11 := (awkL_cases c l c.sleep 0).imp (fun h => h.1) (fun h => h.1)

set_option maxHeartbeats 2000000 in
theorem rfits_pc (Y : YEnv) (σ : Sg) (ct : City) (b : Band) (hc : ct.Ok) (hb : b.path.length < 2 ^ 50) (hk : chkCity ct = 0) :
    PC Try.prog Y 111 [ctPV ct, bdPV b] σ (.bool (decide (overOf ct b = 0))) (σ) := by
  refine PC_of_W Try.func111 rfl (by kernel_rfl) Try.ntmps111 (by simp) fun hcl hca => ?_
  obtain ⟨l, hl3⟩ : ∃ l, l = (sqs ct b).1 := ⟨_, rfl⟩
  have hln : l.length ≤ 13 := by rw [hl3]; exact (sqs_len ct b).1
  have hrg := sqs_range (c := ct) (b := b) hk
  rw [← hl3] at hrg
  rw [show overOf ct b = overL ct b l by rw [hl3]; rfl]
  obtain ⟨res, hres⟩ : ∃ r, overL ct b l = r := ⟨_, rfl⟩
  rw [hres]
  refine W_seq fun kz1 kq1 => ?_
  refine W_region [2, 3] fun R hR => ?_   -- r0
  simp only [go_sem]
  refine hR _ _ (kq1 _ _ ?_); clear hR R; try clear kq1 kz1
  try simp only [go_sem]
  refine W_seq fun kz2 kq2 => ?_
  refine W_region [2, 3, 5] fun R hR => ?_   -- r1
  simp only [go_sem]
  refine GCall_of (PC.val (v' := .tuple [ints l, I (sqs ct b).2]) (rsquares_pc Y _ ct b hc hb) (by rw [hl3]; rfl)) ?_   -- t11
  simp only [go_sem]
  refine hR _ _ (kq2 _ _ ?_); clear hR R; try clear kq2 kz2
  try simp only [go_sem]
  refine W_seq fun kz3 kq3 => ?_
  refine W_seq fun kz4 kq4 => ?_
  refine W_region [2, 3, 5, 7] fun R hR => ?_   -- r2
  simp only [go_sem]
  refine hR _ _ (kq4 _ _ ?_); clear hR R; try clear kq4 kz4
  try simp only [go_sem]
  refine W_block ?_
  refine W_loopS (α := Nat) (fun (i : Nat) => [(7, I i)]) (fun (i : Nat) => i ≤ l.length ∧ res = overL ct b (l.drop i)) (fun (i : Nat) => l.length - i) (0) rfl (⟨Nat.zero_le _, hres.symm⟩) ?_
  rintro i ⟨hi, hinv⟩
  refine W_seq fun kz5 kq5 => ?_
  refine W_seq fun kz6 kq6 => ?_
  refine W_region [2, 3, 5, 7, 17] fun R hR => ?_   -- r3
  simp only [go_sem]
  refine hR _ _ (kq6 _ _ ?_); clear hR R; try clear kq6 kz6
  try simp only [go_sem]
  refine W_cond rfl (fun c1 => ?_) (fun c1 => ?_)
  · -- c1 true
    try simp only [nrm] at c1
    have hi' : i < l.length := by first | assumption | omega
    obtain ⟨s, hx⟩ : ∃ s, l[i]? = some s := ⟨l[i], by simp [hi']⟩
    have hdrop : l.drop i = s :: l.drop (i + 1) := by
      rw [List.drop_eq_getElem_cons hi']; congr 1; exact (List.getElem?_eq_some_iff.1 hx).2
    obtain ⟨hs0, hs1⟩ := hrg s (List.mem_of_getElem? hx)
    obtain ⟨r, hr⟩ : ∃ r, ct.town.rooms[s.toNat]? = some r := ⟨_, List.getElem?_eq_getElem (by omega)⟩
    rw [hdrop] at hinv
    simp only [overL, hr, Option.getD_some] at hinv
    refine W_skip (kq5 _ _ ?_)
    refine W_seq fun kz7 kq7 => ?_
    refine W_block ?_
    refine W_seq fun kz8 kq8 => ?_
    refine W_draw [2, 3, 5, 7, 31] [0, 1, 2, 3, 4, 5, 6, 7, 8, 9, 10, 11] [] [[], [0], [], [2], [2, 3], [], [], [5, 6], [5, 6, 7], [2, 3, 4, 5, 6, 7, 8], [2, 3, 4, 5, 6, 7, 8, 9], [0, 1, 2, 3, 4, 5, 6, 7, 8, 9, 10]] mixed (by kernel_rfl) fun R hR => ?_   -- r5
    simp only [go_sem, hx, hs0, hr]
    try refine And.intro (by repeat' (first | refine And.intro ?_ ?_ | exact GOr_right (fun _ => by simp only [go_sem, hx, hs0, hr]))) ?_
    refine hR _ _ (kq8 _ _ ?_); clear hR R; try clear kq8 kz8
    try simp only [go_sem, hx, hs0, hr]
    refine W_cond rfl (fun c2 => ?_) (fun c2 => ?_)
    · -- c2 true
      try simp only [nrm] at c2
      refine W_seq fun kz9 kq9 => ?_
      refine W_region [4] fun R hR => ?_   -- r6
      simp only [go_sem, hx, hs0, hr]
      refine hR _ _ (kq9 _ _ ?_); clear hR R; try clear kq9 kz9
      try simp only [go_sem, hx, hs0, hr]
      refine W_ret ?_
      simp only [go_sem, hx, hs0, hr]
      refine ⟨.inr (by trivial), ?_⟩
      first | refine Fin_same hcl rfl (Wk_eq ?_ (by simp only [go_sem])) | refine Fin_self hcl rfl (Wk_eq ?_ (by simp only [go_sem]))
      try simp only [go_sem]
      all_goals
        rw [hinv, if_pos c2]; rfl
    · -- c2 false
      try simp only [nrm] at c2
      refine W_skip (kq7 _ _ ?_)
      refine W_region [2, 3, 5, 7] fun R hR => ?_   -- r4
      simp only [go_sem, hx, hs0, hr]
      try simp (disch := omega) only [wrapI, wrapU]
      refine hR _ _ ?_; clear hR R
      try simp only [go_sem, hx, hs0, hr]
      refine ⟨i + 1, ?_, by (try simp only []); omega, ?_⟩
      · first | exact Weak.refl | exact Weak.eq (by first | rfl | (simp only [go_sem]; done) | (simp only [go_sem]; rfl) | (simp [go_sem]; done) | (simp [go_sem]; omega)) (by first | rfl | (simp only [go_sem]; done) | (simp [go_sem]; done))
      · try dsimp only
        exact ⟨hi', by rw [hinv, if_neg c2]⟩
  · -- c1 false
    try simp only [nrm] at c1
    have hdrop : l.drop i = [] := List.drop_eq_nil_of_le (by omega)
    rw [hdrop] at hinv
    simp only [overL] at hinv
    refine W_exit ?_
    simp only [go_sem]
    refine kq3 _ _ ?_
    refine W_seq fun kz10 kq10 => ?_
    refine W_region [4] fun R hR => ?_   -- r7
    simp only [go_sem]
    refine hR _ _ (kq10 _ _ ?_); clear hR R; try clear kq10 kz10
    try simp only [go_sem]
    refine W_ret ?_
    simp only [go_sem]
    refine ⟨.inr (by trivial), ?_⟩
    first | refine Fin_same hcl rfl (Wk_eq ?_ (by simp only [go_sem])) | refine Fin_self hcl rfl (Wk_eq ?_ (by simp only [go_sem]))
    try simp only [go_sem]
    all_goals
      rw [hinv]; rfl
set_option maxHeartbeats 2000000 in
theorem rsleeps_pc (Y : YEnv) (σ : Sg) (ct : City) (l : List Band) (hc : ct.Ok) (hl : BandsOk l) (hlen : l.length ≤ 1000) (hk : chkCity ct = 0) (hv : ∀ b, b ∈ l → chkBand ct b = 0) :
    PC Try.prog Y 112 [ctPV ct, bands l] σ (.bool (decide (awkOf ct l = 0))) (σ) := by
  refine PC_of_W Try.func112 rfl (by kernel_rfl) Try.ntmps112 (by simp) fun hcl hca => ?_
  have hsl := hc.hsl
  rw [show awkOf ct l = awkL ct l 0 ct.sleep from rfl]
  obtain ⟨res, hres⟩ : ∃ r, awkL ct l 0 ct.sleep = r := ⟨_, rfl⟩
  rw [hres]
  refine W_seq fun kz1 kq1 => ?_
  refine W_region [1, 2] fun R hR => ?_   -- r0
  simp only [go_sem]
  refine hR _ _ (kq1 _ _ ?_); clear hR R; try clear kq1 kz1
  try simp only [go_sem]
  refine W_seq fun kz2 kq2 => ?_
  refine W_seq fun kz3 kq3 => ?_
  refine W_region [1, 2, 5] fun R hR => ?_   -- r1
  simp only [go_sem]
  refine hR _ _ (kq3 _ _ ?_); clear hR R; try clear kq3 kz3
  try simp only [go_sem]
  refine W_block ?_
  refine W_loopS (α := Nat) (fun (i : Nat) => [(5, I i)]) (fun (i : Nat) => i ≤ ct.sleep.length ∧ res = awkL ct l i (ct.sleep.drop i)) (fun (i : Nat) => ct.sleep.length - i) (0) rfl (⟨Nat.zero_le _, hres.symm⟩) ?_
  rintro i ⟨hi, hinv⟩
  refine W_seq fun kz4 kq4 => ?_
  refine W_seq fun kz5 kq5 => ?_
  refine W_region [1, 2, 5, 12] fun R hR => ?_   -- r2
  simp only [go_sem]
  refine hR _ _ (kq5 _ _ ?_); clear hR R; try clear kq5 kz5
  try simp only [go_sem]
  refine W_cond rfl (fun c1 => ?_) (fun c1 => ?_)
  · -- c1 true
    try simp only [nrm] at c1
    have hi' : i < ct.sleep.length := by first | assumption | omega
    obtain ⟨owed, hx⟩ : ∃ owed, ct.sleep[i]? = some owed := ⟨ct.sleep[i], by simp [hi']⟩
    have hdrop : ct.sleep.drop i = owed :: ct.sleep.drop (i + 1) := by
      rw [List.drop_eq_getElem_cons hi']; congr 1; exact (List.getElem?_eq_some_iff.1 hx).2
    rw [hdrop] at hinv
    simp only [awkL] at hinv
    refine W_skip (kq4 _ _ ?_)
    refine W_seq fun kz6 kq6 => ?_
    refine W_block ?_
    refine W_seq fun kz7 kq7 => ?_
    refine W_region [1, 2, 5, 7] fun R hR => ?_   -- r4
    simp only [go_sem, hx]
    refine GCall_of (rsleep_pc Y _ ct l i hc hl hlen hv) ?_   -- t19
    simp only [go_sem, hx]
    refine hR _ _ (kq7 _ _ ?_); clear hR R; try clear kq7 kz7
    try simp only [go_sem, hx]
    refine W_seq fun kz8 kq8 => ?_
    refine W_region [1, 2, 5, 28] fun R hR => ?_   -- r5
    simp only [go_sem, hx]
    refine hR _ _ (kq8 _ _ ?_); clear hR R; try clear kq8 kz8
    try simp only [go_sem, hx]
    refine W_cond rfl (fun c2 => ?_) (fun c2 => ?_)
    · -- c2 true
      try simp only [nrm] at c2
      refine W_seq fun kz9 kq9 => ?_
      refine W_region [4] fun R hR => ?_   -- r6
      simp only [go_sem, hx]
      refine hR _ _ (kq9 _ _ ?_); clear hR R; try clear kq9 kz9
      try simp only [go_sem, hx]
      refine W_ret ?_
      simp only [go_sem, hx]
      refine ⟨.inr (by trivial), ?_⟩
      first | refine Fin_same hcl rfl (Wk_eq ?_ (by simp only [go_sem])) | refine Fin_self hcl rfl (Wk_eq ?_ (by simp only [go_sem]))
      try simp only [go_sem]
      all_goals
        rw [hinv, if_pos c2]; rfl
    · -- c2 false
      try simp only [nrm] at c2
      refine W_skip (kq6 _ _ ?_)
      refine W_region [1, 2, 5] fun R hR => ?_   -- r3
      simp only [go_sem, hx]
      try simp (disch := omega) only [wrapI, wrapU]
      refine hR _ _ ?_; clear hR R
      try simp only [go_sem, hx]
      refine ⟨i + 1, ?_, by (try simp only []); omega, ?_⟩
      · first | exact Weak.refl | exact Weak.eq (by first | rfl | (simp only [go_sem]; done) | (simp only [go_sem]; rfl) | (simp [go_sem]; done) | (simp [go_sem]; omega)) (by first | rfl | (simp only [go_sem]; done) | (simp [go_sem]; done))
      · try dsimp only
        exact ⟨hi', by rw [hinv, if_neg c2]⟩
  · -- c1 false
    try simp only [nrm] at c1
    have hdrop : ct.sleep.drop i = [] := List.drop_eq_nil_of_le (by omega)
    rw [hdrop] at hinv
    simp only [awkL] at hinv
    refine W_exit ?_
    simp only [go_sem]
    refine kq2 _ _ ?_
    refine W_seq fun kz10 kq10 => ?_
    refine W_region [4] fun R hR => ?_   -- r7
    simp only [go_sem]
    refine hR _ _ (kq10 _ _ ?_); clear hR R; try clear kq10 kz10
    try simp only [go_sem]
    refine W_ret ?_
    simp only [go_sem]
    refine ⟨.inr (by trivial), ?_⟩
    first | refine Fin_same hcl rfl (Wk_eq ?_ (by simp only [go_sem])) | refine Fin_self hcl rfl (Wk_eq ?_ (by simp only [go_sem]))
    try simp only [go_sem]
    all_goals
      rw [hinv]; rfl
set_option maxHeartbeats 2000000 in
theorem rrequest_pc (Y : YEnv) (σ : Sg) (ct : City) (w : List Band) (b : Band) (hc : ct.Ok) (hl : BandsOk w) (hw : w.length ≤ 999) (hk : chkCity ct = 0) (hv : ∀ x, x ∈ w → chkBand ct x = 0) (hb : b.path.length < 2 ^ 50) (hbv : chkBand ct b = 0) :
    PC Try.prog Y 77 [ctPV ct, bands w, bdPV b] σ (I (reqOf ct w b)) (σ) := by
  refine PC_of_W Try.func77 rfl (by kernel_rfl) Try.ntmps77 (by simp) fun hcl hca => ?_
  have hl2 := hl.2
  have hall : BandsOk (w ++ [b]) := ⟨by simp; omega, fun x hx => by rcases List.mem_append.1 hx with h | h; exact hl2 x h; simp only [List.mem_singleton] at h; subst h; exact hb⟩
  have hval : ∀ x, x ∈ w ++ [b] → chkBand ct x = 0 := fun x hx => by rcases List.mem_append.1 hx with h | h; exact hv x h; simp only [List.mem_singleton] at h; subst h; exact hbv
  have hcl0 : clashOf ct b w = clashOf ct b (w.drop 0) := rfl
  have q1 := clash_or ct b w
  have q2 := over_or ct b
  have q3 := awk_or ct (w ++ [b])
  unfold reqOf
  rw [firstOf3]
  refine W_seq fun kz1 kq1 => ?_
  refine W_region [1, 3, 5] fun R hR => ?_   -- r0
  simp only [go_sem]
  refine hR _ _ (kq1 _ _ ?_); clear hR R; try clear kq1 kz1
  try simp only [go_sem]
  refine W_seq fun kz2 kq2 => ?_
  refine W_seq fun kz3 kq3 => ?_
  refine W_region [1, 3, 5, 7] fun R hR => ?_   -- r1
  simp only [go_sem]
  refine hR _ _ (kq3 _ _ ?_); clear hR R; try clear kq3 kz3
  try simp only [go_sem]
  refine W_block ?_
  refine W_loopS (α := Nat) (fun (i : Nat) => [(7, I i)]) (fun (i : Nat) => i ≤ w.length ∧ clashOf ct b w = clashOf ct b (w.drop i)) (fun (i : Nat) => w.length - i) (0) rfl (⟨Nat.zero_le _, rfl⟩) ?_
  rintro i ⟨hi, hinv⟩
  refine W_seq fun kz4 kq4 => ?_
  refine W_seq fun kz5 kq5 => ?_
  refine W_region [1, 3, 5, 7, 11] fun R hR => ?_   -- r2
  simp only [go_sem]
  refine hR _ _ (kq5 _ _ ?_); clear hR R; try clear kq5 kz5
  try simp only [go_sem]
  refine W_cond rfl (fun c1 => ?_) (fun c1 => ?_)
  · -- c1 true
    try simp only [nrm] at c1
    have hi' : i < w.length := by first | assumption | omega
    obtain ⟨x, hx⟩ : ∃ x, w[i]? = some x := ⟨w[i], by simp [hi']⟩
    have hdrop : w.drop i = x :: w.drop (i + 1) := by
      rw [List.drop_eq_getElem_cons hi']; congr 1; exact (List.getElem?_eq_some_iff.1 hx).2
    have hxw := List.mem_of_getElem? hx
    rw [hdrop] at hinv
    simp only [clashOf] at hinv
    refine W_skip (kq4 _ _ ?_)
    refine W_seq fun kz6 kq6 => ?_
    refine W_block ?_
    refine W_seq fun kz7 kq7 => ?_
    refine W_draw [1, 3, 5, 7, 21] [0, 1, 2, 3, 4, 5, 6, 7] [] [[], [], [], [1, 2], [1, 2, 3], [], [0, 1, 2, 3, 4, 5], [0, 1, 2, 3, 4, 5, 6]] mixed (by kernel_rfl) fun R hR => ?_   -- r4
    simp only [go_sem, hx]
    refine GCall_of (PC.val (v' := I (crossVal ct b x)) (rcross_pc Y _ ct x b hc (hl2 x hxw) hb hk (hv x hxw) hbv) (by rw [crossVal_symm hk (hv x hxw) hbv])) ?_   -- t20
    simp only [go_sem, hx]
    try refine And.intro (by repeat' (first | refine And.intro ?_ ?_ | exact GOr_right (fun _ => by simp only [go_sem, hx]))) ?_
    refine hR _ _ (kq7 _ _ ?_); clear hR R; try clear kq7 kz7
    try simp only [go_sem, hx]
    refine W_cond rfl (fun c2 => ?_) (fun c2 => ?_)
    · -- c2 true
      try simp only [nrm] at c2
      refine W_seq fun kz8 kq8 => ?_
      refine W_region [6] fun R hR => ?_   -- r5
      simp only [go_sem, hx]
      refine hR _ _ (kq8 _ _ ?_); clear hR R; try clear kq8 kz8
      try simp only [go_sem, hx]
      refine W_ret ?_
      simp only [go_sem, hx]
      refine ⟨.inr (by trivial), ?_⟩
      first | refine Fin_same hcl rfl (Wk_eq ?_ (by simp only [go_sem])) | refine Fin_self hcl rfl (Wk_eq ?_ (by simp only [go_sem]))
      try simp only [go_sem]
      all_goals
        rw [hinv, if_pos c2]; rfl
    · -- c2 false
      try simp only [nrm] at c2
      refine W_skip (kq6 _ _ ?_)
      refine W_region [1, 3, 5, 7] fun R hR => ?_   -- r3
      simp only [go_sem, hx]
      try simp (disch := omega) only [wrapI, wrapU]
      refine hR _ _ ?_; clear hR R
      try simp only [go_sem, hx]
      refine ⟨i + 1, ?_, by (try simp only []); omega, ?_⟩
      · first | exact Weak.refl | exact Weak.eq (by first | rfl | (simp only [go_sem]; done) | (simp only [go_sem]; rfl) | (simp [go_sem]; done) | (simp [go_sem]; omega)) (by first | rfl | (simp only [go_sem]; done) | (simp [go_sem]; done))
      · try dsimp only
        exact ⟨hi', by rw [hinv, if_neg (by simp [c2])]⟩
  · -- c1 false
    try simp only [nrm] at c1
    have hdrop : w.drop i = [] := List.drop_eq_nil_of_le (by omega)
    rw [hdrop] at hinv
    simp only [clashOf] at hinv
    refine W_exit ?_
    simp only [go_sem]
    refine kq2 _ _ ?_
    refine W_seq fun kz9 kq9 => ?_
    refine W_seq fun kz10 kq10 => ?_
    refine W_region [1, 3, 5, 25] fun R hR => ?_   -- r6
    simp only [go_sem]
    refine GCall_of (rfits_pc Y _ ct b hc hb hk) ?_   -- t24
    simp only [go_sem]
    refine hR _ _ (kq10 _ _ ?_); clear hR R; try clear kq10 kz10
    try simp only [go_sem]
    refine W_cond rfl (fun c3 => ?_) (fun c3 => ?_)
    · -- c3 true
      try simp only [nrm] at c3
      refine W_seq fun kz11 kq11 => ?_
      refine W_region [6] fun R hR => ?_   -- r7
      simp only [go_sem]
      refine hR _ _ (kq11 _ _ ?_); clear hR R; try clear kq11 kz11
      try simp only [go_sem]
      refine W_ret ?_
      simp only [go_sem]
      refine ⟨.inr (by trivial), ?_⟩
      first | refine Fin_same hcl rfl (Wk_eq ?_ (by simp only [go_sem])) | refine Fin_self hcl rfl (Wk_eq ?_ (by simp only [go_sem]))
      try simp only [go_sem]
      all_goals
        rw [if_neg (by simp [hinv])]; rcases q2 with q2 | q2 <;> simp_all
    · -- c3 false
      try simp only [nrm] at c3
      refine W_skip (kq9 _ _ ?_)
      refine W_seq fun kz12 kq12 => ?_
      refine W_seq fun kz13 kq13 => ?_
      refine W_draw [34] [0, 1, 2, 3, 4, 5, 6, 7, 8] [(0, 6), (0, 7), (4, 3), (5, 3)] [[], [], [], [1, 2], [], [4], [1, 2, 3, 4, 5], [0, 1, 2, 3, 4, 5, 6], [0, 1, 2, 3, 4, 5, 6, 7]] mixed (by kernel_rfl) fun R hR => ?_   -- r8
      simp only [go_sem]
      try simp (disch := first | omega | (simp only [go_sem] <;> omega)) only [wrapI, wrapU, appX_exact, appX_tok]
      try simp only [go_sem]
      try simp (disch := first | omega | (simp only [go_sem] <;> omega)) only [wrapI, wrapU, appX_exact, appX_tok]
      try simp only [go_sem]
      refine GCall_of (PC.ofRo (rsleeps_pc Y _ ct (w ++ [b]) hc hall (by simp; omega) hk hval) (by simp only [go_sem, bands] <;> rfl)) ?_   -- t33
      simp only [go_sem]
      try refine And.intro (by repeat' (first | refine And.intro ?_ ?_ | exact GOr_right (fun _ => by simp only [go_sem]))) ?_
      refine hR _ _ (kq13 _ _ ?_); clear hR R; try clear kq13 kz13
      try simp only [go_sem]
      refine W_cond rfl (fun c4 => ?_) (fun c4 => ?_)
      · -- c4 true
        try simp only [nrm] at c4
        refine W_seq fun kz14 kq14 => ?_
        refine W_region [6] fun R hR => ?_   -- r9
        simp only [go_sem]
        refine hR _ _ (kq14 _ _ ?_); clear hR R; try clear kq14 kz14
        try simp only [go_sem]
        refine W_ret ?_
        simp only [go_sem]
        refine ⟨.inr (by trivial), ?_⟩
        first | refine Fin_same hcl rfl (Wk_eq ?_ (by simp only [go_sem])) | refine Fin_self hcl rfl (Wk_eq ?_ (by simp only [go_sem]))
        try simp only [go_sem]
        all_goals
          rw [if_neg (by simp [hinv])]; rcases q2 with q2 | q2 <;> rcases q3 with q3 | q3 <;> simp_all
      · -- c4 false
        try simp only [nrm] at c4
        refine W_skip (kq12 _ _ ?_)
        refine W_seq fun kz15 kq15 => ?_
        refine W_region [6] fun R hR => ?_   -- r10
        simp only [go_sem]
        refine hR _ _ (kq15 _ _ ?_); clear hR R; try clear kq15 kz15
        try simp only [go_sem]
        refine W_ret ?_
        simp only [go_sem]
        refine ⟨.inr (by trivial), ?_⟩
        first | refine Fin_same hcl rfl (Wk_eq ?_ (by simp only [go_sem])) | refine Fin_self hcl rfl (Wk_eq ?_ (by simp only [go_sem]))
        try simp only [go_sem]
        all_goals
          rw [if_neg (by simp [hinv])]; rcases q2 with q2 | q2 <;> rcases q3 with q3 | q3 <;> simp_all
set_option maxHeartbeats 2000000 in
theorem rGrant_pc (Y : YEnv) (σ : Sg) (ct : City) (l : List Band) (hc : ct.Ok) (hl : BandsOk l) :
    PC Try.prog Y 38 [ctPV ct, bands l] σ (.tuple [ints (grantAns ct l).1, I (grantAns ct l).2]) (σ) := by
  refine PC_of_W Try.func38 rfl (by kernel_rfl) Try.ntmps38 (by simp) fun hcl hca => ?_
  have hl1 := hl.1
  have hl2 := hl.2
  obtain ⟨res, hres⟩ : ∃ r, grantAns ct l = r := ⟨_, rfl⟩
  rw [hres]
  refine W_seq fun kz1 kq1 => ?_
  refine W_region [1, 2] fun R hR => ?_   -- r0
  simp only [go_sem]
  refine hR _ _ (kq1 _ _ ?_); clear hR R; try clear kq1 kz1
  try simp only [go_sem]
  refine W_seq fun kz2 kq2 => ?_
  refine W_seq fun kz3 kq3 => ?_
  refine W_region [1, 2, 6] fun R hR => ?_   -- r1
  simp only [go_sem]
  refine GCall_of (rcheckBands_pc Y _ ct l hc hl) ?_   -- t13
  simp only [go_sem]
  refine hR _ _ (kq3 _ _ ?_); clear hR R; try clear kq3 kz3
  try simp only [go_sem]
  refine W_seq fun kz4 kq4 => ?_
  refine W_region [1, 2, 6, 15] fun R hR => ?_   -- r2
  simp only [go_sem]
  refine hR _ _ (kq4 _ _ ?_); clear hR R; try clear kq4 kz4
  try simp only [go_sem]
  refine W_cond rfl (fun c1 => ?_) (fun c1 => ?_)
  · -- c1 true
    try simp only [nrm] at c1
    refine W_seq fun kz5 kq5 => ?_
    refine W_region [4, 5] fun R hR => ?_   -- r3
    simp only [go_sem]
    refine hR _ _ (kq5 _ _ ?_); clear hR R; try clear kq5 kz5
    try simp only [go_sem]
    refine W_ret ?_
    simp only [go_sem]
    refine ⟨.inr (by trivial), ?_⟩
    refine Fin_same hcl rfl (Wk.ro (by simp only [go_sem]) ?_)
    try simp only [go_sem]
    all_goals
      rw [← hres]; simp [grantAns, c1]
  · -- c1 false
    try simp only [nrm] at c1
    obtain ⟨hk, hlen, hcb⟩ := chkAll_ok c1
    have hv := chkBands_ok hcb
    have hq : res = (grantL ct [] l, 0) := by rw [← hres]; simp [grantAns, c1]
    refine W_skip (kq2 _ _ ?_)
    refine W_seq fun kz6 kq6 => ?_
    refine W_region [1, 2, 7] fun R hR => ?_   -- r4
    simp only [go_sem]
    refine hR _ _ (kq6 _ _ ?_); clear hR R; try clear kq6 kz6
    try simp only [go_sem]
    refine W_seq fun kz7 kq7 => ?_
    refine W_region [1, 2, 7, 8] fun R hR => ?_   -- r5
    simp only [go_sem]
    refine hR _ _ (kq7 _ _ ?_); clear hR R; try clear kq7 kz7
    try simp only [go_sem]
    refine W_seq fun kz8 kq8 => ?_
    refine W_seq fun kz9 kq9 => ?_
    refine W_region [1, 2, 7, 8, 9] fun R hR => ?_   -- r6
    simp only [go_sem]
    refine hR _ _ (kq9 _ _ ?_); clear hR R; try clear kq9 kz9
    try simp only [go_sem]
    refine W_block ?_
    refine W_weak (Weak.room (t := 7) (es := 6) rfl (by simp)) ?_
    refine W_weak (Weak.keep [1, 2, 7, 8, 9]) ?_
    simp only [go_sem]
    refine W_weak (Weak.room (t := 8) (es := 1) rfl (by simp)) ?_
    refine W_weak (Weak.keep [1, 2, 7, 8, 9]) ?_
    simp only [go_sem]
    refine W_loopT (α := Nat × (List Band) × (List Int)) (fun ⟨i, w, out⟩ => [(7, .isl (w.map bdPV) (.tok σ.rooms.length w.length 6)), (8, .isl (out.map I) (.tok (σ.rooms.length + 1) out.length 1)), (9, I i)]) (fun ⟨i, w, out⟩ => σ.ext [some (ctCells ct)] [w.length, out.length]) (fun ⟨i, w, out⟩ => i ≤ l.length ∧ w.length ≤ i ∧ out.length = i ∧ (∀ x, x ∈ w → x ∈ l) ∧ res = (out ++ grantL ct w (l.drop i), 0)) (fun ⟨i, w, out⟩ => l.length - i) ((0, [], [])) (by simp only [go_sem, List.map]) (by first | rfl | (simp only [go_sem]; done) | (simp only [go_sem]; rfl)) (⟨Nat.zero_le _, Nat.le_refl _, rfl, (fun x hx => by cases hx), hq⟩) ?_
    rintro ⟨i, w, out⟩ ⟨hi, hwl, hol, hsub, hinv⟩
    refine W_seq fun kz10 kq10 => ?_
    refine W_seq fun kz11 kq11 => ?_
    refine W_region [1, 2, 7, 8, 9, 20] fun R hR => ?_   -- r7
    simp only [go_sem]
    refine hR _ _ (kq11 _ _ ?_); clear hR R; try clear kq11 kz11
    try simp only [go_sem]
    refine W_cond rfl (fun c2 => ?_) (fun c2 => ?_)
    · -- c2 true
      try simp only [nrm] at c2
      have hi' : i < l.length := by first | assumption | omega
      obtain ⟨b, hx⟩ : ∃ b, l[i]? = some b := ⟨l[i], by simp [hi']⟩
      have hdrop : l.drop i = b :: l.drop (i + 1) := by
        rw [List.drop_eq_getElem_cons hi']; congr 1; exact (List.getElem?_eq_some_iff.1 hx).2
      have hbl := List.mem_of_getElem? hx
      rw [hdrop] at hinv
      simp only [grantL] at hinv
      refine W_skip (kq10 _ _ ?_)
      refine W_seq fun kz12 kq12 => ?_
      refine W_block ?_
      refine W_seq fun kz13 kq13 => ?_
      refine W_draw [1, 2, 7, 8, 9, 10] [0, 1, 2, 3, 4, 5, 6, 7] [] [[], [], [], [], [2, 3], [2, 3, 4], [0, 1, 2, 3, 4, 5], [0, 1, 2, 3, 4, 5, 6]] mixed (by kernel_rfl) fun R hR => ?_   -- r9
      simp only [go_sem, hx]
      refine GCall_of (PC.ofRo (rrequest_pc Y _ ct w b hc ⟨by omega, fun x hx => hl2 x (hsub x hx)⟩ (by omega) hk (fun x hx => hv x (hsub x hx)) (hl2 b hbl) (hv b hbl)) (by simp only [go_sem, bands] <;> rfl)) ?_   -- t29
      simp only [go_sem, hx]
      try refine And.intro (by repeat' (first | refine And.intro ?_ ?_ | exact GOr_right (fun _ => by simp only [go_sem, hx]))) ?_
      refine hR _ _ (kq13 _ _ ?_); clear hR R; try clear kq13 kz13
      try simp only [go_sem, hx]
      refine W_seq fun kz14 kq14 => ?_
      refine W_seq fun kz15 kq15 => ?_
      refine W_region [1, 2, 7, 8, 9, 10, 31] fun R hR => ?_   -- r10
      simp only [go_sem, hx]
      refine hR _ _ (kq15 _ _ ?_); clear hR R; try clear kq15 kz15
      try simp only [go_sem, hx]
      refine W_cond rfl (fun c3 => ?_) (fun c3 => ?_)
      · -- c3 true
        try simp only [nrm] at c3
        refine W_region [1, 2, 7, 8, 9, 10] fun R hR => ?_   -- r11
        simp only [go_sem, hx]
        simp (disch := first | omega | (simp only [go_sem] <;> omega)) only [wrapI, wrapU, appX_exact, appX_tok]
        try simp only [go_sem, hx]
        refine hR _ _ (kq14 _ _ ?_); clear hR R; try clear kq14 kz14
        try simp only [go_sem, hx]
        refine W_region [1, 2, 7, 8, 9] fun R hR => ?_   -- r12
        simp only [go_sem, hx]
        simp (disch := first | omega | (simp only [go_sem] <;> omega)) only [wrapI, wrapU, appX_exact, appX_tok]
        try simp only [go_sem, hx]
        refine hR _ _ (kq12 _ _ ?_); clear hR R; try clear kq12 kz12
        try simp only [go_sem, hx]
        refine W_region [1, 2, 7, 8, 9] fun R hR => ?_   -- r8
        simp only [go_sem, hx]
        try simp (disch := omega) only [wrapI, wrapU]
        refine hR _ _ ?_; clear hR R
        try simp only [go_sem, hx]
        refine ⟨(i + 1, w ++ [b], out ++ [reqOf ct w b]), ?_, by (try simp only []); omega, ?_⟩
        · first | exact Weak.refl | exact Weak.eq (by first | rfl | (simp only [go_sem]; done) | (simp only [go_sem]; rfl) | (simp [go_sem]; done) | (simp [go_sem]; omega)) (by first | rfl | (simp only [go_sem]; done) | (simp [go_sem]; done))
        · try dsimp only
          refine ⟨hi', by (try simp); omega, by simp; omega, fun x hx => ?_, ?_⟩
          · first | exact hsub x hx | (rcases List.mem_append.1 hx with h | h; exact hsub x h; simp only [List.mem_singleton] at h; subst h; exact hbl)
          · rw [hinv]; simp [c3]
      · -- c3 false
        try simp only [nrm] at c3
        refine W_skip (kq14 _ _ ?_)
        refine W_region [1, 2, 7, 8, 9] fun R hR => ?_   -- r12
        simp only [go_sem, hx]
        simp (disch := first | omega | (simp only [go_sem] <;> omega)) only [wrapI, wrapU, appX_exact, appX_tok]
        try simp only [go_sem, hx]
        refine hR _ _ (kq12 _ _ ?_); clear hR R; try clear kq12 kz12
        try simp only [go_sem, hx]
        refine W_region [1, 2, 7, 8, 9] fun R hR => ?_   -- r8
        simp only [go_sem, hx]
        try simp (disch := omega) only [wrapI, wrapU]
        refine hR _ _ ?_; clear hR R
        try simp only [go_sem, hx]
        refine ⟨(i + 1, w, out ++ [reqOf ct w b]), ?_, by (try simp only []); omega, ?_⟩
        · first | exact Weak.refl | exact Weak.eq (by first | rfl | (simp only [go_sem]; done) | (simp only [go_sem]; rfl) | (simp [go_sem]; done) | (simp [go_sem]; omega)) (by first | rfl | (simp only [go_sem]; done) | (simp [go_sem]; done))
        · try dsimp only
          refine ⟨hi', by (try simp); omega, by simp; omega, fun x hx => ?_, ?_⟩
          · first | exact hsub x hx | (rcases List.mem_append.1 hx with h | h; exact hsub x h; simp only [List.mem_singleton] at h; subst h; exact hbl)
          · rw [hinv]; simp [c3]
    · -- c2 false
      try simp only [nrm] at c2
      have hdrop : l.drop i = [] := List.drop_eq_nil_of_le (by omega)
      rw [hdrop] at hinv
      simp only [grantL, List.append_nil] at hinv
      refine W_exit ?_
      simp only [go_sem]
      refine kq8 _ _ ?_
      refine W_seq fun kz16 kq16 => ?_
      refine W_region [4, 5] fun R hR => ?_   -- r13
      simp only [go_sem]
      refine hR _ _ (kq16 _ _ ?_); clear hR R; try clear kq16 kz16
      try simp only [go_sem]
      refine W_ret ?_
      simp only [go_sem]
      refine ⟨.inr (by trivial), ?_⟩
      refine Fin_same hcl rfl (Wk.ro (by simp only [go_sem]) ?_)
      try simp only [go_sem]
      all_goals
        rw [hinv]

end Go.Proofs.Ytnpamcpoaklgeaa

namespace Go.Proofs.Ytnpamcpoaklgeaa
open Go Go.RowKit

theorem and1 {m : Nat} (h : m < 2 ^ 62) : IntKind.i64.wrap (((BitVec.ofInt 64 (m : Int) &&& BitVec.ofInt 64 1).toNat : Nat) : Int) = ((m % 2 : Nat) : Int) := by
  have e1 : (BitVec.ofInt 64 (m : Int)).toNat = m := by
    rw [BitVec.toNat_ofInt]
    have : ((m : Int) % ((2 ^ 64 : Nat) : Int)).toNat = m := by
      rw [Int.emod_eq_of_lt (by omega) (by omega)]; simp
    exact this
  have e2 : (BitVec.ofInt 64 1).toNat = 1 := rfl
  rw [BitVec.toNat_and, e1, e2, Nat.and_one_is_mod]
  exact wrapI (by omega) (by omega)
theorem shrN {n i : Nat} (hi : i < 64) : shiftPV .shr .i64 (n : Int) (i : Int) = some (.int .i64 ((n / 2 ^ i : Nat) : Int)) := by
  unfold shiftPV
  rw [if_neg (by omega)]
  have e : min ((i : Int).toNat) IntKind.i64.bits = i := by
    show min ((i : Int).toNat) 64 = i
    omega
  simp only [e]
  congr 2
  rw [Int.fdiv_eq_ediv_of_nonneg _ (by exact Int.le_of_lt (Int.pow_pos (by omega)))]
  norm_cast
theorem shl1 {n : Nat} (hn : n ≤ 20) : shiftPV .shl .i64 1 (n : Int) = some (.int .i64 ((2 ^ n : Nat) : Int)) := by
  unfold shiftPV
  rw [if_neg (by omega)]
  have e : min ((n : Int).toNat) IntKind.i64.bits = n := by
    show min ((n : Int).toNat) 64 = n
    omega
  simp only [e]
  have hp : 2 ^ n ≤ 2 ^ 20 := Nat.pow_le_pow_right (by omega) hn
  have e2 : (1 : Int) * 2 ^ n = ((2 ^ n : Nat) : Int) := by rw [Int.one_mul]; norm_cast
  rw [e2]
  generalize 2 ^ n = m at hp ⊢
  rw [wrapI (by omega) (by omega)]

def cmpL : List Int → List Int → Int
  | [], [] => 0
  | [], _ :: _ => -1
  | _ :: _, [] => 1
  | x :: a, y :: b => if x < y then -1 else if y < x then 1 else cmpL a b
def betterB (s : List Int) (p : Int) (t : List Int) (m : Int) : Bool :=
  decide (t.length < s.length) || (decide (s.length = t.length) && (decide (m < p) || (decide (p = m) && decide (cmpL s t < 0))))
/-- The numbers of a set's members below n. -/
def memN (set n : Nat) : List Nat := (List.range n).filter fun i => decide (set / 2 ^ i % 2 = 1)
def bandsAt (l : List Band) (ms : List Nat) : List Band := ms.filterMap fun i => l[i]?
def pplOf : List Band → Int
  | [] => 0
  | b :: l => b.people + pplOf l
theorem pplOf_snoc (b : Band) : ∀ l : List Band, pplOf (l ++ [b]) = pplOf l + b.people := by
  intro l
  induction l with
  | nil => simp [pplOf]
  | cons a l ih => simp only [List.cons_append, pplOf, ih]; omega
def intsN (ms : List Nat) : List Int := ms.map fun i : Nat => (i : Int)
theorem memN_succ (set n : Nat) : memN set (n + 1) = if set / 2 ^ n % 2 = 1 then memN set n ++ [n] else memN set n := by
  unfold memN
  rw [List.range_succ, List.filter_append]
  by_cases h : set / 2 ^ n % 2 = 1
  · rw [if_pos h]; simp [h]
  · rw [if_neg h]; simp [h]
theorem bandsAt_snoc {l : List Band} {ms : List Nat} {i : Nat} {b : Band} (h : l[i]? = some b) : bandsAt l (ms ++ [i]) = bandsAt l ms ++ [b] := by
  simp [bandsAt, List.filterMap_append, h]
theorem bandsAt_mem {l : List Band} {ms : List Nat} {b : Band} (h : b ∈ bandsAt l ms) : b ∈ l := by
  unfold bandsAt at h
  obtain ⟨i, _, hi⟩ := List.mem_filterMap.1 h
  exact List.mem_of_getElem? hi
theorem bandsAt_len (l : List Band) (ms : List Nat) : (bandsAt l ms).length ≤ ms.length := List.length_filterMap_le _ _
theorem memN_len (set n : Nat) : (memN set n).length ≤ n := by
  unfold memN
  have := List.length_filter_le (fun i => decide (set / 2 ^ i % 2 = 1)) (List.range n)
  simpa using this
/-- One after the other beside those that are there. -/
def togL (c : City) : List Band → List Band → Bool
  | _, [] => true
  | w, b :: r => (decide (clashOf c b w = 0) && decide (overOf c b = 0)) && togL c (w ++ [b]) r
def togB (c : City) (l : List Band) : Bool := togL c [] l && decide (awkOf c l = 0)
/-- The best of the first sets. -/
def rbRun (c : City) (l : List Band) : Nat → List Int × Int
  | 0 => ([], 0)
  | k + 1 => if betterB (intsN (memN k l.length)) (pplOf (bandsAt l (memN k l.length))) (rbRun c l k).1 (rbRun c l k).2 && togB c (bandsAt l (memN k l.length)) then (intsN (memN k l.length), pplOf (bandsAt l (memN k l.length))) else rbRun c l k
def rbAns (c : City) (l : List Band) : List Int × Int := if chkAll c l ≠ 0 then ([], chkAll c l) else if 8 < (l.length : Int) then ([], 5) else ((rbRun c l (2 ^ l.length)).1, 0)

/-! ### The search -/
/-- All choices that go on from a choice, one after the other: the best so far, and its people. -/
def tryB (c : City) (l : List Band) : Nat → Nat → List Int → List Band → Int → List Int × Int → List Int × Int
  | 0, _, _, _, _, s => s
  | fuel + 1, next, chosen, w, people, s =>
    (List.range' next (l.length - next)).foldl (fun s set => match l[set]? with
      | some b => if reqOf c w b = 0 then tryB c l fuel (set + 1) (chosen ++ [(set : Int)]) (w ++ [b]) (people + b.people) s else s
      | none => s) (if betterB chosen people s.1 s.2 then (chosen, people) else s)
/-- The choices that go on with the members from set on. -/
def trySt (c : City) (l : List Band) (fuel : Nat) (chosen : List Int) (w : List Band) (people : Int) (s : List Int × Int) (set : Nat) : List Int × Int :=
  match l[set]? with
  | some b => if reqOf c w b = 0 then tryB c l fuel (set + 1) (chosen ++ [(set : Int)]) (w ++ [b]) (people + b.people) s else s
  | none => s
def tryF (c : City) (l : List Band) (fuel : Nat) (chosen : List Int) (w : List Band) (people : Int) (set : Nat) (s : List Int × Int) : List Int × Int :=
  (List.range' set (l.length - set)).foldl (trySt c l fuel chosen w people) s
theorem tryB_succ (c : City) (l : List Band) (fuel next : Nat) (chosen : List Int) (w : List Band) (people : Int) (s : List Int × Int) :
    tryB c l (fuel + 1) next chosen w people s = tryF c l fuel chosen w people next (if betterB chosen people s.1 s.2 then (chosen, people) else s) := rfl
theorem tryF_end {c : City} {l : List Band} {fuel : Nat} {chosen : List Int} {w : List Band} {people : Int} {set : Nat} {s : List Int × Int} (h : l.length ≤ set) : tryF c l fuel chosen w people set s = s := by
  unfold tryF
  rw [show l.length - set = 0 by omega]
  rfl
theorem tryF_step {c : City} {l : List Band} {fuel : Nat} {chosen : List Int} {w : List Band} {people : Int} {set : Nat} {s : List Int × Int} {b : Band} (h : l[set]? = some b) :
    tryF c l fuel chosen w people set s = tryF c l fuel chosen w people (set + 1) (if reqOf c w b = 0 then tryB c l fuel (set + 1) (chosen ++ [(set : Int)]) (w ++ [b]) (people + b.people) s else s) := by
  have hlt : set < l.length := (List.getElem?_eq_some_iff.1 h).1
  unfold tryF
  rw [show l.length - set = (l.length - (set + 1)) + 1 by omega, List.range'_succ, List.foldl_cons]
  congr 1
  unfold trySt
  rw [h]
theorem tryB_len (c : City) (l : List Band) : ∀ (fuel next : Nat) (chosen : List Int) (w : List Band) (people : Int) (s : List Int × Int), chosen.length ≤ next → next ≤ l.length → s.1.length ≤ l.length → (tryB c l fuel next chosen w people s).1.length ≤ l.length := by
  intro fuel
  induction fuel with
  | zero => intro next chosen w people s _ _ h; exact h
  | succ fuel ih =>
    intro next chosen w people s hc hn hs
    rw [tryB_succ]
    have key : ∀ (k set : Nat) (s : List Int × Int), next ≤ set → l.length - set = k → s.1.length ≤ l.length → (tryF c l fuel chosen w people set s).1.length ≤ l.length := by
      intro k
      induction k with
      | zero => intro set s _ hk h; rw [tryF_end (by omega)]; exact h
      | succ k ihk =>
        intro set s hns hk h
        obtain ⟨b, hb⟩ : ∃ b, l[set]? = some b := ⟨_, List.getElem?_eq_getElem (show set < l.length by omega)⟩
        rw [tryF_step hb]
        refine ihk _ _ (by omega) (by omega) ?_
        split
        · exact ih _ _ _ _ _ (by simp; omega) (by omega) h
        · exact h
    refine key _ _ _ (Nat.le_refl _) rfl ?_
    split
    · show chosen.length ≤ _; omega
    · exact hs
def pbAns (c : City) (l : List Band) : List Int × Int := if chkAll c l ≠ 0 then ([], chkAll c l) else if 8 < (l.length : Int) then ([], 5) else ((tryB c l (l.length + 1) 0 [] [] 0 ([], 0)).1, 0)
end Go.Proofs.Ytnpamcpoaklgeaa

namespace Go.Proofs.Ytnpamcpoaklgeaa
open Go Go.RowKit
set_option maxRecDepth 100000

def cmp1 (x y : Int) : Int := if x < y then -1 else if y < x then 1 else 0
theorem cmp1_cases (x y : Int) : (x < y ∧ cmp1 x y = -1) ∨ (¬ x < y ∧ y < x ∧ cmp1 x y = 1) ∨ (¬ x < y ∧ ¬ y < x ∧ cmp1 x y = 0) := by
  unfold cmp1
  by_cases h1 : x < y
  · exact .inl ⟨h1, if_pos h1⟩
  · by_cases h2 : y < x
    · exact .inr (.inl ⟨h1, h2, by rw [if_neg h1, if_pos h2]⟩)
    · exact .inr (.inr ⟨h1, h2, by rw [if_neg h1, if_neg h2]⟩)
def bestVars (ct : City) (l : List Band) (n : Nat) (best : List Int) (most : Int) : List (Option (List PV)) :=
  [some (ctCells ct), some [bands l], some [ints best], some [I most], some [.func (.func 78) [] [.ptr (n + 2) 0, .ptr (n + 3) 0, .ptr (n + 1) 0, .ptr n 0, .ptr (n + 4) 0]]]
attribute [go_sem] bestVars
def BestOK (Y : YEnv) (ct : City) (l : List Band) (fuel : Nat) : Prop :=
  ∀ (σ : Sg) (next : Nat) (chosen : List Int) (w : List Band) (people : Int) (best : List Int) (most : Int), CleanSg σ → l.length < next + fuel → next ≤ l.length → chosen.length ≤ next → w.length ≤ next → (∀ x, x ∈ w → x ∈ l) → 0 ≤ people → people ≤ 1000000 * next → best.length ≤ l.length →
    PC Try.prog Y 78 [I next, ints chosen, bands w, I people, .ptr (σ.store.length + 2) 0, .ptr (σ.store.length + 3) 0, .ptr (σ.store.length + 1) 0, .ptr σ.store.length 0, .ptr (σ.store.length + 4) 0]
      (σ.ext (bestVars ct l σ.store.length best most) []) (.tuple []) (σ.ext (bestVars ct l σ.store.length (tryB ct l fuel next chosen w people (best, most)).1 (tryB ct l fuel next chosen w people (best, most)).2) [])
theorem CleanSg.rooms {σ : Sg} (h : CleanSg σ) (rm : List Nat) : CleanSg (σ.ext [] rm) := CleanSg_ext h fun cs hc => by cases hc

set_option maxHeartbeats 2000000 in
theorem isNaN_pc (Y : YEnv) (σ : Sg) (x : Int) :
    PC Try.prog Y 133 [I x] σ (.bool false) (σ) := by
  refine PC_of_W Try.func133 rfl (by kernel_rfl) Try.ntmps133 (by simp) fun hcl hca => ?_
  refine W_seq fun kz1 kq1 => ?_
  refine W_region [0] fun R hR => ?_   -- r0
  simp only [go_sem]
  refine hR _ _ (kq1 _ _ ?_); clear hR R; try clear kq1 kz1
  try simp only [go_sem]
  refine W_seq fun kz2 kq2 => ?_
  refine W_region [2] fun R hR => ?_   -- r1
  simp only [go_sem]
  refine hR _ _ (kq2 _ _ ?_); clear hR R; try clear kq2 kz2
  try simp only [go_sem]
  refine W_ret ?_
  simp only [go_sem]
  refine ⟨.inr (by trivial), ?_⟩
  first | refine Fin_same hcl rfl (Wk_eq ?_ (by simp only [go_sem])) | refine Fin_self hcl rfl (Wk_eq ?_ (by simp only [go_sem]))
  try simp only [go_sem]
  all_goals
    simp
set_option maxHeartbeats 2000000 in
theorem Compare1_pc (Y : YEnv) (σ : Sg) (x y : Int) :
    PC Try.prog Y 113 [I x, I y] σ (I (cmp1 x y)) (σ) := by
  refine PC_of_W Try.func113 rfl (by kernel_rfl) Try.ntmps113 (by simp) fun hcl hca => ?_
  refine W_seq fun kz1 kq1 => ?_
  refine W_region [0, 1] fun R hR => ?_   -- r0
  simp only [go_sem]
  refine hR _ _ (kq1 _ _ ?_); clear hR R; try clear kq1 kz1
  try simp only [go_sem]
  refine W_seq fun kz2 kq2 => ?_
  refine W_region [0, 1, 5] fun R hR => ?_   -- r1
  simp only [go_sem]
  refine GCall_of (isNaN_pc Y _ x) ?_   -- t8
  simp only [go_sem]
  refine hR _ _ (kq2 _ _ ?_); clear hR R; try clear kq2 kz2
  try simp only [go_sem]
  refine W_seq fun kz3 kq3 => ?_
  refine W_region [0, 1, 5, 6] fun R hR => ?_   -- r2
  simp only [go_sem]
  refine GCall_of (isNaN_pc Y _ y) ?_   -- t10
  simp only [go_sem]
  refine hR _ _ (kq3 _ _ ?_); clear hR R; try clear kq3 kz3
  try simp only [go_sem]
  refine W_seq fun kz4 kq4 => ?_
  refine W_seq fun kz5 kq5 => ?_
  refine W_region [0, 1, 6, 11] fun R hR => ?_   -- r3
  simp only [go_sem]
  refine hR _ _ (kq5 _ _ ?_); clear hR R; try clear kq5 kz5
  try simp only [go_sem]
  refine W_cond rfl (fun c1 => ?_) (fun c1 => ?_)
  · -- c1 true
    try simp only [nrm] at c1
    exfalso
    simp at c1
  · -- c1 false
    try simp only [nrm] at c1
    refine W_skip (kq4 _ _ ?_)
    refine W_seq fun kz6 kq6 => ?_
    refine W_seq fun kz7 kq7 => ?_
    refine W_region [0, 1, 13] fun R hR => ?_   -- r7
    simp only [go_sem]
    refine hR _ _ (kq7 _ _ ?_); clear hR R; try clear kq7 kz7
    try simp only [go_sem]
    refine W_cond rfl (fun c2 => ?_) (fun c2 => ?_)
    · -- c2 true
      try simp only [nrm] at c2
      exfalso
      simp at c2
    · -- c2 false
      try simp only [nrm] at c2
      refine W_skip (kq6 _ _ ?_)
      refine W_seq fun kz8 kq8 => ?_
      refine W_seq fun kz9 kq9 => ?_
      refine W_region [0, 1, 16] fun R hR => ?_   -- r9
      simp only [go_sem]
      refine hR _ _ (kq9 _ _ ?_); clear hR R; try clear kq9 kz9
      try simp only [go_sem]
      refine W_cond rfl (fun c3 => ?_) (fun c3 => ?_)
      · -- c3 true
        try simp only [nrm] at c3
        refine W_seq fun kz10 kq10 => ?_
        refine W_region [4] fun R hR => ?_   -- r10
        simp only [go_sem]
        refine hR _ _ (kq10 _ _ ?_); clear hR R; try clear kq10 kz10
        try simp only [go_sem]
        refine W_ret ?_
        simp only [go_sem]
        refine ⟨.inr (by trivial), ?_⟩
        first | refine Fin_same hcl rfl (Wk_eq ?_ (by simp only [go_sem])) | refine Fin_self hcl rfl (Wk_eq ?_ (by simp only [go_sem]))
        try simp only [go_sem]
        all_goals
          unfold cmp1; first | (simp [*]; done) | (simp [*]; omega)
      · -- c3 false
        try simp only [nrm] at c3
        refine W_skip (kq8 _ _ ?_)
        refine W_seq fun kz11 kq11 => ?_
        refine W_seq fun kz12 kq12 => ?_
        refine W_region [19] fun R hR => ?_   -- r11
        simp only [go_sem]
        refine hR _ _ (kq12 _ _ ?_); clear hR R; try clear kq12 kz12
        try simp only [go_sem]
        refine W_cond rfl (fun c4 => ?_) (fun c4 => ?_)
        · -- c4 true
          try simp only [nrm] at c4
          refine W_seq fun kz13 kq13 => ?_
          refine W_region [4] fun R hR => ?_   -- r12
          simp only [go_sem]
          refine hR _ _ (kq13 _ _ ?_); clear hR R; try clear kq13 kz13
          try simp only [go_sem]
          refine W_ret ?_
          simp only [go_sem]
          refine ⟨.inr (by trivial), ?_⟩
          first | refine Fin_same hcl rfl (Wk_eq ?_ (by simp only [go_sem])) | refine Fin_self hcl rfl (Wk_eq ?_ (by simp only [go_sem]))
          try simp only [go_sem]
          all_goals
            unfold cmp1; first | (simp [*]; done) | (simp [*]; omega)
        · -- c4 false
          try simp only [nrm] at c4
          refine W_skip (kq11 _ _ ?_)
          refine W_seq fun kz14 kq14 => ?_
          refine W_region [4] fun R hR => ?_   -- r13
          simp only [go_sem]
          refine hR _ _ (kq14 _ _ ?_); clear hR R; try clear kq14 kz14
          try simp only [go_sem]
          refine W_ret ?_
          simp only [go_sem]
          refine ⟨.inr (by trivial), ?_⟩
          first | refine Fin_same hcl rfl (Wk_eq ?_ (by simp only [go_sem])) | refine Fin_self hcl rfl (Wk_eq ?_ (by simp only [go_sem]))
          try simp only [go_sem]
          all_goals
            unfold cmp1; first | (simp [*]; done) | (simp [*]; omega)
set_option maxHeartbeats 2000000 in
theorem Compare_pc (Y : YEnv) (σ : Sg) (a b : List Int) (ha : a.length < 2 ^ 50) (hb : b.length < 2 ^ 50) :
    PC Try.prog Y 79 [ints a, ints b] σ (I (cmpL a b)) (σ) := by
  refine PC_of_W Try.func79 rfl (by kernel_rfl) Try.ntmps79 (by simp) fun hcl hca => ?_
  obtain ⟨res, hres⟩ : ∃ r, cmpL a b = r := ⟨_, rfl⟩
  rw [hres]
  refine W_seq fun kz1 kq1 => ?_
  refine W_region [0, 1] fun R hR => ?_   -- r0
  simp only [go_sem]
  refine hR _ _ (kq1 _ _ ?_); clear hR R; try clear kq1 kz1
  try simp only [go_sem]
  refine W_seq fun kz2 kq2 => ?_
  refine W_seq fun kz3 kq3 => ?_
  refine W_region [0, 1, 9, 10, 11] fun R hR => ?_   -- r1
  simp only [go_sem]
  refine hR _ _ (kq3 _ _ ?_); clear hR R; try clear kq3 kz3
  try simp only [go_sem]
  refine W_block ?_
  refine W_loopS (α := Nat) (fun (i : Nat) => [(11, I i)]) (fun (i : Nat) => i ≤ a.length ∧ i ≤ b.length ∧ res = cmpL (a.drop i) (b.drop i)) (fun (i : Nat) => a.length - i) (0) rfl (⟨Nat.zero_le _, Nat.zero_le _, hres.symm⟩) ?_
  rintro i ⟨hi, hib, hinv⟩
  refine W_seq fun kz4 kq4 => ?_
  refine W_region [0, 1, 9, 10, 11, 12] fun R hR => ?_   -- r2
  simp only [go_sem]
  refine hR _ _ (kq4 _ _ ?_); clear hR R; try clear kq4 kz4
  try simp only [go_sem]
  refine W_seq fun kz5 kq5 => ?_
  refine W_cond rfl (fun c1 => ?_) (fun c1 => ?_)
  · -- c1 true
    try simp only [nrm] at c1
    have hi' : i < a.length := by first | assumption | omega
    obtain ⟨x, hx⟩ : ∃ x, a[i]? = some x := ⟨a[i], by simp [hi']⟩
    have hdrop : a.drop i = x :: a.drop (i + 1) := by
      rw [List.drop_eq_getElem_cons hi']; congr 1; exact (List.getElem?_eq_some_iff.1 hx).2
    rw [hdrop] at hinv
    refine W_skip (kq5 _ _ ?_)
    refine W_seq fun kz6 kq6 => ?_
    refine W_block ?_
    refine W_seq fun kz7 kq7 => ?_
    refine W_region [0, 1, 5, 6, 9, 10, 11] fun R hR => ?_   -- r3
    simp only [go_sem, hx]
    refine hR _ _ (kq7 _ _ ?_); clear hR R; try clear kq7 kz7
    try simp only [go_sem, hx]
    refine W_seq fun kz8 kq8 => ?_
    refine W_seq fun kz9 kq9 => ?_
    refine W_region [0, 1, 5, 6, 9, 10, 11, 19] fun R hR => ?_   -- r4
    simp only [go_sem, hx]
    refine hR _ _ (kq9 _ _ ?_); clear hR R; try clear kq9 kz9
    try simp only [go_sem, hx]
    refine W_cond rfl (fun c2 => ?_) (fun c2 => ?_)
    · -- c2 true
      try simp only [nrm] at c2
      have hb0 : b.drop i = [] := List.drop_eq_nil_of_le (by omega)
      rw [hb0] at hinv
      refine W_seq fun kz10 kq10 => ?_
      refine W_region [4] fun R hR => ?_   -- r5
      simp only [go_sem, hx]
      refine hR _ _ (kq10 _ _ ?_); clear hR R; try clear kq10 kz10
      try simp only [go_sem, hx]
      refine W_ret ?_
      simp only [go_sem, hx]
      refine ⟨.inr (by trivial), ?_⟩
      first | refine Fin_same hcl rfl (Wk_eq ?_ (by simp only [go_sem])) | refine Fin_self hcl rfl (Wk_eq ?_ (by simp only [go_sem]))
      try simp only [go_sem]
      all_goals
        rw [hinv]; rfl
    · -- c2 false
      try simp only [nrm] at c2
      have hib' : i < b.length := by omega
      obtain ⟨y, hy⟩ : ∃ y, b[i]? = some y := ⟨b[i], by simp [hib']⟩
      have hdrop2 : b.drop i = y :: b.drop (i + 1) := by
        rw [List.drop_eq_getElem_cons hib']; congr 1; exact (List.getElem?_eq_some_iff.1 hy).2
      rw [hdrop2] at hinv
      simp only [cmpL] at hinv
      refine W_skip (kq8 _ _ ?_)
      refine W_seq fun kz11 kq11 => ?_
      refine W_region [0, 1, 6, 7, 9, 10, 11] fun R hR => ?_   -- r6
      simp only [go_sem, hx, hy]
      refine hR _ _ (kq11 _ _ ?_); clear hR R; try clear kq11 kz11
      try simp only [go_sem, hx, hy]
      refine W_seq fun kz12 kq12 => ?_
      refine W_region [0, 1, 8, 9, 10, 11] fun R hR => ?_   -- r7
      simp only [go_sem, hx, hy]
      refine GCall_of (Compare1_pc Y _ x y) ?_   -- t26
      simp only [go_sem, hx, hy]
      refine hR _ _ (kq12 _ _ ?_); clear hR R; try clear kq12 kz12
      try simp only [go_sem, hx, hy]
      refine W_seq fun kz13 kq13 => ?_
      refine W_region [0, 1, 8, 9, 10, 11, 28] fun R hR => ?_   -- r8
      simp only [go_sem, hx, hy]
      refine hR _ _ (kq13 _ _ ?_); clear hR R; try clear kq13 kz13
      try simp only [go_sem, hx, hy]
      refine W_cond rfl (fun c3 => ?_) (fun c3 => ?_)
      · -- c3 true
        try simp only [nrm] at c3
        refine W_seq fun kz14 kq14 => ?_
        refine W_region [4] fun R hR => ?_   -- r9
        simp only [go_sem, hx, hy]
        refine hR _ _ (kq14 _ _ ?_); clear hR R; try clear kq14 kz14
        try simp only [go_sem, hx, hy]
        refine W_ret ?_
        simp only [go_sem, hx, hy]
        refine ⟨.inr (by trivial), ?_⟩
        first | refine Fin_same hcl rfl (Wk_eq ?_ (by simp only [go_sem])) | refine Fin_self hcl rfl (Wk_eq ?_ (by simp only [go_sem]))
        try simp only [go_sem]
        all_goals
          rcases cmp1_cases x y with ⟨k1, k2⟩ | ⟨k1, k2, k3⟩ | ⟨k1, k2, k3⟩; (rw [hinv, if_pos k1, k2]); (rw [hinv, if_neg k1, if_pos k2, k3]); omega
      · -- c3 false
        try simp only [nrm] at c3
        refine W_skip (kq6 _ _ ?_)
        refine W_region [0, 1, 9, 10, 11] fun R hR => ?_   -- r10
        simp only [go_sem, hx, hy]
        try simp (disch := omega) only [wrapI, wrapU]
        refine hR _ _ ?_; clear hR R
        try simp only [go_sem, hx, hy]
        refine ⟨i + 1, ?_, by (try simp only []); omega, ?_⟩
        · first | exact Weak.refl | exact Weak.eq (by first | rfl | (simp only [go_sem]; done) | (simp only [go_sem]; rfl) | (simp [go_sem]; done) | (simp [go_sem]; omega)) (by first | rfl | (simp only [go_sem]; done) | (simp [go_sem]; done))
        · try dsimp only
          exact ⟨hi', by omega, by rcases cmp1_cases x y with ⟨k1, k2⟩ | ⟨k1, k2, k3⟩ | ⟨k1, k2, k3⟩; omega; omega; rw [hinv, if_neg k1, if_neg k2]⟩
  · -- c1 false
    try simp only [nrm] at c1
    have hdrop : a.drop i = [] := List.drop_eq_nil_of_le (by omega)
    rw [hdrop] at hinv
    refine W_exit ?_
    simp only [go_sem]
    refine kq2 _ _ ?_
    refine W_seq fun kz15 kq15 => ?_
    refine W_seq fun kz16 kq16 => ?_
    refine W_region [35] fun R hR => ?_   -- r11
    simp only [go_sem]
    refine hR _ _ (kq16 _ _ ?_); clear hR R; try clear kq16 kz16
    try simp only [go_sem]
    refine W_cond rfl (fun c4 => ?_) (fun c4 => ?_)
    · -- c4 true
      try simp only [nrm] at c4
      obtain ⟨y, hy⟩ : ∃ y, b[i]? = some y := ⟨b[i]'(by omega), by simp⟩
      have hdrop2 : b.drop i = y :: b.drop (i + 1) := by
        rw [List.drop_eq_getElem_cons (by omega)]; congr 1; exact (List.getElem?_eq_some_iff.1 hy).2
      rw [hdrop2] at hinv
      refine W_seq fun kz17 kq17 => ?_
      refine W_region [4] fun R hR => ?_   -- r12
      simp only [go_sem]
      refine hR _ _ (kq17 _ _ ?_); clear hR R; try clear kq17 kz17
      try simp only [go_sem]
      refine W_ret ?_
      simp only [go_sem]
      refine ⟨.inr (by trivial), ?_⟩
      first | refine Fin_same hcl rfl (Wk_eq ?_ (by simp only [go_sem])) | refine Fin_self hcl rfl (Wk_eq ?_ (by simp only [go_sem]))
      try simp only [go_sem]
      all_goals
        rw [hinv]; rfl
    · -- c4 false
      try simp only [nrm] at c4
      have hb0 : b.drop i = [] := List.drop_eq_nil_of_le (by omega)
      rw [hb0] at hinv
      refine W_skip (kq15 _ _ ?_)
      refine W_seq fun kz18 kq18 => ?_
      refine W_region [4] fun R hR => ?_   -- r13
      simp only [go_sem]
      refine hR _ _ (kq18 _ _ ?_); clear hR R; try clear kq18 kz18
      try simp only [go_sem]
      refine W_ret ?_
      simp only [go_sem]
      refine ⟨.inr (by trivial), ?_⟩
      first | refine Fin_same hcl rfl (Wk_eq ?_ (by simp only [go_sem])) | refine Fin_self hcl rfl (Wk_eq ?_ (by simp only [go_sem]))
      try simp only [go_sem]
      all_goals
        rw [hinv]; rfl
set_option maxHeartbeats 2000000 in
theorem CloneI_pc (Y : YEnv) (σ : Sg) (l : List Int) (hl : l.length ≤ 2 ^ 30) :
    PC Try.prog Y 80 [ints l] σ (.isl (l.map I) (.tok σ.rooms.length l.length 1)) (σ.ext [] [l.length]) := by
  refine PC_of_W Try.func80 rfl (by kernel_rfl) Try.ntmps80 (by simp) fun hcl hca => ?_
  refine W_seq fun kz1 kq1 => ?_
  refine W_region [0] fun R hR => ?_   -- r0
  simp only [go_sem]
  refine hR _ _ (kq1 _ _ ?_); clear hR R; try clear kq1 kz1
  try simp only [go_sem]
  refine W_seq fun kz2 kq2 => ?_
  refine W_seq fun kz3 kq3 => ?_
  refine W_isnil [0, 4] (by decide) (by decide) rfl Try.underlying22 fun bn hbn => ?_   -- r1
  refine kq3 _ _ ?_
  try simp only [go_sem]
  refine W_cond rfl (fun c1 => ?_) (fun c1 => ?_)
  · -- c1 true
    try simp only [nrm] at c1
    refine W_seq fun kz4 kq4 => ?_
    refine W_region [2] fun R hR => ?_   -- r2
    simp only [go_sem]
    refine hR _ _ (kq4 _ _ ?_); clear hR R; try clear kq4 kz4
    try simp only [go_sem]
    refine W_weak (Weak.room (t := 2) (es := 1) rfl (by simp)) ?_
    refine W_ret ?_
    simp only [go_sem]
    refine ⟨.inr (by trivial), ?_⟩
    obtain rfl : l = [] := by simpa using hbn c1
    exact Fin_ext 0 1 hcl rfl (Wk_eq rfl (by simp only [go_sem] <;> omega)) CleanL_nil
    try simp only [go_sem]
    all_goals
      skip
  · -- c1 false
    try simp only [nrm] at c1
    refine W_skip (kq2 _ _ ?_)
    refine W_seq fun kz5 kq5 => ?_
    refine W_region [2] fun R hR => ?_   -- r3
    simp only [go_sem]
    simp (disch := first | omega | (simp only [go_sem] <;> omega)) only [wrapI, wrapU, appX_exact, appX_tok]
    try simp only [go_sem]
    refine hR _ _ (kq5 _ _ ?_); clear hR R; try clear kq5 kz5
    try simp only [go_sem]
    refine W_ret ?_
    simp only [go_sem]
    refine ⟨.inr (by trivial), ?_⟩
    exact Fin_ext 0 1 hcl rfl (Wk_eq (by simp only [go_sem]) (by simp only [go_sem] <;> omega)) CleanL_nil
    try simp only [go_sem]
    all_goals
      skip
set_option maxHeartbeats 2000000 in
theorem Before_pc (Y : YEnv) (σ : Sg) (a b : List Int) (ha : a.length < 2 ^ 50) (hb : b.length < 2 ^ 50) :
    PC Try.prog Y 43 [ints a, ints b] σ (.bool (decide (cmpL a b < 0))) (σ) := by
  refine PC_of_W Try.func43 rfl (by kernel_rfl) Try.ntmps43 (by simp) fun hcl hca => ?_
  obtain ⟨res, hres⟩ : ∃ r, cmpL a b = r := ⟨_, rfl⟩
  rw [hres]
  refine W_seq fun kz1 kq1 => ?_
  refine W_region [0, 1] fun R hR => ?_   -- r0
  simp only [go_sem]
  refine hR _ _ (kq1 _ _ ?_); clear hR R; try clear kq1 kz1
  try simp only [go_sem]
  refine W_seq fun kz2 kq2 => ?_
  refine W_seq fun kz3 kq3 => ?_
  refine W_region [0, 1, 5] fun R hR => ?_   -- r1
  simp only [go_sem]
  refine hR _ _ (kq3 _ _ ?_); clear hR R; try clear kq3 kz3
  try simp only [go_sem]
  refine W_block ?_
  refine W_loopS (α := Nat) (fun (i : Nat) => [(5, I i)]) (fun (i : Nat) => i ≤ a.length ∧ i ≤ b.length ∧ res = cmpL (a.drop i) (b.drop i)) (fun (i : Nat) => a.length - i) (0) rfl (⟨Nat.zero_le _, Nat.zero_le _, hres.symm⟩) ?_
  rintro i ⟨hi, hib, hinv⟩
  refine W_seq fun kz4 kq4 => ?_
  refine W_seq fun kz5 kq5 => ?_
  refine W_regionJ [0, 1, 5, 15] [(15, .bool (decide (i < a.length) && decide (i < b.length)))] ?_ fun R hR => ?_   -- r2
  · refine kq5 _ _ ?_
    simp only [go_sem]
    refine W_cond rfl (fun c1 => ?_) (fun c1 => ?_)
    · -- c1 true
      try simp only [nrm] at c1
      have hab : i < a.length ∧ i < b.length := by simpa using c1
      obtain ⟨hia, hibb⟩ := hab
      obtain ⟨x, hx⟩ : ∃ x, a[i]? = some x := ⟨a[i], by simp [hia]⟩
      have hdrop : a.drop i = x :: a.drop (i + 1) := by
        rw [List.drop_eq_getElem_cons hia]; congr 1; exact (List.getElem?_eq_some_iff.1 hx).2
      obtain ⟨y, hy⟩ : ∃ y, b[i]? = some y := ⟨b[i], by simp [hibb]⟩
      have hdrop2 : b.drop i = y :: b.drop (i + 1) := by
        rw [List.drop_eq_getElem_cons hibb]; congr 1; exact (List.getElem?_eq_some_iff.1 hy).2
      rw [hdrop, hdrop2] at hinv
      simp only [cmpL] at hinv
      refine W_skip (kq4 _ _ ?_)
      refine W_seq fun kz6 kq6 => ?_
      refine W_block ?_
      refine W_seq fun kz7 kq7 => ?_
      refine W_draw [0, 1, 5, 26] [0, 1, 2, 3, 4, 5, 6, 7, 8] [] [[], [], [0, 1], [0, 1, 2], [], [], [4, 5], [4, 5, 6], [0, 1, 2, 3, 4, 5, 6, 7]] mixed (by kernel_rfl) fun R hR => ?_   -- r4
      simp only [go_sem, hx, hy]
      try refine And.intro (by repeat' (first | refine And.intro ?_ ?_ | exact GOr_right (fun _ => by simp only [go_sem, hx, hy]))) ?_
      refine hR _ _ (kq7 _ _ ?_); clear hR R; try clear kq7 kz7
      try simp only [go_sem, hx, hy]
      refine W_cond rfl (fun c2 => ?_) (fun c2 => ?_)
      · -- c2 true
        try simp only [nrm] at c2
        refine W_seq fun kz8 kq8 => ?_
        refine W_draw [4] [0, 1, 2, 3, 4, 5, 6, 7, 8, 9] [] [[], [], [0, 1], [0, 1, 2], [], [], [4, 5], [4, 5, 6], [0, 1, 2, 3, 4, 5, 6, 7], [0, 1, 2, 3, 4, 5, 6, 7, 8]] mixed (by kernel_rfl) fun R hR => ?_   -- r5
        simp only [go_sem, hx, hy]
        try refine And.intro (by repeat' (first | refine And.intro ?_ ?_ | exact GOr_right (fun _ => by simp only [go_sem, hx, hy]))) ?_
        refine hR _ _ (kq8 _ _ ?_); clear hR R; try clear kq8 kz8
        try simp only [go_sem, hx, hy]
        refine W_ret ?_
        simp only [go_sem, hx, hy]
        refine ⟨.inr (by trivial), ?_⟩
        first | refine Fin_same hcl rfl (Wk_eq ?_ (by simp only [go_sem])) | refine Fin_self hcl rfl (Wk_eq ?_ (by simp only [go_sem]))
        try simp only [go_sem]
        all_goals
          rw [hinv]; congr 1; by_cases hxy : x < y <;> by_cases hyx : y < x <;> simp [hxy, hyx] <;> omega
      · -- c2 false
        try simp only [nrm] at c2
        refine W_skip (kq6 _ _ ?_)
        refine W_region [0, 1, 5] fun R hR => ?_   -- r3
        simp only [go_sem, hx, hy]
        try simp (disch := omega) only [wrapI, wrapU]
        refine hR _ _ ?_; clear hR R
        try simp only [go_sem, hx, hy]
        refine ⟨i + 1, ?_, by (try simp only []); omega, ?_⟩
        · first | exact Weak.refl | exact Weak.eq (by first | rfl | (simp only [go_sem]; done) | (simp only [go_sem]; rfl) | (simp [go_sem]; done) | (simp [go_sem]; omega)) (by first | rfl | (simp only [go_sem]; done) | (simp [go_sem]; done))
        · try dsimp only
          exact ⟨hia, hibb, by rw [hinv, if_neg (by omega), if_neg (by omega)]⟩
    · -- c1 false
      try simp only [nrm] at c1
      have hab : ¬ (i < a.length ∧ i < b.length) := by simpa using c1
      have hend : res = if a.length < b.length then -1 else if b.length < a.length then 1 else 0 := by
        rw [hinv]
        rcases Nat.lt_or_ge i a.length with h1 | h1
        · have h2 : b.length ≤ i := by omega
          rw [List.drop_eq_nil_of_le h2, List.drop_eq_getElem_cons h1]
          rw [if_neg (by omega), if_pos (by omega)]; rfl
        · rw [List.drop_eq_nil_of_le h1]
          rcases Nat.lt_or_ge i b.length with h2 | h2
          · rw [List.drop_eq_getElem_cons h2, if_pos (by omega)]; rfl
          · rw [List.drop_eq_nil_of_le h2, if_neg (by omega), if_neg (by omega)]; rfl
      refine W_exit ?_
      simp only [go_sem]
      refine kq2 _ _ ?_
      refine W_seq fun kz9 kq9 => ?_
      refine W_region [4] fun R hR => ?_   -- r6
      simp only [go_sem]
      refine hR _ _ (kq9 _ _ ?_); clear hR R; try clear kq9 kz9
      try simp only [go_sem]
      refine W_ret ?_
      simp only [go_sem]
      refine ⟨.inr (by trivial), ?_⟩
      first | refine Fin_same hcl rfl (Wk_eq ?_ (by simp only [go_sem])) | refine Fin_self hcl rfl (Wk_eq ?_ (by simp only [go_sem]))
      try simp only [go_sem]
      all_goals
        rw [hend]; congr 1; by_cases hxy : a.length < b.length <;> by_cases hyx : b.length < a.length <;> simp [hxy, hyx] <;> omega
  · simp only [go_sem]
    refine GWant_split (fun g1 => ?_) (fun g1 => ?_)
    · try simp only [Bool.not_eq_true', Bool.not_eq_false'] at g1
      have n1 := g1; try simp only [nrm] at n1
      simp only [go_sem, g1]
      refine hR _ ?_
      try simp only [go_sem]
      all_goals
        first | (simp [g1]; done) | (simp [g1]; omega) | (simp_all; done) | (simp_all; omega)
    · try simp only [Bool.not_eq_true', Bool.not_eq_false'] at g1
      have n1 := g1; try simp only [nrm] at n1
      simp only [go_sem, g1]
      refine hR _ ?_
      try simp only [go_sem]
      all_goals
        first | (simp [g1]; done) | (simp [g1]; omega) | (simp_all; done) | (simp_all; omega)

end Go.Proofs.Ytnpamcpoaklgeaa

namespace Go.Proofs.Ytnpamcpoaklgeaa
open Go Go.RowKit
set_option maxRecDepth 100000

theorem intsN_map (ms : List Nat) : (intsN ms).map I = ms.map fun i : Nat => I i := by simp [intsN]
theorem roL_nat {ms : List Nat} : PV.roL (ms.map fun i : Nat => I i) = ms.map fun i : Nat => I i := roL_enc fun _ => ro_int
attribute [go_sem] roL_nat
theorem ppl_bd {c : City} {l : List Band} (hv : ∀ b, b ∈ l → chkBand c b = 0) : 0 ≤ pplOf l ∧ pplOf l ≤ 1000000 * l.length := by
  induction l with
  | nil => exact ⟨Int.le_refl _, by simp [pplOf]⟩
  | cons b l ih =>
    obtain ⟨h1, h2⟩ := ih fun x hx => hv x (by simp [hx])
    have := timesOf_ok (chkBand_ok (hv b (by simp))).2
    simp only [pplOf, List.length_cons]
    omega
theorem div_pow_le (n i : Nat) : n / 2 ^ i ≤ n := Nat.div_le_self _ _

set_option maxHeartbeats 2000000 in
theorem Members_pc (Y : YEnv) (σ : Sg) (ct : City) (l : List Band) (n : Nat) (hl : l.length ≤ 20) (hn : n ≤ 2 ^ 20) (hv : ∀ b, b ∈ l → chkBand ct b = 0) :
    PC Try.prog Y 42 [bands l, I (n : Int)] σ (.tuple [ints (intsN (memN n l.length)), bands (bandsAt l (memN n l.length)), I (pplOf (bandsAt l (memN n l.length)))]) (σ) := by
  refine PC_of_W Try.func42 rfl (by kernel_rfl) Try.ntmps42 (by simp) fun hcl hca => ?_
  refine W_seq fun kz1 kq1 => ?_
  refine W_region [0, 1] fun R hR => ?_   -- r0
  simp only [go_sem]
  refine hR _ _ (kq1 _ _ ?_); clear hR R; try clear kq1 kz1
  try simp only [go_sem]
  refine W_seq fun kz2 kq2 => ?_
  refine W_region [0, 1, 7] fun R hR => ?_   -- r1
  simp only [go_sem]
  refine hR _ _ (kq2 _ _ ?_); clear hR R; try clear kq2 kz2
  try simp only [go_sem]
  refine W_seq fun kz3 kq3 => ?_
  refine W_region [0, 1, 7, 8] fun R hR => ?_   -- r2
  simp only [go_sem]
  refine hR _ _ (kq3 _ _ ?_); clear hR R; try clear kq3 kz3
  try simp only [go_sem]
  refine W_seq fun kz4 kq4 => ?_
  refine W_region [0, 1, 7, 8, 9] fun R hR => ?_   -- r3
  simp only [go_sem]
  refine hR _ _ (kq4 _ _ ?_); clear hR R; try clear kq4 kz4
  try simp only [go_sem]
  refine W_seq fun kz5 kq5 => ?_
  refine W_seq fun kz6 kq6 => ?_
  refine W_region [0, 1, 7, 8, 9, 10] fun R hR => ?_   -- r4
  simp only [go_sem]
  refine hR _ _ (kq6 _ _ ?_); clear hR R; try clear kq6 kz6
  try simp only [go_sem]
  refine W_block ?_
  refine W_weak (Weak.room (t := 7) (es := 1) rfl (by simp)) ?_
  refine W_weak (Weak.keep [0, 1, 7, 8, 9, 10]) ?_
  simp only [go_sem]
  refine W_weak (Weak.room (t := 8) (es := 6) rfl (by simp)) ?_
  refine W_weak (Weak.keep [0, 1, 7, 8, 9, 10]) ?_
  simp only [go_sem]
  refine W_loopT (α := Nat × (List Nat) × (List Band) × Int) (fun ⟨i, ms, bs, pp⟩ => [(7, .isl (ms.map fun i : Nat => I i) (.tok σ.rooms.length ms.length 1)), (8, .isl (bs.map bdPV) (.tok (σ.rooms.length + 1) bs.length 6)), (9, I pp), (10, I i)]) (fun ⟨i, ms, bs, pp⟩ => σ.ext [] [ms.length, bs.length]) (fun ⟨i, ms, bs, pp⟩ => i ≤ l.length ∧ ms = memN n i ∧ bs = bandsAt l ms ∧ pp = pplOf bs) (fun ⟨i, ms, bs, pp⟩ => l.length - i) ((0, [], [], 0)) (by simp only [go_sem, List.map]) (by first | rfl | (simp only [go_sem]; done) | (simp only [go_sem]; rfl)) (⟨Nat.zero_le _, rfl, rfl, rfl⟩) ?_
  rintro ⟨i, ms, bs, pp⟩ ⟨hi, hms, hbs, hpp⟩
  refine W_seq fun kz7 kq7 => ?_
  refine W_seq fun kz8 kq8 => ?_
  refine W_region [0, 1, 7, 8, 9, 10, 14] fun R hR => ?_   -- r5
  simp only [go_sem]
  refine hR _ _ (kq8 _ _ ?_); clear hR R; try clear kq8 kz8
  try simp only [go_sem]
  refine W_cond rfl (fun c1 => ?_) (fun c1 => ?_)
  · -- c1 true
    try simp only [nrm] at c1
    have hi' : i < l.length := by first | assumption | omega
    obtain ⟨b, hx⟩ : ∃ b, l[i]? = some b := ⟨l[i], by simp [hi']⟩
    have hdrop : l.drop i = b :: l.drop (i + 1) := by
      rw [List.drop_eq_getElem_cons hi']; congr 1; exact (List.getElem?_eq_some_iff.1 hx).2
    have hbl := List.mem_of_getElem? hx
    have hsh := shrN (n := n) (i := i) (by omega)
    obtain ⟨m, hm⟩ : ∃ m, n / 2 ^ i = m := ⟨_, rfl⟩
    have hmn := div_pow_le n i
    rw [hm] at hsh hmn
    have han := and1 (m := m) (by omega)
    have hml : ms.length ≤ i := by rw [hms]; exact memN_len n i
    have hbl2 : bs.length ≤ ms.length := by rw [hbs]; exact bandsAt_len l ms
    have hpb := ppl_bd (c := ct) (l := bs) (fun x hx => hv x (by rw [hbs] at hx; exact bandsAt_mem hx))
    rw [← hpp] at hpb
    have htb := timesOf_ok (chkBand_ok (hv b hbl)).2
    refine W_skip (kq7 _ _ ?_)
    refine W_seq fun kz9 kq9 => ?_
    refine W_block ?_
    refine W_seq fun kz10 kq10 => ?_
    refine W_region [0, 1, 7, 8, 9, 10, 21] fun R hR => ?_   -- r7
    simp only [go_sem, hx, hsh, han]
    refine hR _ _ (kq10 _ _ ?_); clear hR R; try clear kq10 kz10
    try simp only [go_sem, hx, hsh, han]
    refine W_cond rfl (fun c2 => ?_) (fun c2 => ?_)
    · -- c2 true
      try simp only [nrm] at c2
      have h2 : m % 2 = 1 := by have := han.symm.trans c2; omega
      refine W_draw [0, 1, 7, 8, 9, 10] [0, 1, 2, 3, 4, 5, 6, 7, 8, 9, 10, 11, 12, 13, 14, 15, 16, 17, 18, 19, 20] [(4, 3), (5, 3), (6, 3), (7, 3), (8, 3), (9, 3), (11, 3), (11, 10), (12, 3), (12, 10), (13, 3), (13, 10), (14, 3), (14, 10), (15, 3), (15, 10), (16, 3), (16, 10), (17, 3), (17, 10)] [[], [], [1], [0, 1, 2], [], [], [], [5, 6], [5, 6, 7], [5, 6, 7, 8], [0, 1, 2, 3, 4, 5, 6, 7, 8, 9], [], [], [], [12, 13], [12, 13, 14], [12, 13, 14, 15], [11, 12, 13, 14, 15, 16], [0, 1, 2, 3, 4, 5, 6, 7, 8, 9, 10], [0, 1, 2, 3, 4, 5, 6, 7, 8, 9, 10, 18], [0, 1, 2, 3, 4, 5, 6, 7, 8, 9, 10, 11, 12, 13, 14, 15, 16, 17, 18, 19]] mixed (by kernel_rfl) fun R hR => ?_   -- r8
      simp only [go_sem, hx, hsh, han]
      simp (disch := first | omega | (simp only [go_sem] <;> omega)) only [wrapI, wrapU, appX_exact, appX_tok]
      try simp only [go_sem, hx, hsh, han]
      simp (disch := first | omega | (simp only [go_sem] <;> omega)) only [wrapI, wrapU, appX_exact, appX_tok]
      try simp only [go_sem, hx, hsh, han]
      try refine And.intro (by repeat' (first | refine And.intro ?_ ?_ | exact GOr_right (fun _ => by simp only [go_sem, hx, hsh, han]))) ?_
      refine hR _ _ (kq9 _ _ ?_); clear hR R; try clear kq9 kz9
      try simp only [go_sem, hx, hsh, han]
      refine W_region [0, 1, 7, 8, 9, 10] fun R hR => ?_   -- r6
      simp only [go_sem, hx, hsh, han]
      try simp (disch := omega) only [wrapI, wrapU]
      refine hR _ _ ?_; clear hR R
      try simp only [go_sem, hx, hsh, han]
      refine ⟨(i + 1, ms ++ [i], bs ++ [b], pp + b.people), ?_, by (try simp only []); omega, ?_⟩
      · first | exact Weak.refl | exact Weak.eq (by first | rfl | (simp only [go_sem]; done) | (simp only [go_sem]; rfl) | (simp [go_sem]; done) | (simp [go_sem]; omega)) (by first | rfl | (simp only [go_sem]; done) | (simp [go_sem]; done))
      · try dsimp only
        refine ⟨hi', ?_, ?_, ?_⟩
        · rw [memN_succ, hm]; first | (rw [if_pos h2, hms]) | (rw [if_neg h2, hms])
        · first | (rw [bandsAt_snoc hx, hbs]) | exact hbs
        · first | (rw [pplOf_snoc, hpp]) | exact hpp
    · -- c2 false
      try simp only [nrm] at c2
      have h2 : ¬ m % 2 = 1 := fun h => c2 (han.trans (by rw [h]; rfl))
      refine W_skip (kq9 _ _ ?_)
      refine W_region [0, 1, 7, 8, 9, 10] fun R hR => ?_   -- r6
      simp only [go_sem, hx, hsh, han]
      try simp (disch := omega) only [wrapI, wrapU]
      refine hR _ _ ?_; clear hR R
      try simp only [go_sem, hx, hsh, han]
      refine ⟨(i + 1, ms, bs, pp), ?_, by (try simp only []); omega, ?_⟩
      · first | exact Weak.refl | exact Weak.eq (by first | rfl | (simp only [go_sem]; done) | (simp only [go_sem]; rfl) | (simp [go_sem]; done) | (simp [go_sem]; omega)) (by first | rfl | (simp only [go_sem]; done) | (simp [go_sem]; done))
      · try dsimp only
        refine ⟨hi', ?_, ?_, ?_⟩
        · rw [memN_succ, hm]; first | (rw [if_pos h2, hms]) | (rw [if_neg h2, hms])
        · first | (rw [bandsAt_snoc hx, hbs]) | exact hbs
        · first | (rw [pplOf_snoc, hpp]) | exact hpp
  · -- c1 false
    try simp only [nrm] at c1
    obtain rfl : i = l.length := by omega
    refine W_exit ?_
    simp only [go_sem]
    refine kq5 _ _ ?_
    refine W_seq fun kz11 kq11 => ?_
    refine W_region [4, 5, 6] fun R hR => ?_   -- r9
    simp only [go_sem]
    refine hR _ _ (kq11 _ _ ?_); clear hR R; try clear kq11 kz11
    try simp only [go_sem]
    refine W_ret ?_
    simp only [go_sem]
    refine ⟨.inr (by trivial), ?_⟩
    refine Fin_same hcl rfl (Wk.ro (by simp only [go_sem]) ?_)
    try simp only [go_sem]
    all_goals
      rw [← hms, ← hbs, ← hpp]; show _ = PV.tuple [.isl ((intsN ms).map I) .ro, _, _]; rw [intsN_map]
set_option maxHeartbeats 2000000 in
theorem Together_pc (Y : YEnv) (σ : Sg) (ct : City) (l : List Band) (hc : ct.Ok) (hl : BandsOk l) (hn : l.length ≤ 999) (hk : chkCity ct = 0) (hv : ∀ b, b ∈ l → chkBand ct b = 0) :
    PC Try.prog Y 82 [ctPV ct, bands l] σ (.bool (togB ct l)) (σ) := by
  refine PC_of_W Try.func82 rfl (by kernel_rfl) Try.ntmps82 (by simp) fun hcl hca => ?_
  have hl2 := hl.2
  obtain ⟨tg, htg⟩ : ∃ z, togL ct [] l = z := ⟨_, rfl⟩
  unfold togB
  rw [htg]
  refine W_seq fun kz1 kq1 => ?_
  refine W_region [1, 2] fun R hR => ?_   -- r0
  simp only [go_sem]
  refine hR _ _ (kq1 _ _ ?_); clear hR R; try clear kq1 kz1
  try simp only [go_sem]
  refine W_seq fun kz2 kq2 => ?_
  refine W_seq fun kz3 kq3 => ?_
  refine W_region [1, 2, 5] fun R hR => ?_   -- r1
  simp only [go_sem]
  refine hR _ _ (kq3 _ _ ?_); clear hR R; try clear kq3 kz3
  try simp only [go_sem]
  refine W_block ?_
  refine W_loopS (α := Nat) (fun (i : Nat) => [(5, I i)]) (fun (i : Nat) => i ≤ l.length ∧ tg = togL ct (l.take i) (l.drop i)) (fun (i : Nat) => l.length - i) (0) rfl (⟨Nat.zero_le _, htg.symm⟩) ?_
  rintro i ⟨hi, hinv⟩
  refine W_seq fun kz4 kq4 => ?_
  refine W_seq fun kz5 kq5 => ?_
  refine W_region [1, 2, 5, 10] fun R hR => ?_   -- r2
  simp only [go_sem]
  refine hR _ _ (kq5 _ _ ?_); clear hR R; try clear kq5 kz5
  try simp only [go_sem]
  refine W_cond rfl (fun c1 => ?_) (fun c1 => ?_)
  · -- c1 true
    try simp only [nrm] at c1
    have hi' : i < l.length := by first | assumption | omega
    obtain ⟨b, hx⟩ : ∃ b, l[i]? = some b := ⟨l[i], by simp [hi']⟩
    have hdrop : l.drop i = b :: l.drop (i + 1) := by
      rw [List.drop_eq_getElem_cons hi']; congr 1; exact (List.getElem?_eq_some_iff.1 hx).2
    have hbl := List.mem_of_getElem? hx
    rw [hdrop] at hinv
    simp only [togL] at hinv
    rw [← take_snoc hx] at hinv
    refine W_skip (kq4 _ _ ?_)
    refine W_seq fun kz6 kq6 => ?_
    refine W_block ?_
    refine W_seq fun kz7 kq7 => ?_
    refine W_seq fun kz8 kq8 => ?_
    refine W_region [1, 2, 5, 6] fun R hR => ?_   -- r4
    simp only [go_sem, hx]
    refine hR _ _ (kq8 _ _ ?_); clear hR R; try clear kq8 kz8
    try simp only [go_sem, hx]
    refine W_block ?_
    refine W_loopS (α := Nat) (fun (k : Nat) => [(6, I k)]) (fun (k : Nat) => k ≤ i ∧ clashOf ct b (l.take i) = clashOf ct b ((l.take i).drop k)) (fun (k : Nat) => i - k) (0) rfl (⟨Nat.zero_le _, rfl⟩) ?_
    rintro k ⟨hk1, hcin⟩
    refine W_seq fun kz9 kq9 => ?_
    refine W_seq fun kz10 kq10 => ?_
    refine W_region [1, 2, 5, 6, 15] fun R hR => ?_   -- r5
    simp only [go_sem, hx]
    refine hR _ _ (kq10 _ _ ?_); clear hR R; try clear kq10 kz10
    try simp only [go_sem, hx]
    refine W_cond rfl (fun c2 => ?_) (fun c2 => ?_)
    · -- c2 true
      try simp only [nrm] at c2
      have hk' : k < i := by first | assumption | omega
      obtain ⟨x, hxk⟩ : ∃ x, l[k]? = some x := ⟨l[k]'(by omega), by simp⟩
      have hxl := List.mem_of_getElem? hxk
      have hdk : (l.take i).drop k = x :: (l.take i).drop (k + 1) := by
        rw [List.drop_eq_getElem_cons (by simp; omega)]; congr 1
        rw [List.getElem_take]; exact (List.getElem?_eq_some_iff.1 hxk).2
      rw [hdk] at hcin
      simp only [clashOf] at hcin
      refine W_skip (kq9 _ _ ?_)
      refine W_seq fun kz11 kq11 => ?_
      refine W_block ?_
      refine W_seq fun kz12 kq12 => ?_
      refine W_draw [1, 2, 5, 6, 28] [0, 1, 2, 3, 4, 5, 6, 7, 8, 9, 10] [] [[], [], [], [1, 2], [1, 2, 3], [], [], [5, 6], [5, 6, 7], [0, 1, 2, 3, 4, 5, 6, 7, 8], [0, 1, 2, 3, 4, 5, 6, 7, 8, 9]] mixed (by kernel_rfl) fun R hR => ?_   -- r7
      simp only [go_sem, hx, hxk]
      refine GCall_of (PC.val (v' := I (crossVal ct b x)) (rcross_pc Y _ ct x b hc (hl2 x hxl) (hl2 b hbl) hk (hv x hxl) (hv b hbl)) (by rw [crossVal_symm hk (hv x hxl) (hv b hbl)])) ?_   -- t27
      simp only [go_sem, hx, hxk]
      try refine And.intro (by repeat' (first | refine And.intro ?_ ?_ | exact GOr_right (fun _ => by simp only [go_sem, hx, hxk]))) ?_
      refine hR _ _ (kq12 _ _ ?_); clear hR R; try clear kq12 kz12
      try simp only [go_sem, hx, hxk]
      refine W_cond rfl (fun c3 => ?_) (fun c3 => ?_)
      · -- c3 true
        try simp only [nrm] at c3
        have hf : tg = false := by rw [hinv, hcin, if_pos c3]; rfl
        refine W_seq fun kz13 kq13 => ?_
        refine W_region [4] fun R hR => ?_   -- r8
        simp only [go_sem, hx, hxk]
        refine hR _ _ (kq13 _ _ ?_); clear hR R; try clear kq13 kz13
        try simp only [go_sem, hx, hxk]
        refine W_ret ?_
        simp only [go_sem, hx, hxk]
        refine ⟨.inr (by trivial), ?_⟩
        first | refine Fin_same hcl rfl (Wk_eq ?_ (by simp only [go_sem])) | refine Fin_self hcl rfl (Wk_eq ?_ (by simp only [go_sem]))
        try simp only [go_sem]
        all_goals
          rw [hf]; rfl
      · -- c3 false
        try simp only [nrm] at c3
        refine W_skip (kq11 _ _ ?_)
        refine W_region [1, 2, 5, 6] fun R hR => ?_   -- r6
        simp only [go_sem, hx, hxk]
        try simp (disch := omega) only [wrapI, wrapU]
        refine hR _ _ ?_; clear hR R
        try simp only [go_sem, hx, hxk]
        refine ⟨k + 1, ?_, by (try simp only []); omega, ?_⟩
        · first | exact Weak.refl | exact Weak.eq (by first | rfl | (simp only [go_sem]; done) | (simp only [go_sem]; rfl) | (simp [go_sem]; done) | (simp [go_sem]; omega)) (by first | rfl | (simp only [go_sem]; done) | (simp [go_sem]; done))
        · try dsimp only
          exact ⟨hk', by rw [hcin, if_neg (by simp [c3])]⟩
    · -- c2 false
      try simp only [nrm] at c2
      have hdk : (l.take i).drop k = [] := List.drop_eq_nil_of_le (by simp; omega)
      rw [hdk] at hcin
      simp only [clashOf] at hcin
      have hcz : clashOf ct b (l.take i) = 0 := hcin
      refine W_exit ?_
      simp only [go_sem, hx]
      refine kq7 _ _ ?_
      refine W_seq fun kz14 kq14 => ?_
      refine W_draw [1, 2, 5, 35] [0, 1, 2, 3, 4, 5, 6] [] [[], [], [], [1, 2], [1, 2, 3], [0, 1, 2, 3, 4], [0, 1, 2, 3, 4, 5]] mixed (by kernel_rfl) fun R hR => ?_   -- r9
      simp only [go_sem, hx]
      refine GCall_of (rfits_pc Y _ ct b hc (hl2 b hbl) hk) ?_   -- t34
      simp only [go_sem, hx]
      try refine And.intro (by repeat' (first | refine And.intro ?_ ?_ | exact GOr_right (fun _ => by simp only [go_sem, hx]))) ?_
      refine hR _ _ (kq14 _ _ ?_); clear hR R; try clear kq14 kz14
      try simp only [go_sem, hx]
      refine W_cond rfl (fun c4 => ?_) (fun c4 => ?_)
      · -- c4 true
        try simp only [nrm] at c4
        have hf : tg = false := by rw [hinv, hcz]; simp [c4]
        refine W_seq fun kz15 kq15 => ?_
        refine W_region [4] fun R hR => ?_   -- r10
        simp only [go_sem, hx]
        refine hR _ _ (kq15 _ _ ?_); clear hR R; try clear kq15 kz15
        try simp only [go_sem, hx]
        refine W_ret ?_
        simp only [go_sem, hx]
        refine ⟨.inr (by trivial), ?_⟩
        first | refine Fin_same hcl rfl (Wk_eq ?_ (by simp only [go_sem])) | refine Fin_self hcl rfl (Wk_eq ?_ (by simp only [go_sem]))
        try simp only [go_sem]
        all_goals
          rw [hf]; rfl
      · -- c4 false
        try simp only [nrm] at c4
        have hov : overOf ct b = 0 := by simpa using c4
        refine W_skip (kq6 _ _ ?_)
        refine W_region [1, 2, 5] fun R hR => ?_   -- r3
        simp only [go_sem, hx]
        try simp (disch := omega) only [wrapI, wrapU]
        refine hR _ _ ?_; clear hR R
        try simp only [go_sem, hx]
        refine ⟨i + 1, ?_, by (try simp only []); omega, ?_⟩
        · first | exact Weak.refl | exact Weak.eq (by first | rfl | (simp only [go_sem]; done) | (simp only [go_sem]; rfl) | (simp [go_sem]; done) | (simp [go_sem]; omega)) (by first | rfl | (simp only [go_sem]; done) | (simp [go_sem]; done))
        · try dsimp only
          exact ⟨hi', by rw [hinv, hcz]; simp [hov]⟩
  · -- c1 false
    try simp only [nrm] at c1
    have hdrop : l.drop i = [] := List.drop_eq_nil_of_le (by omega)
    rw [hdrop] at hinv
    simp only [togL] at hinv
    refine W_exit ?_
    simp only [go_sem]
    refine kq2 _ _ ?_
    refine W_seq fun kz16 kq16 => ?_
    refine W_region [4] fun R hR => ?_   -- r11
    simp only [go_sem]
    refine GCall_of (rsleeps_pc Y _ ct l hc hl (by omega) hk hv) ?_   -- t38
    simp only [go_sem]
    refine hR _ _ (kq16 _ _ ?_); clear hR R; try clear kq16 kz16
    try simp only [go_sem]
    refine W_ret ?_
    simp only [go_sem]
    refine ⟨.inr (by trivial), ?_⟩
    first | refine Fin_same hcl rfl (Wk_eq ?_ (by simp only [go_sem])) | refine Fin_self hcl rfl (Wk_eq ?_ (by simp only [go_sem]))
    try simp only [go_sem]
    all_goals
      rw [hinv]; simp
set_option maxHeartbeats 2000000 in
theorem rBest_pc (Y : YEnv) (σ : Sg) (ct : City) (l : List Band) (hc : ct.Ok) (hl : BandsOk l) :
    PC Try.prog Y 40 [ctPV ct, bands l] σ (.tuple [ints (rbAns ct l).1, I (rbAns ct l).2]) (σ) := by
  refine PC_of_W Try.func40 rfl (by kernel_rfl) Try.ntmps40 (by simp) fun hcl hca => ?_
  have hl1 := hl.1
  have hl2 := hl.2
  obtain ⟨res, hres⟩ : ∃ r, rbAns ct l = r := ⟨_, rfl⟩
  rw [hres]
  refine W_seq fun kz1 kq1 => ?_
  refine W_region [1, 2] fun R hR => ?_   -- r0
  simp only [go_sem]
  refine hR _ _ (kq1 _ _ ?_); clear hR R; try clear kq1 kz1
  try simp only [go_sem]
  refine W_seq fun kz2 kq2 => ?_
  refine W_seq fun kz3 kq3 => ?_
  refine W_region [1, 2, 6] fun R hR => ?_   -- r1
  simp only [go_sem]
  refine GCall_of (rcheckBands_pc Y _ ct l hc hl) ?_   -- t16
  simp only [go_sem]
  refine hR _ _ (kq3 _ _ ?_); clear hR R; try clear kq3 kz3
  try simp only [go_sem]
  refine W_seq fun kz4 kq4 => ?_
  refine W_region [1, 2, 6, 18] fun R hR => ?_   -- r2
  simp only [go_sem]
  refine hR _ _ (kq4 _ _ ?_); clear hR R; try clear kq4 kz4
  try simp only [go_sem]
  refine W_cond rfl (fun c1 => ?_) (fun c1 => ?_)
  · -- c1 true
    try simp only [nrm] at c1
    refine W_seq fun kz5 kq5 => ?_
    refine W_region [4, 5] fun R hR => ?_   -- r3
    simp only [go_sem]
    refine hR _ _ (kq5 _ _ ?_); clear hR R; try clear kq5 kz5
    try simp only [go_sem]
    refine W_ret ?_
    simp only [go_sem]
    refine ⟨.inr (by trivial), ?_⟩
    refine Fin_same hcl rfl (Wk.ro (by simp only [go_sem]) ?_)
    try simp only [go_sem]
    all_goals
      rw [← hres]; simp [rbAns, c1, PV.ro, PV.roL]
  · -- c1 false
    try simp only [nrm] at c1
    obtain ⟨hk, hlen, hcb⟩ := chkAll_ok c1
    have hv := chkBands_ok hcb
    refine W_skip (kq2 _ _ ?_)
    refine W_seq fun kz6 kq6 => ?_
    refine W_seq fun kz7 kq7 => ?_
    refine W_region [1, 2, 22] fun R hR => ?_   -- r4
    simp only [go_sem]
    refine hR _ _ (kq7 _ _ ?_); clear hR R; try clear kq7 kz7
    try simp only [go_sem]
    refine W_cond rfl (fun c2 => ?_) (fun c2 => ?_)
    · -- c2 true
      try simp only [nrm] at c2
      refine W_seq fun kz8 kq8 => ?_
      refine W_region [4, 5] fun R hR => ?_   -- r5
      simp only [go_sem]
      refine hR _ _ (kq8 _ _ ?_); clear hR R; try clear kq8 kz8
      try simp only [go_sem]
      refine W_ret ?_
      simp only [go_sem]
      refine ⟨.inr (by trivial), ?_⟩
      refine Fin_same hcl rfl (Wk.ro (by simp only [go_sem]) ?_)
      try simp only [go_sem]
      all_goals
        rw [← hres]; simp [rbAns, c1, c2, PV.ro, PV.roL]
    · -- c2 false
      try simp only [nrm] at c2
      have hsl := shl1 (n := l.length) (by omega)
      have hpw : 2 ^ l.length ≤ 2 ^ 8 := Nat.pow_le_pow_right (by omega) (by omega)
      obtain ⟨N, hN⟩ : ∃ z, 2 ^ l.length = z := ⟨_, rfl⟩
      rw [hN] at hsl hpw
      refine W_skip (kq6 _ _ ?_)
      refine W_seq fun kz9 kq9 => ?_
      refine W_region [1, 2, 7] fun R hR => ?_   -- r6
      simp only [go_sem, hsl]
      refine hR _ _ (kq9 _ _ ?_); clear hR R; try clear kq9 kz9
      try simp only [go_sem, hsl]
      refine W_seq fun kz10 kq10 => ?_
      refine W_region [1, 2, 7, 8] fun R hR => ?_   -- r7
      simp only [go_sem, hsl]
      refine hR _ _ (kq10 _ _ ?_); clear hR R; try clear kq10 kz10
      try simp only [go_sem, hsl]
      refine W_seq fun kz11 kq11 => ?_
      refine W_seq fun kz12 kq12 => ?_
      refine W_region [1, 2, 7, 8, 9] fun R hR => ?_   -- r8
      simp only [go_sem, hsl]
      refine hR _ _ (kq12 _ _ ?_); clear hR R; try clear kq12 kz12
      try simp only [go_sem, hsl]
      refine W_block ?_
      refine W_weak (Weak.ro 7) ?_
      refine W_weak (Weak.keep [1, 2, 7, 8, 9]) ?_
      simp only [go_sem]
      refine W_loopS (α := Nat × (List Int) × Int) (fun ⟨k, bst, mst⟩ => [(7, ints bst), (8, I mst), (9, I k)]) (fun ⟨k, bst, mst⟩ => k ≤ N ∧ (bst, mst) = rbRun ct l k ∧ bst.length ≤ 20) (fun ⟨k, bst, mst⟩ => N - k) ((0, [], 0)) rfl (⟨Nat.zero_le _, rfl, by simp⟩) ?_
      rintro ⟨k, bst, mst⟩ ⟨hkN, hrun, hbl⟩
      refine W_seq fun kz13 kq13 => ?_
      refine W_seq fun kz14 kq14 => ?_
      refine W_region [1, 2, 7, 8, 9, 27] fun R hR => ?_   -- r9
      simp only [go_sem, hsl]
      refine hR _ _ (kq14 _ _ ?_); clear hR R; try clear kq14 kz14
      try simp only [go_sem, hsl]
      refine W_cond rfl (fun c3 => ?_) (fun c3 => ?_)
      · -- c3 true
        try simp only [nrm] at c3
        have hk' : k < N := by omega
        obtain ⟨ms, hms⟩ : ∃ z, intsN (memN k l.length) = z := ⟨_, rfl⟩
        obtain ⟨bs, hbs⟩ : ∃ z, bandsAt l (memN k l.length) = z := ⟨_, rfl⟩
        obtain ⟨pp, hpp⟩ : ∃ z, pplOf bs = z := ⟨_, rfl⟩
        have hml : ms.length ≤ 10 := by rw [← hms]; have := memN_len k l.length; simp [intsN]; omega
        have hbsl : bs.length ≤ 10 := by rw [← hbs]; have := memN_len k l.length; have := bandsAt_len l (memN k l.length); omega
        have hbm : ∀ x, x ∈ bs → x ∈ l := fun x hx => by rw [← hbs] at hx; exact bandsAt_mem hx
        have hstep : rbRun ct l (k + 1) = if betterB ms pp bst mst && togB ct bs then (ms, pp) else (bst, mst) := by
          simp only [rbRun]
          rw [hms, hbs, hpp, ← hrun]
        refine W_skip (kq13 _ _ ?_)
        refine W_seq fun kz15 kq15 => ?_
        refine W_block ?_
        refine W_seq fun kz16 kq16 => ?_
        refine W_region [1, 2, 7, 8, 9, 10, 11, 12] fun R hR => ?_   -- r11
        simp only [go_sem, hsl]
        refine GCall_of (PC.val (v' := .tuple [ints ms, bands bs, I pp]) (Members_pc Y _ ct l k (by omega) (by omega) hv) (by rw [hms, hbs, hpp])) ?_   -- t33
        simp only [go_sem, hsl]
        refine hR _ _ (kq16 _ _ ?_); clear hR R; try clear kq16 kz16
        try simp only [go_sem, hsl]
        refine W_seq fun kz17 kq17 => ?_
        refine W_regionJ [1, 2, 7, 8, 9, 10, 11, 12, 13] [(13, .bool (betterB ms pp bst mst))] ?_ fun R hR => ?_   -- r12
        · refine kq17 _ _ ?_
          simp only [go_sem, hsl]
          refine W_seq fun kz18 kq18 => ?_
          refine W_regionJ [1, 2, 7, 8, 9, 10, 12, 69] [(69, .bool (betterB ms pp bst mst && togB ct bs))] ?_ fun R hR => ?_   -- r13
          · refine kq18 _ _ ?_
            simp only [go_sem, hsl]
            refine W_cond rfl (fun c4 => ?_) (fun c4 => ?_)
            · -- c4 true
              try simp only [nrm] at c4
              refine W_region [1, 2, 7, 8, 9] fun R hR => ?_   -- r14
              simp only [go_sem, hsl]
              refine hR _ _ (kq15 _ _ ?_); clear hR R; try clear kq15 kz15
              try simp only [go_sem, hsl]
              refine W_region [1, 2, 7, 8, 9] fun R hR => ?_   -- r10
              simp only [go_sem, hsl]
              try simp (disch := omega) only [wrapI, wrapU]
              refine hR _ _ ?_; clear hR R
              try simp only [go_sem, hsl]
              refine ⟨(k + 1, ms, pp), ?_, by (try simp only []); omega, ?_⟩
              · first | exact Weak.refl | exact Weak.eq (by first | rfl | (simp only [go_sem]; done) | (simp only [go_sem]; rfl) | (simp [go_sem]; done) | (simp [go_sem]; omega)) (by first | rfl | (simp only [go_sem]; done) | (simp [go_sem]; done))
              · try dsimp only
                refine ⟨hk', ?_, by omega⟩
                rw [hstep]
                first | rw [if_pos c4] | rw [if_neg (by simp [c4])]
            · -- c4 false
              try simp only [nrm] at c4
              refine W_skip (kq15 _ _ ?_)
              refine W_region [1, 2, 7, 8, 9] fun R hR => ?_   -- r10
              simp only [go_sem, hsl]
              try simp (disch := omega) only [wrapI, wrapU]
              refine hR _ _ ?_; clear hR R
              try simp only [go_sem, hsl]
              refine ⟨(k + 1, bst, mst), ?_, by (try simp only []); omega, ?_⟩
              · first | exact Weak.refl | exact Weak.eq (by first | rfl | (simp only [go_sem]; done) | (simp only [go_sem]; rfl) | (simp [go_sem]; done) | (simp [go_sem]; omega)) (by first | rfl | (simp only [go_sem]; done) | (simp [go_sem]; done))
              · try dsimp only
                refine ⟨hk', ?_, by omega⟩
                rw [hstep]
                first | rw [if_pos c4] | rw [if_neg (by simp [c4])]
          · simp only [go_sem, hsl]
            refine GWant_split (fun g1 => ?_) (fun g1 => ?_)
            · try simp only [Bool.not_eq_true', Bool.not_eq_false'] at g1
              have n1 := g1; try simp only [nrm] at n1
              simp only [go_sem, hsl, g1]
              refine GCall_of (Together_pc Y _ ct bs hc ⟨by omega, fun x hx => hl2 x (hbm x hx)⟩ (by omega) hk (fun x hx => hv x (hbm x hx))) ?_   -- t68
              simp only [go_sem, hsl, g1]
              refine hR _ ?_
              try simp only [go_sem, hsl]
              all_goals
                first | (simp [*]; done)
            · try simp only [Bool.not_eq_true', Bool.not_eq_false'] at g1
              have n1 := g1; try simp only [nrm] at n1
              simp only [go_sem, hsl, g1]
              refine hR _ ?_
              try simp only [go_sem, hsl]
              all_goals
                first | (simp [*]; done)
        · simp only [go_sem, hsl]
          refine GWant_split (fun g2 => ?_) (fun g2 => ?_)
          · try simp only [Bool.not_eq_true', Bool.not_eq_false'] at g2
            have n2 := g2; try simp only [nrm] at n2
            simp only [go_sem, hsl, g2]
            refine GWant_split (fun g3 => ?_) (fun g3 => ?_)
            · try simp only [Bool.not_eq_true', Bool.not_eq_false'] at g3
              have n3 := g3; try simp only [nrm] at n3
              simp only [go_sem, hsl, g2, g3]
              refine GWant_split (fun g4 => ?_) (fun g4 => ?_)
              · try simp only [Bool.not_eq_true', Bool.not_eq_false'] at g4
                have n4 := g4; try simp only [nrm] at n4
                simp only [go_sem, hsl, g2, g3, g4]
                refine GWant_split (fun g5 => ?_) (fun g5 => ?_)
                · try simp only [Bool.not_eq_true', Bool.not_eq_false'] at g5
                  have n5 := g5; try simp only [nrm] at n5
                  simp only [go_sem, hsl, g2, g3, g4, g5]
                  refine GCall_of (Before_pc Y _ ms bst (by omega) (by omega)) ?_   -- t59
                  simp only [go_sem, hsl, g2, g3, g4, g5]
                  refine hR _ ?_
                  try simp only [go_sem, hsl]
                  all_goals
                    first | (simp [betterB, *]; done) | (simp [betterB, *]; omega)
                · try simp only [Bool.not_eq_true', Bool.not_eq_false'] at g5
                  have n5 := g5; try simp only [nrm] at n5
                  simp only [go_sem, hsl, g2, g3, g4, g5]
                  refine hR _ ?_
                  try simp only [go_sem, hsl]
                  all_goals
                    first | (simp [betterB, *]; done) | (simp [betterB, *]; omega)
              · try simp only [Bool.not_eq_true', Bool.not_eq_false'] at g4
                have n4 := g4; try simp only [nrm] at n4
                simp only [go_sem, hsl, g2, g3, g4]
                refine hR _ ?_
                try simp only [go_sem, hsl]
                all_goals
                  first | (simp [betterB, *]; done) | (simp [betterB, *]; omega)
            · try simp only [Bool.not_eq_true', Bool.not_eq_false'] at g3
              have n3 := g3; try simp only [nrm] at n3
              simp only [go_sem, hsl, g2, g3]
              refine hR _ ?_
              try simp only [go_sem, hsl]
              all_goals
                first | (simp [betterB, *]; done) | (simp [betterB, *]; omega)
          · try simp only [Bool.not_eq_true', Bool.not_eq_false'] at g2
            have n2 := g2; try simp only [nrm] at n2
            simp only [go_sem, hsl, g2]
            refine hR _ ?_
            try simp only [go_sem, hsl]
            all_goals
              first | (simp [betterB, *]; done) | (simp [betterB, *]; omega)
      · -- c3 false
        try simp only [nrm] at c3
        obtain rfl : k = N := by omega
        refine W_exit ?_
        simp only [go_sem, hsl]
        refine kq11 _ _ ?_
        refine W_seq fun kz19 kq19 => ?_
        refine W_region [4, 5] fun R hR => ?_   -- r15
        simp only [go_sem, hsl]
        refine hR _ _ (kq19 _ _ ?_); clear hR R; try clear kq19 kz19
        try simp only [go_sem, hsl]
        refine W_ret ?_
        simp only [go_sem, hsl]
        refine ⟨.inr (by trivial), ?_⟩
        first | refine Fin_same hcl rfl (Wk_eq ?_ (by simp only [go_sem])) | refine Fin_self hcl rfl (Wk_eq ?_ (by simp only [go_sem]))
        try simp only [go_sem]
        all_goals
          rw [← hres]; simp only [rbAns]; rw [if_neg (by simp [c1]), if_neg (by simpa using c2), hN, ← hrun]

end Go.Proofs.Ytnpamcpoaklgeaa

namespace Go.Proofs.Ytnpamcpoaklgeaa
open Go Go.RowKit
set_option maxRecDepth 100000

theorem BestOK.zero (Y : YEnv) (ct : City) (l : List Band) : BestOK Y ct l 0 := fun σ next chosen w people best most _ h1 h2 => by omega

set_option maxHeartbeats 2000000 in
theorem Best1_step (Y : YEnv) (σ : Sg) (ct : City) (l : List Band) (hc : ct.Ok) (hl : BandsOk l) (hlen : l.length ≤ 10) (hk : chkCity ct = 0) (hv : ∀ b, b ∈ l → chkBand ct b = 0) (fuel : Nat) (ih : BestOK Y ct l fuel) (next : Nat) (chosen : List Int) (w : List Band) (people : Int) (best : List Int) (most : Int) (hτ : CleanSg σ) (hfu : l.length < next + (fuel + 1)) (hnx : next ≤ l.length) (hch : chosen.length ≤ next) (hw : w.length ≤ next) (hwl : ∀ x, x ∈ w → x ∈ l) (hp0 : 0 ≤ people) (hp1 : people ≤ 1000000 * next) (hbl : best.length ≤ l.length) :
    PC Try.prog Y 78 [I next, ints chosen, bands w, I people, .ptr (σ.store.length + 2) 0, .ptr (σ.store.length + 3) 0, .ptr (σ.store.length + 1) 0, .ptr σ.store.length 0, .ptr (σ.store.length + 4) 0] (σ.ext (bestVars ct l σ.store.length best most) []) (.tuple []) (σ.ext (bestVars ct l σ.store.length (tryB ct l (fuel + 1) next chosen w people (best, most)).1 (tryB ct l (fuel + 1) next chosen w people (best, most)).2) []) := by
  refine PC_of_W Try.func78 rfl (by kernel_rfl) Try.ntmps78 (by simp) fun hcl hca => ?_
  clear hcl
  have hcl := hτ
  have hl2 := hl.2
  rw [tryB_succ]
  simp only [go_sem]
  refine W_seq fun kz1 kq1 => ?_
  refine W_seq fun kz2 kq2 => ?_
  refine W_regionJ [0, 1, 2, 3, 4, 5, 6, 7, 8, 41] [(41, .bool (betterB chosen people best most))] ?_ fun R hR => ?_   -- r0
  · refine kq2 _ _ ?_
    simp only [go_sem]
    refine W_cond rfl (fun c1 => ?_) (fun c1 => ?_)
    · -- c1 true
      try simp only [nrm] at c1
      obtain ⟨b1, hb1⟩ : ∃ z, z = chosen := ⟨_, rfl⟩
      obtain ⟨m1, hm1⟩ : ∃ z, z = people := ⟨_, rfl⟩
      refine W_region [0, 1, 2, 3, 6, 7, 8] fun R hR => ?_   -- r1
      simp only [go_sem]
      refine GCall_of (CloneI_pc Y _ chosen (by omega)) ?_   -- t43
      simp only [go_sem]
      refine hR _ _ (kq1 _ _ ?_); clear hR R; try clear kq1 kz1
      try simp only [go_sem]
      refine W_seq fun kz3 kq3 => ?_
      refine W_region [1, 2, 3, 6, 7, 8, 13] fun R hR => ?_   -- r2
      simp only [go_sem]
      refine hR _ _ (kq3 _ _ ?_); clear hR R; try clear kq3 kz3
      try simp only [go_sem]
      refine W_block ?_
      refine W_weak (Weak.roX (j := 2) (off := 0) rfl rfl) ?_
      simp only [go_sem]
      refine W_weak (Weak.cutX 5 0 (by omega) (by omega) hcl (by simp only [go_sem] <;> omega) (by simp only [go_sem] <;> omega)) ?_
      simp only [go_sem]
      refine W_loopT (α := Nat × (List Int) × Int) (fun ⟨set, bst, mst⟩ => [(13, I set)]) (fun ⟨set, bst, mst⟩ => σ.ext (bestVars ct l σ.store.length bst mst) []) (fun ⟨set, bst, mst⟩ => next ≤ set ∧ set ≤ l.length ∧ bst.length ≤ l.length ∧ tryF ct l fuel chosen w people next (if betterB chosen people best most then (chosen, people) else (best, most)) = tryF ct l fuel chosen w people set (bst, mst)) (fun ⟨set, bst, mst⟩ => l.length - set) ((next, b1, m1)) rfl (by rw [hb1, hm1]; first | rfl | (simp only [go_sem]; done) | (simp only [go_sem]; rfl)) (⟨Nat.le_refl _, hnx, by rw [hb1]; omega, by rw [hb1, hm1]; first | rw [if_pos c1] | rw [if_neg (by simp [c1])]⟩) ?_
      rintro ⟨set, bst, mst⟩ ⟨hns, hsl, hbsl, hinv⟩
      refine W_seq fun kz4 kq4 => ?_
      refine W_seq fun kz5 kq5 => ?_
      refine W_region [1, 2, 3, 6, 7, 8, 13, 49] fun R hR => ?_   -- r3
      simp only [go_sem]
      refine hR _ _ (kq5 _ _ ?_); clear hR R; try clear kq5 kz5
      try simp only [go_sem]
      refine W_cond rfl (fun c2 => ?_) (fun c2 => ?_)
      · -- c2 true
        try simp only [nrm] at c2
        have hs' : set < l.length := by first | assumption | omega
        obtain ⟨b, hx⟩ : ∃ b, l[set]? = some b := ⟨l[set], by simp [hs']⟩
        have hdrop : l.drop set = b :: l.drop (set + 1) := by
          rw [List.drop_eq_getElem_cons hs']; congr 1; exact (List.getElem?_eq_some_iff.1 hx).2
        have hbm := List.mem_of_getElem? hx
        have htb := timesOf_ok (chkBand_ok (hv b hbm)).2
        rw [tryF_step hx] at hinv
        have hwl' : ∀ x, x ∈ w ++ [b] → x ∈ l := fun x hx => by rcases List.mem_append.1 hx with h | h; exact hwl x h; simp only [List.mem_singleton] at h; subst h; exact hbm
        refine W_skip (kq4 _ _ ?_)
        refine W_seq fun kz6 kq6 => ?_
        refine W_block ?_
        refine W_seq fun kz7 kq7 => ?_
        refine W_draw [1, 2, 3, 6, 7, 8, 13, 60] [0, 1, 2, 3, 4, 5, 6, 7, 8] [] [[], [], [], [], [2, 3], [2, 3, 4], [0, 1, 2, 3, 4, 5], [0, 1, 2, 3, 4, 5, 6], [0, 1, 2, 3, 4, 5, 6, 7]] mixed (by kernel_rfl) fun R hR => ?_   -- r5
        simp only [go_sem, hx]
        refine GCall_of (PC.ofRo (granted_pc Y _ ct w b hc ⟨by omega, fun x hx => hl2 x (hwl x hx)⟩ (by omega) hk (fun x hx => hv x (hwl x hx)) (hl2 b hbm) (hv b hbm)) (by simp only [go_sem, bands] <;> rfl)) ?_   -- t59
        simp only [go_sem, hx]
        try refine And.intro (by repeat' (first | refine And.intro ?_ ?_ | exact GOr_right (fun _ => by simp only [go_sem, hx]))) ?_
        refine hR _ _ (kq7 _ _ ?_); clear hR R; try clear kq7 kz7
        try simp only [go_sem, hx]
        refine W_cond rfl (fun c3 => ?_) (fun c3 => ?_)
        · -- c3 true
          try simp only [nrm] at c3
          refine W_draw [1, 2, 3, 6, 7, 8, 13] [0, 1, 2, 3, 4, 5, 6, 7, 8, 9, 10, 11, 12, 13, 14, 15, 16, 17, 18, 19, 20, 21, 22, 23] [(0, 7), (0, 9), (0, 15), (0, 23), (1, 7), (1, 9), (1, 15), (1, 23), (2, 7), (2, 9), (2, 15), (2, 23), (5, 4), (6, 4), (8, 4), (8, 7), (10, 4), (10, 7), (10, 9), (11, 4), (11, 7), (11, 9), (12, 4), (12, 7), (12, 9), (13, 4), (13, 7), (13, 9), (14, 4), (14, 7), (14, 9), (16, 4), (16, 7), (16, 9), (16, 15), (17, 4), (17, 7), (17, 9), (17, 15), (18, 4), (18, 7), (18, 9), (18, 15), (19, 4), (19, 7), (19, 9), (19, 15), (20, 4), (20, 7), (20, 9), (20, 15), (21, 4), (21, 7), (21, 9), (21, 15), (22, 4), (22, 7), (22, 9), (22, 15)] [[], [], [1], [], [3], [], [5], [3, 4, 5, 6], [], [3, 4, 5, 6, 7, 8], [], [], [10, 11], [10, 11, 12], [10, 11, 12, 13], [3, 4, 5, 6, 7, 8, 9, 10, 11, 12, 13, 14], [], [], [], [17, 18], [17, 18, 19], [17, 18, 19, 20], [16, 17, 18, 19, 20, 21], [0, 1, 2, 3, 4, 5, 6, 7, 8, 9, 10, 11, 12, 13, 14, 15, 16, 17, 18, 19, 20, 21, 22]] mixed (by kernel_rfl) fun R hR => ?_   -- r6
          simp only [go_sem, hx]
          try simp (disch := omega) only [wrapI, wrapU]
          refine GCall_of (CloneI_pc Y _ chosen (by omega)) ?_   -- t65
          simp only [go_sem, hx]
          try simp (disch := first | omega | (simp only [go_sem] <;> omega)) only [wrapI, wrapU, appX_exact, appX_tok]
          try simp only [go_sem, hx]
          try simp (disch := omega) only [wrapI, wrapU]
          refine GCall_of (CloneB_pc Y _ w (by omega)) ?_   -- t70
          simp only [go_sem, hx]
          have hih := ih (σ.ext [] [chosen.length + 1, w.length + 1]) (set + 1) (chosen ++ [(set : Int)]) (w ++ [b]) (people + b.people) bst mst (hτ.rooms _) (by omega) (by omega) (by simp; omega) (by simp; omega) hwl' (by omega) (by omega) hbsl
          simp only [go_sem] at hih
          try simp (disch := first | omega | (simp only [go_sem] <;> omega)) only [wrapI, wrapU, appX_exact, appX_tok]
          try simp only [go_sem, hx]
          try simp (disch := omega) only [wrapI, wrapU]
          refine GCall_of (PC.ofRo hih (by simp only [go_sem, bands] <;> first | rfl | (simp [List.map_append]; done))) ?_   -- t84
          simp only [go_sem, hx]
          try simp (disch := omega) only [wrapI, wrapU]
          try refine And.intro (by repeat' (first | refine And.intro ?_ ?_ | exact GOr_right (fun _ => by simp only [go_sem, hx]))) ?_
          refine hR _ _ (kq6 _ _ ?_); clear hR R; try clear kq6 kz6
          try simp only [go_sem, hx]
          refine W_region [1, 2, 3, 6, 7, 8, 13] fun R hR => ?_   -- r4
          simp only [go_sem, hx]
          try simp (disch := omega) only [wrapI, wrapU]
          refine hR _ _ ?_; clear hR R
          try simp only [go_sem, hx]
          refine ⟨(set + 1, (tryB ct l fuel (set + 1) (chosen ++ [(set : Int)]) (w ++ [b]) (people + b.people) (bst, mst)).1, (tryB ct l fuel (set + 1) (chosen ++ [(set : Int)]) (w ++ [b]) (people + b.people) (bst, mst)).2), ?_, by (try simp only []); omega, ?_⟩
          · refine Weak.trans (Weak.cutX 5 0 (by omega) (by omega) hcl (by simp only [go_sem] <;> omega) (by simp only [go_sem] <;> omega)) ?_
            simp only [go_sem]
            exact Weak.eq (by first | rfl | (simp only [go_sem]; done) | (simp only [go_sem]; rfl) | (simp [go_sem]; done) | (simp [go_sem]; omega)) (by first | rfl | (simp only [go_sem]; done) | (simp [go_sem]; done))
          · try dsimp only
            refine ⟨by omega, hs', ?_, ?_⟩
            · first | exact hbsl | exact tryB_len ct l fuel _ _ _ _ _ (by simp; omega) (by omega) hbsl
            · rw [hinv]; first | rw [if_pos c3] | rw [if_neg c3] | rw [if_pos c5] | rw [if_neg c5]
        · -- c3 false
          try simp only [nrm] at c3
          refine W_skip (kq6 _ _ ?_)
          refine W_region [1, 2, 3, 6, 7, 8, 13] fun R hR => ?_   -- r4
          simp only [go_sem, hx]
          try simp (disch := omega) only [wrapI, wrapU]
          refine hR _ _ ?_; clear hR R
          try simp only [go_sem, hx]
          refine ⟨(set + 1, bst, mst), ?_, by (try simp only []); omega, ?_⟩
          · refine Weak.trans (Weak.cutX 5 0 (by omega) (by omega) hcl (by simp only [go_sem] <;> omega) (by simp only [go_sem] <;> omega)) ?_
            simp only [go_sem]
            exact Weak.eq (by first | rfl | (simp only [go_sem]; done) | (simp only [go_sem]; rfl) | (simp [go_sem]; done) | (simp [go_sem]; omega)) (by first | rfl | (simp only [go_sem]; done) | (simp [go_sem]; done))
          · try dsimp only
            refine ⟨by omega, hs', ?_, ?_⟩
            · first | exact hbsl | exact tryB_len ct l fuel _ _ _ _ _ (by simp; omega) (by omega) hbsl
            · rw [hinv]; first | rw [if_pos c3] | rw [if_neg c3] | rw [if_pos c5] | rw [if_neg c5]
      · -- c2 false
        try simp only [nrm] at c2
        obtain rfl : set = l.length := by omega
        rw [tryF_end (Nat.le_refl _)] at hinv
        refine W_exit ?_
        simp only [go_sem]
        try simp only [go_sem]
        refine ⟨.inl (by trivial), ?_⟩
        rw [hinv]; exact Fin_end (CleanSg_ext hcl (by show CleanLs _ _ _ _; simp only [go_sem] <;> omega)) (by simp only [go_sem]) (by simp only [go_sem]) (by simp only [go_sem]) rfl (Wk_eq rfl (by simp only [go_sem]))
        try simp only [go_sem]
        all_goals
          skip
    · -- c1 false
      try simp only [nrm] at c1
      obtain ⟨b1, hb1⟩ : ∃ z, z = best := ⟨_, rfl⟩
      obtain ⟨m1, hm1⟩ : ∃ z, z = most := ⟨_, rfl⟩
      refine W_skip (kq1 _ _ ?_)
      refine W_seq fun kz8 kq8 => ?_
      refine W_region [1, 2, 3, 6, 7, 8, 13] fun R hR => ?_   -- r2
      simp only [go_sem]
      refine hR _ _ (kq8 _ _ ?_); clear hR R; try clear kq8 kz8
      try simp only [go_sem]
      refine W_block ?_
      refine W_weak (Weak.roX (j := 2) (off := 0) rfl rfl) ?_
      simp only [go_sem]
      refine W_weak (Weak.cutX 5 0 (by omega) (by omega) hcl (by simp only [go_sem] <;> omega) (by simp only [go_sem] <;> omega)) ?_
      simp only [go_sem]
      refine W_loopT (α := Nat × (List Int) × Int) (fun ⟨set, bst, mst⟩ => [(13, I set)]) (fun ⟨set, bst, mst⟩ => σ.ext (bestVars ct l σ.store.length bst mst) []) (fun ⟨set, bst, mst⟩ => next ≤ set ∧ set ≤ l.length ∧ bst.length ≤ l.length ∧ tryF ct l fuel chosen w people next (if betterB chosen people best most then (chosen, people) else (best, most)) = tryF ct l fuel chosen w people set (bst, mst)) (fun ⟨set, bst, mst⟩ => l.length - set) ((next, b1, m1)) rfl (by rw [hb1, hm1]; first | rfl | (simp only [go_sem]; done) | (simp only [go_sem]; rfl)) (⟨Nat.le_refl _, hnx, by rw [hb1]; omega, by rw [hb1, hm1]; first | rw [if_pos c1] | rw [if_neg (by simp [c1])]⟩) ?_
      rintro ⟨set, bst, mst⟩ ⟨hns, hsl, hbsl, hinv⟩
      refine W_seq fun kz9 kq9 => ?_
      refine W_seq fun kz10 kq10 => ?_
      refine W_region [1, 2, 3, 6, 7, 8, 13, 49] fun R hR => ?_   -- r3
      simp only [go_sem]
      refine hR _ _ (kq10 _ _ ?_); clear hR R; try clear kq10 kz10
      try simp only [go_sem]
      refine W_cond rfl (fun c4 => ?_) (fun c4 => ?_)
      · -- c4 true
        try simp only [nrm] at c4
        have hs' : set < l.length := by first | assumption | omega
        obtain ⟨b, hx⟩ : ∃ b, l[set]? = some b := ⟨l[set], by simp [hs']⟩
        have hdrop : l.drop set = b :: l.drop (set + 1) := by
          rw [List.drop_eq_getElem_cons hs']; congr 1; exact (List.getElem?_eq_some_iff.1 hx).2
        have hbm := List.mem_of_getElem? hx
        have htb := timesOf_ok (chkBand_ok (hv b hbm)).2
        rw [tryF_step hx] at hinv
        have hwl' : ∀ x, x ∈ w ++ [b] → x ∈ l := fun x hx => by rcases List.mem_append.1 hx with h | h; exact hwl x h; simp only [List.mem_singleton] at h; subst h; exact hbm
        refine W_skip (kq9 _ _ ?_)
        refine W_seq fun kz11 kq11 => ?_
        refine W_block ?_
        refine W_seq fun kz12 kq12 => ?_
        refine W_draw [1, 2, 3, 6, 7, 8, 13, 60] [0, 1, 2, 3, 4, 5, 6, 7, 8] [] [[], [], [], [], [2, 3], [2, 3, 4], [0, 1, 2, 3, 4, 5], [0, 1, 2, 3, 4, 5, 6], [0, 1, 2, 3, 4, 5, 6, 7]] mixed (by kernel_rfl) fun R hR => ?_   -- r5
        simp only [go_sem, hx]
        refine GCall_of (PC.ofRo (granted_pc Y _ ct w b hc ⟨by omega, fun x hx => hl2 x (hwl x hx)⟩ (by omega) hk (fun x hx => hv x (hwl x hx)) (hl2 b hbm) (hv b hbm)) (by simp only [go_sem, bands] <;> rfl)) ?_   -- t59
        simp only [go_sem, hx]
        try refine And.intro (by repeat' (first | refine And.intro ?_ ?_ | exact GOr_right (fun _ => by simp only [go_sem, hx]))) ?_
        refine hR _ _ (kq12 _ _ ?_); clear hR R; try clear kq12 kz12
        try simp only [go_sem, hx]
        refine W_cond rfl (fun c5 => ?_) (fun c5 => ?_)
        · -- c5 true
          try simp only [nrm] at c5
          refine W_draw [1, 2, 3, 6, 7, 8, 13] [0, 1, 2, 3, 4, 5, 6, 7, 8, 9, 10, 11, 12, 13, 14, 15, 16, 17, 18, 19, 20, 21, 22, 23] [(0, 7), (0, 9), (0, 15), (0, 23), (1, 7), (1, 9), (1, 15), (1, 23), (2, 7), (2, 9), (2, 15), (2, 23), (5, 4), (6, 4), (8, 4), (8, 7), (10, 4), (10, 7), (10, 9), (11, 4), (11, 7), (11, 9), (12, 4), (12, 7), (12, 9), (13, 4), (13, 7), (13, 9), (14, 4), (14, 7), (14, 9), (16, 4), (16, 7), (16, 9), (16, 15), (17, 4), (17, 7), (17, 9), (17, 15), (18, 4), (18, 7), (18, 9), (18, 15), (19, 4), (19, 7), (19, 9), (19, 15), (20, 4), (20, 7), (20, 9), (20, 15), (21, 4), (21, 7), (21, 9), (21, 15), (22, 4), (22, 7), (22, 9), (22, 15)] [[], [], [1], [], [3], [], [5], [3, 4, 5, 6], [], [3, 4, 5, 6, 7, 8], [], [], [10, 11], [10, 11, 12], [10, 11, 12, 13], [3, 4, 5, 6, 7, 8, 9, 10, 11, 12, 13, 14], [], [], [], [17, 18], [17, 18, 19], [17, 18, 19, 20], [16, 17, 18, 19, 20, 21], [0, 1, 2, 3, 4, 5, 6, 7, 8, 9, 10, 11, 12, 13, 14, 15, 16, 17, 18, 19, 20, 21, 22]] mixed (by kernel_rfl) fun R hR => ?_   -- r6
          simp only [go_sem, hx]
          try simp (disch := omega) only [wrapI, wrapU]
          refine GCall_of (CloneI_pc Y _ chosen (by omega)) ?_   -- t65
          simp only [go_sem, hx]
          try simp (disch := first | omega | (simp only [go_sem] <;> omega)) only [wrapI, wrapU, appX_exact, appX_tok]
          try simp only [go_sem, hx]
          try simp (disch := omega) only [wrapI, wrapU]
          refine GCall_of (CloneB_pc Y _ w (by omega)) ?_   -- t70
          simp only [go_sem, hx]
          have hih := ih (σ.ext [] [chosen.length + 1, w.length + 1]) (set + 1) (chosen ++ [(set : Int)]) (w ++ [b]) (people + b.people) bst mst (hτ.rooms _) (by omega) (by omega) (by simp; omega) (by simp; omega) hwl' (by omega) (by omega) hbsl
          simp only [go_sem] at hih
          try simp (disch := first | omega | (simp only [go_sem] <;> omega)) only [wrapI, wrapU, appX_exact, appX_tok]
          try simp only [go_sem, hx]
          try simp (disch := omega) only [wrapI, wrapU]
          refine GCall_of (PC.ofRo hih (by simp only [go_sem, bands] <;> first | rfl | (simp [List.map_append]; done))) ?_   -- t84
          simp only [go_sem, hx]
          try simp (disch := omega) only [wrapI, wrapU]
          try refine And.intro (by repeat' (first | refine And.intro ?_ ?_ | exact GOr_right (fun _ => by simp only [go_sem, hx]))) ?_
          refine hR _ _ (kq11 _ _ ?_); clear hR R; try clear kq11 kz11
          try simp only [go_sem, hx]
          refine W_region [1, 2, 3, 6, 7, 8, 13] fun R hR => ?_   -- r4
          simp only [go_sem, hx]
          try simp (disch := omega) only [wrapI, wrapU]
          refine hR _ _ ?_; clear hR R
          try simp only [go_sem, hx]
          refine ⟨(set + 1, (tryB ct l fuel (set + 1) (chosen ++ [(set : Int)]) (w ++ [b]) (people + b.people) (bst, mst)).1, (tryB ct l fuel (set + 1) (chosen ++ [(set : Int)]) (w ++ [b]) (people + b.people) (bst, mst)).2), ?_, by (try simp only []); omega, ?_⟩
          · refine Weak.trans (Weak.cutX 5 0 (by omega) (by omega) hcl (by simp only [go_sem] <;> omega) (by simp only [go_sem] <;> omega)) ?_
            simp only [go_sem]
            exact Weak.eq (by first | rfl | (simp only [go_sem]; done) | (simp only [go_sem]; rfl) | (simp [go_sem]; done) | (simp [go_sem]; omega)) (by first | rfl | (simp only [go_sem]; done) | (simp [go_sem]; done))
          · try dsimp only
            refine ⟨by omega, hs', ?_, ?_⟩
            · first | exact hbsl | exact tryB_len ct l fuel _ _ _ _ _ (by simp; omega) (by omega) hbsl
            · rw [hinv]; first | rw [if_pos c3] | rw [if_neg c3] | rw [if_pos c5] | rw [if_neg c5]
        · -- c5 false
          try simp only [nrm] at c5
          refine W_skip (kq11 _ _ ?_)
          refine W_region [1, 2, 3, 6, 7, 8, 13] fun R hR => ?_   -- r4
          simp only [go_sem, hx]
          try simp (disch := omega) only [wrapI, wrapU]
          refine hR _ _ ?_; clear hR R
          try simp only [go_sem, hx]
          refine ⟨(set + 1, bst, mst), ?_, by (try simp only []); omega, ?_⟩
          · refine Weak.trans (Weak.cutX 5 0 (by omega) (by omega) hcl (by simp only [go_sem] <;> omega) (by simp only [go_sem] <;> omega)) ?_
            simp only [go_sem]
            exact Weak.eq (by first | rfl | (simp only [go_sem]; done) | (simp only [go_sem]; rfl) | (simp [go_sem]; done) | (simp [go_sem]; omega)) (by first | rfl | (simp only [go_sem]; done) | (simp [go_sem]; done))
          · try dsimp only
            refine ⟨by omega, hs', ?_, ?_⟩
            · first | exact hbsl | exact tryB_len ct l fuel _ _ _ _ _ (by simp; omega) (by omega) hbsl
            · rw [hinv]; first | rw [if_pos c3] | rw [if_neg c3] | rw [if_pos c5] | rw [if_neg c5]
      · -- c4 false
        try simp only [nrm] at c4
        obtain rfl : set = l.length := by omega
        rw [tryF_end (Nat.le_refl _)] at hinv
        refine W_exit ?_
        simp only [go_sem]
        try simp only [go_sem]
        refine ⟨.inl (by trivial), ?_⟩
        rw [hinv]; exact Fin_end (CleanSg_ext hcl (by show CleanLs _ _ _ _; simp only [go_sem] <;> omega)) (by simp only [go_sem]) (by simp only [go_sem]) (by simp only [go_sem]) rfl (Wk_eq rfl (by simp only [go_sem]))
        try simp only [go_sem]
        all_goals
          skip
  · simp only [go_sem]
    refine GWant_split (fun g1 => ?_) (fun g1 => ?_)
    · try simp only [Bool.not_eq_true', Bool.not_eq_false'] at g1
      have n1 := g1; try simp only [nrm] at n1
      simp only [go_sem, g1]
      refine GWant_split (fun g2 => ?_) (fun g2 => ?_)
      · try simp only [Bool.not_eq_true', Bool.not_eq_false'] at g2
        have n2 := g2; try simp only [nrm] at n2
        simp only [go_sem, g1, g2]
        refine GWant_split (fun g3 => ?_) (fun g3 => ?_)
        · try simp only [Bool.not_eq_true', Bool.not_eq_false'] at g3
          have n3 := g3; try simp only [nrm] at n3
          simp only [go_sem, g1, g2, g3]
          refine GWant_split (fun g4 => ?_) (fun g4 => ?_)
          · try simp only [Bool.not_eq_true', Bool.not_eq_false'] at g4
            have n4 := g4; try simp only [nrm] at n4
            simp only [go_sem, g1, g2, g3, g4]
            refine GCall_of (Compare_pc Y _ chosen best (by omega) (by omega)) ?_   -- t36
            simp only [go_sem, g1, g2, g3, g4]
            refine hR _ ?_
            try simp only [go_sem]
            all_goals
              first | (simp [betterB, *]; done) | (simp [betterB, *]; omega)
          · try simp only [Bool.not_eq_true', Bool.not_eq_false'] at g4
            have n4 := g4; try simp only [nrm] at n4
            simp only [go_sem, g1, g2, g3, g4]
            refine hR _ ?_
            try simp only [go_sem]
            all_goals
              first | (simp [betterB, *]; done) | (simp [betterB, *]; omega)
        · try simp only [Bool.not_eq_true', Bool.not_eq_false'] at g3
          have n3 := g3; try simp only [nrm] at n3
          simp only [go_sem, g1, g2, g3]
          refine hR _ ?_
          try simp only [go_sem]
          all_goals
            first | (simp [betterB, *]; done) | (simp [betterB, *]; omega)
      · try simp only [Bool.not_eq_true', Bool.not_eq_false'] at g2
        have n2 := g2; try simp only [nrm] at n2
        simp only [go_sem, g1, g2]
        refine hR _ ?_
        try simp only [go_sem]
        all_goals
          first | (simp [betterB, *]; done) | (simp [betterB, *]; omega)
    · try simp only [Bool.not_eq_true', Bool.not_eq_false'] at g1
      have n1 := g1; try simp only [nrm] at n1
      simp only [go_sem, g1]
      refine hR _ ?_
      try simp only [go_sem]
      all_goals
        first | (simp [betterB, *]; done) | (simp [betterB, *]; omega)
theorem bestOK (Y : YEnv) (ct : City) (l : List Band) (hc : ct.Ok) (hl : BandsOk l) (hlen : l.length ≤ 10) (hk : chkCity ct = 0) (hv : ∀ b, b ∈ l → chkBand ct b = 0) : ∀ fuel, BestOK Y ct l fuel
  | 0 => BestOK.zero Y ct l
  | fuel + 1 => fun σ next chosen w people best most hτ h1 h2 h3 h4 h5 h6 h7 h8 =>
    Best1_step Y σ ct l hc hl hlen hk hv fuel (bestOK Y ct l hc hl hlen hk hv fuel) next chosen w people best most hτ h1 h2 h3 h4 h5 h6 h7 h8
set_option maxHeartbeats 2000000 in
theorem bBest_pc (Y : YEnv) (σ : Sg) (ct : City) (l : List Band) (hc : ct.Ok) (hl : BandsOk l) :
    PC Try.prog Y 39 [ctPV ct, bands l] σ (.tuple [ints (pbAns ct l).1, I (pbAns ct l).2]) (σ) := by
  refine PC_of_W Try.func39 rfl (by kernel_rfl) Try.ntmps39 (by simp) fun hcl hca => ?_
  have hl1 := hl.1
  have hl2 := hl.2
  obtain ⟨res, hres⟩ : ∃ r, pbAns ct l = r := ⟨_, rfl⟩
  rw [hres]
  refine W_seq fun kz1 kq1 => ?_
  refine W_region [2, 3] fun R hR => ?_   -- r0
  simp only [go_sem]
  refine hR _ _ (kq1 _ _ ?_); clear hR R; try clear kq1 kz1
  try simp only [go_sem]
  refine W_seq fun kz2 kq2 => ?_
  refine W_seq fun kz3 kq3 => ?_
  refine W_region [2, 3, 6] fun R hR => ?_   -- r1
  simp only [go_sem]
  refine GCall_of (checkBands_pc Y _ ct l hc hl) ?_   -- t12
  simp only [go_sem]
  refine hR _ _ (kq3 _ _ ?_); clear hR R; try clear kq3 kz3
  try simp only [go_sem]
  refine W_seq fun kz4 kq4 => ?_
  refine W_region [2, 3, 6, 14] fun R hR => ?_   -- r2
  simp only [go_sem]
  refine hR _ _ (kq4 _ _ ?_); clear hR R; try clear kq4 kz4
  try simp only [go_sem]
  refine W_cond rfl (fun c1 => ?_) (fun c1 => ?_)
  · -- c1 true
    try simp only [nrm] at c1
    refine W_seq fun kz5 kq5 => ?_
    refine W_region [4, 5] fun R hR => ?_   -- r3
    simp only [go_sem]
    refine hR _ _ (kq5 _ _ ?_); clear hR R; try clear kq5 kz5
    try simp only [go_sem]
    refine W_ret ?_
    simp only [go_sem]
    refine ⟨.inr (by trivial), ?_⟩
    refine Fin_same hcl rfl (Wk.ro (by simp only [go_sem]) ?_)
    try simp only [go_sem]
    all_goals
      rw [← hres]; simp [pbAns, c1, PV.ro, PV.roL]
  · -- c1 false
    try simp only [nrm] at c1
    obtain ⟨hk, hlen, hcb⟩ := chkAll_ok c1
    have hv := chkBands_ok hcb
    refine W_skip (kq2 _ _ ?_)
    refine W_seq fun kz6 kq6 => ?_
    refine W_seq fun kz7 kq7 => ?_
    refine W_region [2, 3, 18] fun R hR => ?_   -- r4
    simp only [go_sem]
    refine hR _ _ (kq7 _ _ ?_); clear hR R; try clear kq7 kz7
    try simp only [go_sem]
    refine W_cond rfl (fun c2 => ?_) (fun c2 => ?_)
    · -- c2 true
      try simp only [nrm] at c2
      refine W_seq fun kz8 kq8 => ?_
      refine W_region [4, 5] fun R hR => ?_   -- r5
      simp only [go_sem]
      refine hR _ _ (kq8 _ _ ?_); clear hR R; try clear kq8 kz8
      try simp only [go_sem]
      refine W_ret ?_
      simp only [go_sem]
      refine ⟨.inr (by trivial), ?_⟩
      refine Fin_same hcl rfl (Wk.ro (by simp only [go_sem]) ?_)
      try simp only [go_sem]
      all_goals
        rw [← hres]; simp [pbAns, c1, c2, PV.ro, PV.roL]
    · -- c2 false
      try simp only [nrm] at c2
      refine W_skip (kq6 _ _ ?_)
      refine W_seq fun kz9 kq9 => ?_
      refine W_region [2, 3, 7] fun R hR => ?_   -- r6
      simp only [go_sem]
      refine hR _ _ (kq9 _ _ ?_); clear hR R; try clear kq9 kz9
      try simp only [go_sem]
      refine W_seq fun kz10 kq10 => ?_
      refine W_region [2, 3, 7, 8] fun R hR => ?_   -- r7
      simp only [go_sem]
      refine hR _ _ (kq10 _ _ ?_); clear hR R; try clear kq10 kz10
      try simp only [go_sem]
      refine W_seq fun kz11 kq11 => ?_
      refine W_region [2, 3, 7, 8, 9] fun R hR => ?_   -- r8
      simp only [go_sem]
      refine hR _ _ (kq11 _ _ ?_); clear hR R; try clear kq11 kz11
      try simp only [go_sem]
      refine W_seq fun kz12 kq12 => ?_
      refine W_region [7, 9] fun R hR => ?_   -- r9
      simp only [go_sem]
      refine hR _ _ (kq12 _ _ ?_); clear hR R; try clear kq12 kz12
      try simp only [go_sem]
      refine W_seq fun kz13 kq13 => ?_
      refine W_weak (Weak.roX (j := 2) (off := 0) rfl rfl) ?_
      simp only [go_sem]
      refine W_region [7] fun R hR => ?_   -- r10
      simp only [go_sem]
      have hbo := bestOK Y ct l hc hl (by omega) hk hv (l.length + 1) σ 0 [] [] 0 [] 0 hcl (by omega) (by omega) (by simp) (by simp) (fun x hx => by cases hx) (by omega) (by omega) (by simp)
      simp only [go_sem] at hbo
      refine GCall_of (PC.ofRo hbo (by simp only [go_sem, bands] <;> first | rfl | (simp; done))) ?_   -- t21
      simp only [go_sem]
      refine hR _ _ (kq13 _ _ ?_); clear hR R; try clear kq13 kz13
      try simp only [go_sem]
      refine W_seq fun kz14 kq14 => ?_
      refine W_region [4, 5] fun R hR => ?_   -- r11
      simp only [go_sem]
      refine hR _ _ (kq14 _ _ ?_); clear hR R; try clear kq14 kz14
      try simp only [go_sem]
      refine W_ret ?_
      simp only [go_sem]
      refine ⟨.inr (by trivial), ?_⟩
      first | refine Fin_same hcl rfl (Wk_eq ?_ (by simp only [go_sem])) | refine Fin_self hcl rfl (Wk_eq ?_ (by simp only [go_sem]))
      try simp only [go_sem]
      all_goals
        rw [← hres]; simp only [pbAns]; rw [if_neg (by simp [c1]), if_neg (by simpa using c2)]

end Go.Proofs.Ytnpamcpoaklgeaa

namespace Go.Proofs.Ytnpamcpoaklgeaa
open Go Go.RowKit

/-! ### Sleep: more bands, no longer sleep -/
theorem slStep_val (f : Int → Bool) (t : Nat) (s : Int × Int × Int) : (slStep f t s).2.1 = max s.2.1 (if f t then 0 else s.2.2 + 1) ∧ (slStep f t s).2.2 = (if f t then 0 else s.2.2 + 1) := by
  unfold slStep
  generalize (if f t then 0 else s.2.2 + 1) = r
  split
  · exact ⟨by dsimp only; omega, rfl⟩
  · exact ⟨by dsimp only; omega, rfl⟩
theorem slRun_mono {f g : Int → Bool} (h : ∀ t, f t = true → g t = true) : ∀ t : Nat, (slRun g t).2.1 ≤ (slRun f t).2.1 ∧ (slRun g t).2.2 ≤ (slRun f t).2.2 := by
  intro t
  induction t with
  | zero => exact ⟨Int.le_refl _, Int.le_refl _⟩
  | succ t ih =>
    obtain ⟨h1, h2⟩ := ih
    have b1 := slRun_bd f t
    have b2 := slRun_bd g t
    have hr : (if g t then 0 else (slRun g t).2.2 + 1) ≤ (if f t then 0 else (slRun f t).2.2 + 1) := by
      by_cases hf : f t = true
      · rw [if_pos hf, if_pos (h _ hf)]; exact Int.le_refl _
      · rw [if_neg hf]
        by_cases hg : g t = true
        · rw [if_pos hg]; omega
        · rw [if_neg hg]; omega
    simp only [slRun]
    obtain ⟨v1, v2⟩ := slStep_val f t (slRun f t)
    obtain ⟨v3, v4⟩ := slStep_val g t (slRun g t)
    rw [v1, v2, v3, v4]
    exact ⟨by omega, hr⟩
theorem sleep_mono {f g : Int → Bool} (h : ∀ t, f t = true → g t = true) : (sleepOf g).2 ≤ (sleepOf f).2 := (slRun_mono h 720).1
theorem slRun_free {f : Int → Bool} (h : ∀ t, f t = false) : ∀ t : Nat, (slRun f t).2.1 = t ∧ (slRun f t).2.2 = t := by
  intro t
  induction t with
  | zero => exact ⟨rfl, rfl⟩
  | succ t ih =>
    obtain ⟨h1, h2⟩ := ih
    simp only [slRun, slStep, h, Bool.false_eq_true, if_false, h1, h2]
    rw [if_pos (by omega)]
    exact ⟨by dsimp only; omega, by dsimp only; omega⟩
theorem sleep_free {f : Int → Bool} (h : ∀ t, f t = false) : (sleepOf f).2 = 720 := by
  have e := (slRun_free h 720).1
  have e2 : ((720 : Nat) : Int) = 720 := rfl
  rw [e2] at e
  exact e
theorem loud_nil (c : City) (sq t : Int) : loudAt c [] sq t = false := rfl
theorem loud_sub {c : City} {l m : List Band} {sq : Int} (h : ∀ b, b ∈ l → b ∈ m) (t : Int) (hl : loudAt c l sq t = true) : loudAt c m sq t = true := by
  unfold loudAt at hl ⊢
  rw [List.any_eq_true] at hl ⊢
  obtain ⟨b, h1, h2⟩ := hl
  exact ⟨b, h b h1, h2⟩
theorem awk_mono {c : City} {l m : List Band} (h : ∀ b, b ∈ l → b ∈ m) (hm : awkOf c m = 0) : awkOf c l = 0 := by
  rcases awkL_cases c l c.sleep 0 with ⟨h1, _⟩ | ⟨_, i, o, h2, h3⟩
  · exact h1
  · rcases awkL_cases c m c.sleep 0 with ⟨_, k2⟩ | ⟨k1, _⟩
    · have := k2 i o h2
      have := sleep_mono (f := loudAt c l ((0 + i : Nat) : Int)) (g := loudAt c m ((0 + i : Nat) : Int)) fun t => loud_sub h t
      omega
    · have : awkOf c m = awkL c m 0 c.sleep := rfl
      omega
theorem awk_nil {c : City} (hk : chkCity c = 0) : awkOf c [] = 0 := by
  have hs : ∀ n, n ∈ c.sleep → n ≤ 720 := by
    intro n hn
    unfold chkCity at hk
    split at hk
    · rename_i h; exact absurd hk h
    · split at hk
      · cases hk
      · split at hk
        · cases hk
        · split at hk
          · cases hk
          · rename_i h
            rw [Bool.not_eq_true, List.any_eq_false] at h
            have := h n hn
            simp [inR] at this; omega
  rcases awkL_cases c [] c.sleep 0 with ⟨h1, _⟩ | ⟨_, i, o, h2, h3⟩
  · exact h1
  · have := hs o (List.mem_of_getElem? h2)
    have := sleep_free (f := loudAt c [] ((0 + i : Nat) : Int)) (loud_nil c _)
    omega

/-! ### The order of choices -/
theorem cmpL_cases : ∀ a b : List Int, (cmpL a b = -1 ∧ cmpL b a = 1) ∨ (cmpL a b = 1 ∧ cmpL b a = -1) ∨ (cmpL a b = 0 ∧ a = b) := by
  intro a
  induction a with
  | nil => intro b; cases b <;> simp [cmpL]
  | cons x a ih =>
    intro b
    cases b with
    | nil => simp [cmpL]
    | cons y b =>
      simp only [cmpL]
      by_cases h1 : x < y
      · rw [if_pos h1, if_neg (by omega), if_pos h1]; exact .inl ⟨rfl, rfl⟩
      · by_cases h2 : y < x
        · rw [if_neg h1, if_pos h2, if_pos h2]; exact .inr (.inl ⟨rfl, rfl⟩)
        · rw [if_neg h1, if_neg h2, if_neg h2, if_neg h1]
          obtain rfl : x = y := by omega
          rcases ih b with h | h | ⟨h, rfl⟩
          · exact .inl h
          · exact .inr (.inl h)
          · exact .inr (.inr ⟨h, rfl⟩)
theorem cmpL_trans : ∀ a b c : List Int, cmpL a b < 0 → cmpL b c < 0 → cmpL a c < 0 := by
  intro a
  induction a with
  | nil => intro b c h1 h2; cases b <;> cases c <;> simp_all [cmpL]
  | cons x a ih =>
    intro b c h1 h2
    cases b with
    | nil => simp [cmpL] at h1
    | cons y b =>
      cases c with
      | nil => simp [cmpL] at h2
      | cons z c =>
        simp only [cmpL] at h1 h2 ⊢
        by_cases k1 : x < y
        · by_cases k2 : y < z
          · rw [if_pos (by omega)]; omega
          · by_cases k3 : z < y
            · rw [if_neg k2, if_pos k3] at h2; omega
            · rw [if_pos (by omega)]; omega
        · by_cases k4 : y < x
          · rw [if_neg k1, if_pos k4] at h1; omega
          · rw [if_neg k1, if_neg k4] at h1
            by_cases k2 : y < z
            · rw [if_pos (by omega)]; omega
            · by_cases k3 : z < y
              · rw [if_neg k2, if_pos k3] at h2; omega
              · rw [if_neg k2, if_neg k3] at h2
                rw [if_neg (by omega), if_neg (by omega)]
                exact ih b c h1 h2
theorem betterB_iff {s t : List Int} {p m : Int} : betterB s p t m = true ↔ t.length < s.length ∨ (s.length = t.length ∧ (m < p ∨ (p = m ∧ cmpL s t < 0))) := by
  simp [betterB]
/-- A choice is better than another one. -/
def Bt (l : List Band) (S T : List Nat) : Prop := betterB (intsN S) (pplOf (bandsAt l S)) (intsN T) (pplOf (bandsAt l T)) = true
theorem intsN_len (S : List Nat) : (intsN S).length = S.length := by simp [intsN]
theorem intsN_inj {S T : List Nat} (h : intsN S = intsN T) : S = T := by
  induction S generalizing T with
  | nil => cases T with
    | nil => rfl
    | cons a T => cases h
  | cons a S ih =>
    cases T with
    | nil => cases h
    | cons b T =>
      simp only [intsN, List.map_cons, List.cons.injEq] at h
      obtain ⟨h1, h2⟩ := h
      rw [ih h2]
      congr 1; omega
theorem Bt.irrefl {l : List Band} {S : List Nat} : ¬ Bt l S S := by
  unfold Bt
  rw [betterB_iff]
  rintro (h | ⟨_, h | ⟨_, h⟩⟩)
  · omega
  · omega
  · rcases cmpL_cases (intsN S) (intsN S) with k | k | k <;> omega
theorem Bt.trans {l : List Band} {S T U : List Nat} (h : Bt l S T) (k : Bt l T U) : Bt l S U := by
  unfold Bt at h k ⊢
  rw [betterB_iff] at h k ⊢
  rcases h with h | ⟨h1, h | ⟨h2, h3⟩⟩ <;> rcases k with k | ⟨k1, k | ⟨k2, k3⟩⟩
  · exact .inl (by omega)
  · exact .inl (by omega)
  · exact .inl (by omega)
  · exact .inl (by omega)
  · exact .inr ⟨by omega, .inl (by omega)⟩
  · exact .inr ⟨by omega, .inl (by omega)⟩
  · exact .inl (by omega)
  · exact .inr ⟨by omega, .inl (by omega)⟩
  · exact .inr ⟨by omega, .inr ⟨by omega, cmpL_trans _ _ _ h3 k3⟩⟩
theorem Bt.total {l : List Band} {S T : List Nat} (h : S ≠ T) : Bt l S T ∨ Bt l T S := by
  unfold Bt
  rw [betterB_iff, betterB_iff]
  rcases Nat.lt_trichotomy (intsN S).length (intsN T).length with h1 | h1 | h1
  · exact .inr (.inl h1)
  · rcases Int.lt_trichotomy (pplOf (bandsAt l S)) (pplOf (bandsAt l T)) with h2 | h2 | h2
    · exact .inr (.inr ⟨h1.symm, .inl h2⟩)
    · rcases cmpL_cases (intsN S) (intsN T) with k | k | k
      · exact .inl (.inr ⟨h1, .inr ⟨h2, by omega⟩⟩)
      · exact .inr (.inr ⟨h1.symm, .inr ⟨h2.symm, by omega⟩⟩)
      · exact absurd (intsN_inj k.2) h
    · exact .inl (.inr ⟨h1, .inl h2⟩)
  · exact .inl (.inl h1)

/-! ### Sets as numbers -/
theorem memN_add {s n : Nat} (h : s < 2 ^ n) : ∀ k, k ≤ n → memN (s + 2 ^ n) k = memN s k := by
  intro k hk
  unfold memN
  refine List.filter_congr fun i hi => ?_
  have hi : i < n := by have := List.mem_range.1 hi; omega
  have e : (s + 2 ^ n) / 2 ^ i % 2 = s / 2 ^ i % 2 := by
    have e1 : 2 ^ n = 2 ^ i * (2 * 2 ^ (n - i - 1)) := by
      rw [← Nat.mul_assoc, Nat.mul_comm (2 ^ i) 2, Nat.mul_assoc, ← Nat.pow_add, ← Nat.pow_succ']
      congr 1; omega
    rw [e1, Nat.add_mul_div_left _ _ (Nat.pow_pos (by omega))]
    omega
  rw [e]
def Asc (n : Nat) (S : List Nat) : Prop := S.Pairwise (· < ·) ∧ ∀ x, x ∈ S → x < n
theorem memN_of_asc : ∀ (n : Nat) (S : List Nat), Asc n S → ∃ s, s < 2 ^ n ∧ memN s n = S := by
  intro n
  induction n with
  | zero =>
    intro S h
    cases S with
    | nil => exact ⟨0, by omega, rfl⟩
    | cons x S => have := h.2 x (by simp); omega
  | succ n ih =>
    intro S h
    have small : (∀ x, x ∈ S → x < n) → ∃ s, s < 2 ^ (n + 1) ∧ memN s (n + 1) = S := by
      intro hs
      obtain ⟨s, h1, h2⟩ := ih S ⟨h.1, hs⟩
      refine ⟨s, by rw [Nat.pow_succ]; omega, ?_⟩
      rw [memN_succ, h2, if_neg (by rw [Nat.div_eq_of_lt h1]; omega)]
    rcases List.eq_nil_or_concat S with rfl | ⟨T, x, rfl⟩
    · exact small fun x hx => by cases hx
    · rw [List.concat_eq_append] at h small ⊢
      have hp := List.pairwise_append.1 h.1
      by_cases hx : x = n
      · subst hx
        obtain ⟨s, h1, h2⟩ := ih T ⟨hp.1, fun y hy => hp.2.2 y hy x (by simp)⟩
        refine ⟨s + 2 ^ x, by rw [Nat.pow_succ]; omega, ?_⟩
        rw [memN_succ, memN_add h1 x (Nat.le_refl _), h2, if_pos]
        rw [Nat.add_div_right _ (Nat.pow_pos (by omega)), Nat.div_eq_of_lt h1]
      · refine small fun y hy => ?_
        have hxn := h.2 x (by simp)
        rcases List.mem_append.1 hy with hy | hy
        · have := hp.2.2 y hy x (by simp); omega
        · simp only [List.mem_singleton] at hy; omega
theorem asc_memN (s n : Nat) : Asc n (memN s n) := by
  refine ⟨?_, fun x hx => ?_⟩
  · exact List.Pairwise.filter _ List.pairwise_lt_range
  · exact List.mem_range.1 (List.mem_filter.1 hx).1

/-! ### What can be together, one after the other -/
theorem togL_iff {c : City} : ∀ (r w : List Band), togL c w r = true ↔ ∀ (i : Nat) (b : Band), r[i]? = some b → clashOf c b (w ++ r.take i) = 0 ∧ overOf c b = 0 := by
  intro r
  induction r with
  | nil => intro w; exact ⟨fun _ i b h => by simp at h, fun _ => rfl⟩
  | cons a r ih =>
    intro w
    simp only [togL, Bool.and_eq_true, decide_eq_true_eq]
    rw [ih]
    constructor
    · rintro ⟨⟨h1, h2⟩, h3⟩ i b hb
      cases i with
      | zero => simp at hb; subst hb; exact ⟨by simpa using h1, h2⟩
      | succ i =>
        have := h3 i b (by simpa using hb)
        simpa [List.append_assoc] using this
    · intro h
      refine ⟨by simpa using h 0 a rfl, fun i b hb => ?_⟩
      have := h (i + 1) b (by simpa using hb)
      simpa [List.append_assoc] using this
/-- The choice E goes on from the choice C, with members from n on, each granted in turn. -/
inductive Reach (c : City) (l : List Band) : Nat → List Nat → List Nat → Prop where
  | here (n : Nat) (C : List Nat) : Reach c l n C C
  | more (n : Nat) (C E : List Nat) (k : Nat) (b : Band) (h1 : n ≤ k) (h2 : l[k]? = some b) (h3 : reqOf c (bandsAt l C) b = 0) (h4 : Reach c l (k + 1) (C ++ [k]) E) : Reach c l n C E
theorem Reach.mono {c : City} {l : List Band} {n m : Nat} {C E : List Nat} (h : Reach c l n C E) (k : m ≤ n) : Reach c l m C E := by
  cases h with
  | here => exact .here _ _
  | more _ _ _ k' b h1 h2 h3 h4 => exact .more _ _ _ k' b (by omega) h2 h3 h4

/-- The best of what goes on from a choice, and of what was there. -/
structure BestIn (c : City) (l : List Band) (n : Nat) (C B B' : List Nat) : Prop where
  up : B' = B ∨ Bt l B' B
  from_ : B' = B ∨ Reach c l n C B'
  best : ∀ E, Reach c l n C E → ¬ Bt l E B'
theorem upto {l : List Band} {B B' E : List Nat} (h : B' = B ∨ Bt l B' B) (k : ¬ Bt l E B) : ¬ Bt l E B' := by
  rcases h with rfl | h
  · exact k
  · exact fun h' => k (h'.trans h)
theorem tryB_best (c : City) (l : List Band) : ∀ (fuel next : Nat) (C B : List Nat), l.length < next + fuel → next ≤ l.length →
    ∃ B', tryB c l fuel next (intsN C) (bandsAt l C) (pplOf (bandsAt l C)) (intsN B, pplOf (bandsAt l B)) = (intsN B', pplOf (bandsAt l B')) ∧ BestIn c l next C B B' := by
  intro fuel
  induction fuel with
  | zero => intro next C B h1 h2; omega
  | succ fuel ih =>
    intro next C B hf hn
    rw [tryB_succ]
    -- the choice itself
    obtain ⟨B1, hB1, u1, f1, g1⟩ : ∃ B1, (if betterB (intsN C) (pplOf (bandsAt l C)) (intsN B) (pplOf (bandsAt l B)) then (intsN C, pplOf (bandsAt l C)) else (intsN B, pplOf (bandsAt l B))) = (intsN B1, pplOf (bandsAt l B1)) ∧
        (B1 = B ∨ Bt l B1 B) ∧ (B1 = B ∨ Reach c l next C B1) ∧ ¬ Bt l C B1 := by
      by_cases h : betterB (intsN C) (pplOf (bandsAt l C)) (intsN B) (pplOf (bandsAt l B)) = true
      · exact ⟨C, by rw [if_pos h], .inr h, .inr (.here _ _), Bt.irrefl⟩
      · exact ⟨B, by rw [if_neg h], .inl rfl, .inl rfl, h⟩
    rw [hB1]
    -- the members from k on
    have key : ∀ (d k : Nat) (B1 : List Nat), l.length - k = d → next ≤ k →
        ∃ B', tryF c l fuel (intsN C) (bandsAt l C) (pplOf (bandsAt l C)) k (intsN B1, pplOf (bandsAt l B1)) = (intsN B', pplOf (bandsAt l B')) ∧ (B' = B1 ∨ Bt l B' B1) ∧ (B' = B1 ∨ Reach c l next C B') ∧
          ∀ (k' : Nat) (b : Band) (E : List Nat), k ≤ k' → l[k']? = some b → reqOf c (bandsAt l C) b = 0 → Reach c l (k' + 1) (C ++ [k']) E → ¬ Bt l E B' := by
      intro d
      induction d with
      | zero =>
        intro k B1 hd hk
        refine ⟨B1, tryF_end (by omega), .inl rfl, .inl rfl, fun k' b E h1 h2 => ?_⟩
        have := (List.getElem?_eq_some_iff.1 h2).1; omega
      | succ d ihd =>
        intro k B1 hd hk
        obtain ⟨b, hb⟩ : ∃ b, l[k]? = some b := ⟨_, List.getElem?_eq_getElem (show k < l.length by omega)⟩
        rw [tryF_step hb]
        by_cases hr : reqOf c (bandsAt l C) b = 0
        · rw [if_pos hr]
          have e1 : intsN C ++ [(k : Int)] = intsN (C ++ [k]) := by simp [intsN]
          have e2 : bandsAt l C ++ [b] = bandsAt l (C ++ [k]) := (bandsAt_snoc hb).symm
          have e3 : pplOf (bandsAt l C) + b.people = pplOf (bandsAt l (C ++ [k])) := by rw [← e2, pplOf_snoc]
          rw [e1, e2, e3]
          obtain ⟨B2, h1, h2⟩ := ih (k + 1) (C ++ [k]) B1 (by omega) (by omega)
          rw [h1]
          obtain ⟨B3, k1, k2, k3, k4⟩ := ihd (k + 1) B2 (by omega) (by omega)
          refine ⟨B3, k1, ?_, ?_, fun k' b' E q1 q2 q3 q4 => ?_⟩
          · rcases k2 with rfl | k2
            · exact h2.up
            · rcases h2.up with rfl | h
              · exact .inr k2
              · exact .inr (k2.trans h)
          · rcases k3 with rfl | k3
            · rcases h2.from_ with rfl | h
              · exact .inl rfl
              · exact .inr (.more _ _ _ k b (by omega) hb hr h)
            · exact .inr k3
          · by_cases e : k' = k
            · subst e
              rw [hb] at q2
              exact upto k2 (h2.best E q4)
            · exact k4 k' b' E (by omega) q2 q3 q4
        · rw [if_neg hr]
          obtain ⟨B3, k1, k2, k3, k4⟩ := ihd (k + 1) B1 (by omega) (by omega)
          refine ⟨B3, k1, k2, k3, fun k' b' E q1 q2 q3 q4 => ?_⟩
          by_cases e : k' = k
          · subst e
            rw [hb] at q2
            injection q2 with q2
            subst q2
            exact absurd q3 hr
          · exact k4 k' b' E (by omega) q2 q3 q4
    obtain ⟨B', k1, k2, k3, k4⟩ := key _ next B1 rfl (Nat.le_refl _)
    refine ⟨B', k1, ?_, ?_, fun E hE => ?_⟩
    · rcases k2 with rfl | k2
      · exact u1
      · rcases u1 with rfl | u1
        · exact .inr k2
        · exact .inr (k2.trans u1)
    · rcases k3 with rfl | k3
      · exact f1
      · exact .inr k3
    · cases hE with
      | here => exact upto k2 g1
      | more _ _ _ k' b h1 h2 h3 h4 => exact k4 k' b E h1 h2 h3 h4

/-! ### The same sets -/
section
variable {c : City} {l : List Band}
theorem bandsAt_append (S T : List Nat) : bandsAt l (S ++ T) = bandsAt l S ++ bandsAt l T := by simp [bandsAt, List.filterMap_append]
theorem bandsAt_cons {k : Nat} {b : Band} {D : List Nat} (h : l[k]? = some b) : bandsAt l (k :: D) = b :: bandsAt l D := by simp [bandsAt, h]
/-- What is granted in turn can be together. -/
theorem reach_tog {n : Nat} {C E : List Nat} (h : Reach c l n C E) : togB c (bandsAt l C) = true → togB c (bandsAt l E) = true := by
  induction h with
  | here => exact id
  | more n C E k b h1 h2 h3 _ ih =>
    intro hC
    refine ih ?_
    rw [bandsAt_snoc h2]
    unfold togB at hC ⊢
    rw [Bool.and_eq_true, decide_eq_true_eq] at hC ⊢
    obtain ⟨hf1, hf2, hf3⟩ := reqOf_zero.1 h3
    refine ⟨?_, ?_⟩
    · rw [togL_iff] at hC ⊢
      intro i x hx
      have hc1 := hC.1
      by_cases hi : i < (bandsAt l C).length
      · rw [List.getElem?_append_left hi] at hx
        have := hc1 i x hx
        rw [List.take_append_of_le_length (by omega)]
        exact this
      · rw [List.getElem?_append_right (by omega)] at hx
        have e0 : i - (bandsAt l C).length = 0 := by
          have := (List.getElem?_eq_some_iff.1 hx).1
          simp at this; omega
        have ei : i = (bandsAt l C).length := by omega
        rw [e0] at hx
        simp at hx
        subst hx
        subst ei
        simp only [List.nil_append, List.take_left]
        refine ⟨?_, ?_⟩
        · rcases clashOf_cases c b (bandsAt l C) with ⟨q, _⟩ | ⟨_, x, q1, q2⟩
          · exact q
          · exact absurd (hf1 x q1) q2
        · rcases overL_cases c b (sqs c b).1 with ⟨q, _⟩ | ⟨_, s, q1, q2⟩
          · exact q
          · have := hf2 s q1; omega
    · rcases awkL_cases c (bandsAt l C ++ [b]) c.sleep 0 with ⟨q, _⟩ | ⟨_, i, o, q1, q2⟩
      · exact q
      · have := hf3 i o q1
        rw [Nat.zero_add] at q2
        omega
/-- What can be together is granted in turn. -/
theorem tog_reach : ∀ (D C : List Nat) (n : Nat), (n :: D).Pairwise (fun a b => a ≤ b) → D.Pairwise (· < ·) → (∀ x, x ∈ D → x < l.length) → togB c (bandsAt l (C ++ D)) = true → Reach c l n C (C ++ D) := by
  intro D
  induction D with
  | nil => intro C n _ _ _ _; rw [List.append_nil]; exact .here _ _
  | cons k D ih =>
    intro C n hn hp hx ht
    obtain ⟨b, hb⟩ : ∃ b, l[k]? = some b := ⟨_, List.getElem?_eq_getElem (hx k (by simp))⟩
    have hkn : n ≤ k := (List.pairwise_cons.1 hn).1 k (by simp)
    have e : C ++ k :: D = (C ++ [k]) ++ D := by simp
    rw [e] at ht ⊢
    refine .more _ _ _ k b hkn hb ?_ (ih (C ++ [k]) (k + 1) ?_ (List.pairwise_cons.1 hp).2 (fun x h => hx x (by simp [h])) ht)
    · rw [bandsAt_append, bandsAt_snoc hb] at ht
      unfold togB at ht
      rw [Bool.and_eq_true, decide_eq_true_eq, togL_iff] at ht
      obtain ⟨t1, t2⟩ := ht
      have h0 := t1 (bandsAt l C).length b (by simp)
      rw [List.nil_append, List.append_assoc, List.take_left] at h0
      rw [reqOf_zero]
      refine ⟨?_, ?_, ?_⟩
      · rcases clashOf_cases c b (bandsAt l C) with ⟨_, q⟩ | ⟨q, _⟩
        · exact q
        · omega
      · have ho : overOf c b = overL c b (sqs c b).1 := rfl
        rcases overL_cases c b (sqs c b).1 with ⟨_, q⟩ | ⟨q, _⟩
        · exact q
        · omega
      · have ha := awk_mono (l := bandsAt l C ++ [b]) (fun x hx => List.mem_append_left _ hx) t2
        have ha' : awkL c (bandsAt l C ++ [b]) 0 c.sleep = 0 := ha
        rcases awkL_cases c (bandsAt l C ++ [b]) c.sleep 0 with ⟨_, q⟩ | ⟨q, _⟩
        · intro i o hi
          have := q i o hi
          rw [Nat.zero_add] at this
          exact this
        · omega
    · refine List.pairwise_cons.2 ⟨fun x h => ?_, ?_⟩
      · have := (List.pairwise_cons.1 hp).1 x h; omega
      · exact (List.pairwise_cons.1 hp).2.imp fun h => by omega
theorem reach_asc {n : Nat} {C E : List Nat} (h : Reach c l n C E) : Asc l.length C → (∀ x, x ∈ C → x < n) → Asc l.length E := by
  induction h with
  | here => exact fun h _ => h
  | more n C E k b h1 h2 _ _ ih =>
    intro hC hn
    have hk : k < l.length := (List.getElem?_eq_some_iff.1 h2).1
    refine ih ⟨List.pairwise_append.2 ⟨hC.1, List.pairwise_singleton _ _, fun x hx y hy => ?_⟩, fun x hx => ?_⟩ fun x hx => ?_
    · simp only [List.mem_singleton] at hy; have := hn x hx; omega
    · rcases List.mem_append.1 hx with hx | hx
      · exact hC.2 x hx
      · simp only [List.mem_singleton] at hx; omega
    · rcases List.mem_append.1 hx with hx | hx
      · have := hn x hx; omega
      · simp only [List.mem_singleton] at hx; omega
/-- The reference's search. -/
theorem rbRun_best (k : Nat) : ∃ B, rbRun c l k = (intsN B, pplOf (bandsAt l B)) ∧ (B = [] ∨ (Asc l.length B ∧ togB c (bandsAt l B) = true)) ∧ ∀ s, s < k → togB c (bandsAt l (memN s l.length)) = true → ¬ Bt l (memN s l.length) B := by
  induction k with
  | zero => exact ⟨[], rfl, .inl rfl, fun s h => by omega⟩
  | succ k ih =>
    obtain ⟨B, h1, h2, h3⟩ := ih
    simp only [rbRun, h1]
    by_cases hb : (betterB (intsN (memN k l.length)) (pplOf (bandsAt l (memN k l.length))) (intsN B) (pplOf (bandsAt l B)) && togB c (bandsAt l (memN k l.length))) = true
    · rw [if_pos hb]
      rw [Bool.and_eq_true] at hb
      refine ⟨memN k l.length, rfl, .inr ⟨asc_memN _ _, hb.2⟩, fun s hs ht => ?_⟩
      by_cases e : s = k
      · subst e; exact Bt.irrefl
      · exact fun h' => h3 s (by omega) ht (h'.trans hb.1)
    · rw [if_neg hb]
      refine ⟨B, rfl, h2, fun s hs ht => ?_⟩
      by_cases e : s = k
      · subst e
        intro h'
        exact hb (by rw [Bool.and_eq_true]; exact ⟨h', ht⟩)
      · exact h3 s (by omega) ht
/-- A best choice: it can be together, and no other one that can is better. -/
structure IsBest (c : City) (l : List Band) (B : List Nat) : Prop where
  asc : Asc l.length B
  tog : togB c (bandsAt l B) = true
  best : ∀ E, Asc l.length E → togB c (bandsAt l E) = true → ¬ Bt l E B
theorem IsBest.uniq {B B' : List Nat} (h : IsBest c l B) (h' : IsBest c l B') : B = B' := by
  rcases Classical.em (B = B') with e | e
  · exact e
  · rcases Bt.total (l := l) e with k | k
    · exact absurd k (h'.best B h.asc h.tog)
    · exact absurd k (h.best B' h'.asc h'.tog)
theorem asc_nil (n : Nat) : Asc n [] := ⟨List.Pairwise.nil, fun x h => by cases h⟩
theorem tog_nil (hk : chkCity c = 0) : togB c (bandsAt l []) = true := by
  show togB c [] = true
  unfold togB
  rw [Bool.and_eq_true, decide_eq_true_eq]
  exact ⟨rfl, awk_nil hk⟩
theorem ref_best (hk : chkCity c = 0) : ∃ B, rbRun c l (2 ^ l.length) = (intsN B, pplOf (bandsAt l B)) ∧ IsBest c l B := by
  obtain ⟨B, h1, h2, h3⟩ := rbRun_best (c := c) (l := l) (2 ^ l.length)
  refine ⟨B, h1, ?_, ?_, fun E hE ht => ?_⟩
  · rcases h2 with rfl | h2
    · exact asc_nil _
    · exact h2.1
  · rcases h2 with rfl | h2
    · exact tog_nil hk
    · exact h2.2
  · obtain ⟨s, hs, rfl⟩ := memN_of_asc _ _ hE
    exact h3 s hs ht
theorem prog_best (hk : chkCity c = 0) : ∃ B, tryB c l (l.length + 1) 0 [] [] 0 ([], 0) = (intsN B, pplOf (bandsAt l B)) ∧ IsBest c l B := by
  obtain ⟨B, h1, h2⟩ := tryB_best c l (l.length + 1) 0 [] [] (by omega) (by omega)
  have hr : Reach c l 0 [] B := by
    rcases h2.from_ with rfl | h
    · exact .here _ _
    · exact h
  refine ⟨B, h1, reach_asc hr (asc_nil _) (fun x h => by cases h), reach_tog hr (tog_nil hk), fun E hE ht => h2.best E ?_⟩
  have := tog_reach (c := c) (l := l) E [] 0 (List.pairwise_cons.2 ⟨fun _ _ => Nat.zero_le _, hE.1.imp fun h => Nat.le_of_lt h⟩) hE.1 hE.2 (by simpa using ht)
  simpa using this
theorem best_eq : rbAns c l = pbAns c l := by
  unfold rbAns pbAns
  by_cases h1 : chkAll c l ≠ 0
  · rw [if_pos h1, if_pos h1]
  · rw [if_neg h1, if_neg h1]
    by_cases h2 : 8 < (l.length : Int)
    · rw [if_pos h2, if_pos h2]
    · rw [if_neg h2, if_neg h2]
      have hk := (chkAll_ok (by simpa using h1)).1
      obtain ⟨B, e1, b1⟩ := ref_best (l := l) hk
      obtain ⟨B', e2, b2⟩ := prog_best (l := l) hk
      rw [e1, e2, b1.uniq b2]
end
end Go.Proofs.Ytnpamcpoaklgeaa

namespace Go.Proofs.Ytnpamcpoaklgeaa
open Go Go.RowKit
set_option maxRecDepth 100000

/-- A row of bands, in a row. -/
def bsPV (l : List Band) : PV := .isl (l.map bdPV) .ro
theorem cA_ct {a b c : Nat} {xs : List City} : CleanAll a b c (xs.map ctPV) = True := CleanAll_map clean_ct
theorem cA_bs {a b c : Nat} {xs : List (List Band)} : CleanAll a b c (xs.map bsPV) = True := CleanAll_map fun x => by simp only [bsPV, go_sem]
attribute [go_sem] bsPV cA_ct cA_bs
/-- What may come in. -/
structure City.In (c : City) : Prop where
  hr : c.town.rooms.length * 8 ≤ 140737488351232
  hs : c.town.streets.length * 16 ≤ 140737488351232
  hg : c.town.groups.length * 72 ≤ 140737488351232
  hp : ∀ g, g ∈ c.town.groups → g.path.length * 8 ≤ 140737488351232
  hsl : c.sleep.length * 8 ≤ 140737488351232
def BandsIn (l : List Band) : Prop := l.length * 64 ≤ 140737488351232 ∧ ∀ b, b ∈ l → b.path.length * 8 ≤ 140737488351232
theorem City.In.okc {c : City} (h : c.In) : c.Ok := by
  have := h.hr; have := h.hs; have := h.hg; have := h.hsl
  exact ⟨by omega, by omega, by omega, fun g hg => by have := h.hp g hg; omega, by omega⟩
/-- Few enough of all. -/
structure City.Few (c : City) : Prop where
  hr : c.town.rooms.length ≤ 20
  hs : c.town.streets.length ≤ 20
  hg : c.town.groups.length ≤ 20
  hp : ∀ g, g ∈ c.town.groups → g.path.length ≤ 20
  hsl : c.sleep.length ≤ 20
theorem City.Few.okc {c : City} (h : c.Few) : c.Ok := by
  have := h.hr; have := h.hs; have := h.hg; have := h.hsl
  exact ⟨by omega, by omega, by omega, fun g hg => by have := h.hp g hg; omega, by omega⟩
theorem City.Few.small {c : City} (h : c.Few) : c.Small := by
  have := h.hr; have := h.hs; have := h.hg; have := h.hsl
  exact ⟨by omega, by omega, by omega, fun g hg => by have := h.hp g hg; omega, by omega⟩
theorem CityV.few {c : City} (h : CityV c) : c.Few := by
  have := h.tv.r1; have := h.tv.s1; have := h.tv.g1; have := h.sl
  exact ⟨by omega, by omega, by omega, fun g hg => by have := (h.tv.g2 g hg).p1; omega, by omega⟩
def BandsFew (l : List Band) : Prop := l.length ≤ 12 ∧ ∀ b, b ∈ l → b.path.length ≤ 15
theorem BandsFew.okb {l : List Band} (h : BandsFew l) : BandsOk l := ⟨by have := h.1; omega, fun b hb => by have := h.2 b hb; omega⟩
theorem get3 {α : Type} {a b c x : α} {i : Nat} (h : [a, b, c][i]? = some x) : x = a ∨ x = b ∨ x = c := by
  have := List.mem_of_getElem? h; simpa using this

end Go.Proofs.Ytnpamcpoaklgeaa

namespace Go.Proofs.Ytnpamcpoaklgeaa
open Go Go.RowKit

def InTurn (c : City) (w L : List Band) : Prop := ∀ (i : Nat) (b : Band), L[i]? = some b → reqOf c (w ++ L.take i) b = 0
theorem granted_all {c : City} : ∀ (L w : List Band), (grantedOf L (grantL c w L)).length = L.length ↔ InTurn c w L := by
  intro L
  induction L with
  | nil => intro w; exact ⟨fun _ i b h => by simp at h, fun _ => rfl⟩
  | cons a L ih =>
    intro w
    simp only [grantL, grantedOf]
    have hle := grantedOf_len L (grantL c (if reqOf c w a = 0 then w ++ [a] else w) L)
    by_cases hr : reqOf c w a = 0
    · rw [if_pos hr, if_pos hr]
      rw [if_pos hr] at hle
      simp only [List.length_cons, Nat.add_right_cancel_iff]
      rw [ih]
      constructor
      · intro h i b hb
        cases i with
        | zero => simp at hb; subst hb; simpa using hr
        | succ i =>
          have := h i b (by simpa using hb)
          simpa [List.append_assoc] using this
      · intro h i b hb
        have := h (i + 1) b (by simpa using hb)
        simpa [List.append_assoc] using this
    · rw [if_neg hr]
      rw [if_neg hr] at hle ⊢
      refine ⟨fun h => by simp only [List.length_cons] at h; omega, fun h => absurd ?_ hr⟩
      simpa using h 0 a rfl
theorem inTurn_tog {c : City} {L : List Band} (hk : chkCity c = 0) : InTurn c [] L ↔ togB c L = true := by
  unfold togB
  rw [Bool.and_eq_true, decide_eq_true_eq, togL_iff]
  constructor
  · intro h
    refine ⟨fun i b hb => ?_, ?_⟩
    · obtain ⟨f1, f2, f3⟩ := reqOf_zero.1 (h i b hb)
      refine ⟨?_, ?_⟩
      · rcases clashOf_cases c b ([] ++ L.take i) with ⟨q, _⟩ | ⟨_, x, q1, q2⟩
        · exact q
        · exact absurd (f1 x q1) q2
      · rcases overL_cases c b (sqs c b).1 with ⟨q, _⟩ | ⟨_, s, q1, q2⟩
        · exact q
        · have := f2 s q1; omega
    · rcases List.eq_nil_or_concat L with rfl | ⟨T, x, rfl⟩
      · exact awk_nil hk
      · rw [List.concat_eq_append] at h ⊢
        obtain ⟨f1, f2, f3⟩ := reqOf_zero.1 (h T.length x (by simp))
        simp only [List.nil_append, List.take_left] at f3
        rcases awkL_cases c (T ++ [x]) c.sleep 0 with ⟨q, _⟩ | ⟨_, i, o, q1, q2⟩
        · exact q
        · have := f3 i o q1
          rw [Nat.zero_add] at q2
          omega
  · rintro ⟨h1, h2⟩ i b hb
    obtain ⟨k1, k2⟩ := h1 i b hb
    rw [reqOf_zero]
    refine ⟨?_, ?_, ?_⟩
    · rcases clashOf_cases c b ([] ++ L.take i) with ⟨_, q⟩ | ⟨q, _⟩
      · exact q
      · omega
    · have ho : overOf c b = overL c b (sqs c b).1 := rfl
      rcases overL_cases c b (sqs c b).1 with ⟨_, q⟩ | ⟨q, _⟩
      · exact q
      · omega
    · have ha := awk_mono (l := [] ++ L.take i ++ [b]) (fun x hx => by
        rw [List.nil_append] at hx
        rcases List.mem_append.1 hx with hx | hx
        · exact List.mem_of_mem_take hx
        · simp only [List.mem_singleton] at hx; subst hx; exact List.mem_of_getElem? hb) h2
      have ha' : awkL c ([] ++ L.take i ++ [b]) 0 c.sleep = 0 := ha
      rcases awkL_cases c ([] ++ L.take i ++ [b]) c.sleep 0 with ⟨_, q⟩ | ⟨q, _⟩
      · intro j o hj
        have := q j o hj
        rw [Nat.zero_add] at this
        exact this
      · omega
theorem granted_tog {c : City} {L : List Band} (hk : chkCity c = 0) : (grantedOf L (grantL c [] L)).length = L.length ↔ togB c L = true := (granted_all L []).trans (inTurn_tog hk)
/-- What is granted, one after the other, is a choice. -/
theorem greedy_reach {c : City} {l : List Band} : ∀ (rest pre : List Band) (C : List Nat), l = pre ++ rest → ∃ G, Reach c l pre.length C G ∧ bandsAt l G = bandsAt l C ++ grantedOf rest (grantL c (bandsAt l C) rest) := by
  intro rest
  induction rest with
  | nil => intro pre C _; exact ⟨C, .here _ _, by simp [grantL, grantedOf]⟩
  | cons b rest ih =>
    intro pre C hl
    have hb : l[pre.length]? = some b := by rw [hl]; simp
    simp only [grantL, grantedOf]
    by_cases hr : reqOf c (bandsAt l C) b = 0
    · rw [if_pos hr, if_pos hr]
      obtain ⟨G, g1, g2⟩ := ih (pre ++ [b]) (C ++ [pre.length]) (by simp [hl])
      rw [List.length_append, List.length_singleton] at g1
      refine ⟨G, .more _ _ _ pre.length b (Nat.le_refl _) hb hr g1, ?_⟩
      rw [g2, bandsAt_snoc hb]
      simp
    · rw [if_neg hr, if_neg hr]
      obtain ⟨G, g1, g2⟩ := ih (pre ++ [b]) C (by simp [hl])
      rw [List.length_append, List.length_singleton] at g1
      exact ⟨G, g1.mono (by omega), g2⟩
theorem bandsAt_len_eq {l : List Band} : ∀ {S : List Nat}, (∀ x, x ∈ S → x < l.length) → (bandsAt l S).length = S.length := by
  intro S
  induction S with
  | nil => intro _; rfl
  | cons a S ih =>
    intro h
    obtain ⟨b, hb⟩ : ∃ b, l[a]? = some b := ⟨_, List.getElem?_eq_getElem (h a (by simp))⟩
    rw [bandsAt_cons hb, List.length_cons, ih fun x hx => h x (by simp [hx]), List.length_cons]
theorem greedy_le {c : City} {l : List Band} {B : List Nat} (hk : chkCity c = 0) (hB : IsBest c l B) : (grantedOf l (grantL c [] l)).length ≤ B.length := by
  obtain ⟨G, g1, g2⟩ := greedy_reach (c := c) l [] [] rfl
  have ha := reach_asc g1 (asc_nil _) (fun x h => by cases h)
  have ht := reach_tog g1 (tog_nil hk)
  have hn := hB.best G ha ht
  have e : (grantedOf l (grantL c [] l)).length = G.length := by
    rw [← bandsAt_len_eq ha.2, g2]; rfl
  rw [e]
  rcases Nat.lt_or_ge B.length G.length with h | h
  · exact absurd (betterB_iff.2 (.inl (by rw [intsN_len, intsN_len]; exact h))) hn
  · exact h
end Go.Proofs.Ytnpamcpoaklgeaa
