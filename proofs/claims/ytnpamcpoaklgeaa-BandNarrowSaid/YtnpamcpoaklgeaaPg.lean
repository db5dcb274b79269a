/-
  Walks: the reference's towns, cities, squares (bateriaref06, bateriaref07).
  Walks: the reference's cities, bands, verdicts, sleep (bateriaref07).
  Walks: whether bands meet, verdicts (bateriaref07).
  Bands that meet are bands that cross; walks: verdicts, sleep (bateriaref07).
  Walks: who is heard, the sleep of a square (bateriaref07).
  Walks: copies and comparisons of towns, cities, bands (bateriakit), what the laws pass over.
-/
import Derived.Test.YtnpamcpoaklgeaaPf
set_option linter.unusedSimpArgs false
set_option linter.unusedVariables false
namespace Go.Proofs.Ytnpamcpoaklgeaa
open Go Go.RowKit
set_option maxRecDepth 100000

set_option maxHeartbeats 2000000 in
theorem rin_pc (Y : YEnv) (σ : Sg) (n lo hi : Int) :
    PC Try.prog Y 71 [I n, I lo, I hi] σ (.bool (inR n lo hi)) (σ) := by
  refine PC_of_W Try.func71 rfl (by kernel_rfl) Try.ntmps71 (by simp) fun hcl hca => ?_
  refine W_seq fun kz1 kq1 => ?_
  refine W_region [0, 1, 2] fun R hR => ?_   -- r0
  simp only [go_sem]
  refine hR _ _ (kq1 _ _ ?_); clear hR R; try clear kq1 kz1
  try simp only [go_sem]
  refine W_seq fun kz2 kq2 => ?_
  refine W_region [6] fun R hR => ?_   -- r1
  simp only [go_sem]
  refine GWant_split (fun g1 => ?_) (fun g1 => ?_)
  · try simp only [Bool.not_eq_true', Bool.not_eq_false'] at g1
    have n1 := g1; try simp only [nrm] at n1
    simp only [go_sem, g1]
    refine hR _ _ (kq2 _ _ ?_); clear hR R; try clear kq2 kz2
    try simp only [go_sem]
    refine W_ret ?_
    simp only [go_sem]
    refine ⟨.inr (by trivial), ?_⟩
    first | refine Fin_same hcl rfl (Wk_eq ?_ (by simp only [go_sem])) | refine Fin_self hcl rfl (Wk_eq ?_ (by simp only [go_sem]))
    try simp only [go_sem]
    all_goals
      simp only [inR]; first | rfl | (simp [*]; done) | (simp [*]; omega)
  · try simp only [Bool.not_eq_true', Bool.not_eq_false'] at g1
    have n1 := g1; try simp only [nrm] at n1
    simp only [go_sem, g1]
    refine hR _ _ (kq2 _ _ ?_); clear hR R; try clear kq2 kz2
    try simp only [go_sem]
    refine W_ret ?_
    simp only [go_sem]
    refine ⟨.inr (by trivial), ?_⟩
    first | refine Fin_same hcl rfl (Wk_eq ?_ (by simp only [go_sem])) | refine Fin_self hcl rfl (Wk_eq ?_ (by simp only [go_sem]))
    try simp only [go_sem]
    all_goals
      simp only [inR]; first | rfl | (simp [*]; done) | (simp [*]; omega)
set_option maxHeartbeats 2000000 in
theorem rin6_pc (Y : YEnv) (σ : Sg) (n lo hi : Int) :
    PC Try.prog Y 122 [I n, I lo, I hi] σ (.bool (inR n lo hi)) (σ) := by
  refine PC_of_W Try.func122 rfl (by kernel_rfl) Try.ntmps122 (by simp) fun hcl hca => ?_
  refine W_seq fun kz1 kq1 => ?_
  refine W_region [0, 1, 2] fun R hR => ?_   -- r0
  simp only [go_sem]
  refine hR _ _ (kq1 _ _ ?_); clear hR R; try clear kq1 kz1
  try simp only [go_sem]
  refine W_seq fun kz2 kq2 => ?_
  refine W_region [6] fun R hR => ?_   -- r1
  simp only [go_sem]
  refine GWant_split (fun g1 => ?_) (fun g1 => ?_)
  · try simp only [Bool.not_eq_true', Bool.not_eq_false'] at g1
    have n1 := g1; try simp only [nrm] at n1
    simp only [go_sem, g1]
    refine hR _ _ (kq2 _ _ ?_); clear hR R; try clear kq2 kz2
    try simp only [go_sem]
    refine W_ret ?_
    simp only [go_sem]
    refine ⟨.inr (by trivial), ?_⟩
    first | refine Fin_same hcl rfl (Wk_eq ?_ (by simp only [go_sem])) | refine Fin_self hcl rfl (Wk_eq ?_ (by simp only [go_sem]))
    try simp only [go_sem]
    all_goals
      simp only [inR]; first | rfl | (simp [*]; done) | (simp [*]; omega)
  · try simp only [Bool.not_eq_true', Bool.not_eq_false'] at g1
    have n1 := g1; try simp only [nrm] at n1
    simp only [go_sem, g1]
    refine hR _ _ (kq2 _ _ ?_); clear hR R; try clear kq2 kz2
    try simp only [go_sem]
    refine W_ret ?_
    simp only [go_sem]
    refine ⟨.inr (by trivial), ?_⟩
    first | refine Fin_same hcl rfl (Wk_eq ?_ (by simp only [go_sem])) | refine Fin_self hcl rfl (Wk_eq ?_ (by simp only [go_sem]))
    try simp only [go_sem]
    all_goals
      simp only [inR]; first | rfl | (simp [*]; done) | (simp [*]; omega)
set_option maxHeartbeats 2000000 in
theorem rother_pc (Y : YEnv) (σ : Sg) (s : Int × Int) (at' : Int) :
    PC Try.prog Y 64 [stPV s, I at'] σ (I (other s at')) (σ) := by
  refine PC_of_W Try.func64 rfl (by kernel_rfl) Try.ntmps64 (by simp) fun hcl hca => ?_
  refine W_seq fun kz1 kq1 => ?_
  refine W_region [1, 2] fun R hR => ?_   -- r0
  simp only [go_sem]
  refine hR _ _ (kq1 _ _ ?_); clear hR R; try clear kq1 kz1
  try simp only [go_sem]
  refine W_seq fun kz2 kq2 => ?_
  refine W_seq fun kz3 kq3 => ?_
  refine W_region [2, 5] fun R hR => ?_   -- r1
  simp only [go_sem]
  refine hR _ _ (kq3 _ _ ?_); clear hR R; try clear kq3 kz3
  try simp only [go_sem]
  refine W_block ?_
  refine W_seq fun kz4 kq4 => ?_
  refine W_region [2, 5, 6] fun R hR => ?_   -- r2
  simp only [go_sem]
  refine hR _ _ (kq4 _ _ ?_); clear hR R; try clear kq4 kz4
  try simp only [go_sem]
  refine W_cond rfl (fun c1 => ?_) (fun c1 => ?_)
  · -- c1 true
    try simp only [nrm] at c1
    refine W_seq fun kz5 kq5 => ?_
    refine W_region [4] fun R hR => ?_   -- r3
    simp only [go_sem]
    refine hR _ _ (kq5 _ _ ?_); clear hR R; try clear kq5 kz5
    try simp only [go_sem]
    refine W_ret ?_
    simp only [go_sem]
    refine ⟨.inr (by trivial), ?_⟩
    first | refine Fin_same hcl rfl (Wk_eq ?_ (by simp only [go_sem])) | refine Fin_self hcl rfl (Wk_eq ?_ (by simp only [go_sem]))
    try simp only [go_sem]
    all_goals
      simp_all [other]
  · -- c1 false
    try simp only [nrm] at c1
    refine W_seq fun kz6 kq6 => ?_
    refine W_region [2, 12] fun R hR => ?_   -- r4
    simp only [go_sem]
    refine hR _ _ (kq6 _ _ ?_); clear hR R; try clear kq6 kz6
    try simp only [go_sem]
    refine W_cond rfl (fun c2 => ?_) (fun c2 => ?_)
    · -- c2 true
      try simp only [nrm] at c2
      refine W_seq fun kz7 kq7 => ?_
      refine W_region [4] fun R hR => ?_   -- r5
      simp only [go_sem]
      refine hR _ _ (kq7 _ _ ?_); clear hR R; try clear kq7 kz7
      try simp only [go_sem]
      refine W_ret ?_
      simp only [go_sem]
      refine ⟨.inr (by trivial), ?_⟩
      first | refine Fin_same hcl rfl (Wk_eq ?_ (by simp only [go_sem])) | refine Fin_self hcl rfl (Wk_eq ?_ (by simp only [go_sem]))
      try simp only [go_sem]
      all_goals
        simp_all [other]
    · -- c2 false
      try simp only [nrm] at c2
      refine W_skip (kq2 _ _ ?_)
      refine W_seq fun kz8 kq8 => ?_
      refine W_region [4] fun R hR => ?_   -- r6
      simp only [go_sem]
      refine hR _ _ (kq8 _ _ ?_); clear hR R; try clear kq8 kz8
      try simp only [go_sem]
      refine W_ret ?_
      simp only [go_sem]
      refine ⟨.inr (by trivial), ?_⟩
      first | refine Fin_same hcl rfl (Wk_eq ?_ (by simp only [go_sem])) | refine Fin_self hcl rfl (Wk_eq ?_ (by simp only [go_sem]))
      try simp only [go_sem]
      all_goals
        simp_all [other]
set_option maxHeartbeats 2000000 in
theorem rspan_pc (Y : YEnv) (σ : Sg) (lo hi m : Int) :
    PC Try.prog Y 147 [.agg [I lo, I hi], I m] σ (I (chkSpan lo hi m)) (σ) := by
  refine PC_of_W Try.func147 rfl (by kernel_rfl) Try.ntmps147 (by simp) fun hcl hca => ?_
  refine W_seq fun kz1 kq1 => ?_
  refine W_region [1, 2] fun R hR => ?_   -- r0
  simp only [go_sem]
  refine hR _ _ (kq1 _ _ ?_); clear hR R; try clear kq1 kz1
  try simp only [go_sem]
  refine W_seq fun kz2 kq2 => ?_
  refine W_seq fun kz3 kq3 => ?_
  refine W_region [2, 16] fun R hR => ?_   -- r1
  simp only [go_sem]
  refine GCall_of (rin6_pc Y _ lo 0 m) ?_   -- t8
  simp only [go_sem]
  refine GWant_split (fun g1 => ?_) (fun g1 => ?_)
  · try simp only [Bool.not_eq_true', Bool.not_eq_false'] at g1
    have n1 := g1; try simp only [nrm] at n1
    simp only [go_sem, g1]
    refine GCall_of (rin6_pc Y _ hi 0 m) ?_   -- t14
    simp only [go_sem, g1]
    refine hR _ _ (kq3 _ _ ?_); clear hR R; try clear kq3 kz3
    try simp only [go_sem]
    refine W_cond rfl (fun c1 => ?_) (fun c1 => ?_)
    · -- c1 true
      try simp only [nrm] at c1
      refine W_seq fun kz4 kq4 => ?_
      refine W_region [4] fun R hR => ?_   -- r2
      simp only [go_sem]
      refine hR _ _ (kq4 _ _ ?_); clear hR R; try clear kq4 kz4
      try simp only [go_sem]
      refine W_ret ?_
      simp only [go_sem]
      refine ⟨.inr (by trivial), ?_⟩
      first | refine Fin_same hcl rfl (Wk_eq ?_ (by simp only [go_sem])) | refine Fin_self hcl rfl (Wk_eq ?_ (by simp only [go_sem]))
      try simp only [go_sem]
      all_goals
        first | rfl | (simp_all; done) | (simp_all; omega) | (simp only [chkSpan]; (repeat' split) <;> ((first | rfl | omega | (simp_all; done) | (simp_all; omega))))
    · -- c1 false
      try simp only [nrm] at c1
      refine W_skip (kq2 _ _ ?_)
      refine W_seq fun kz5 kq5 => ?_
      refine W_seq fun kz6 kq6 => ?_
      refine W_region [21] fun R hR => ?_   -- r3
      simp only [go_sem]
      refine hR _ _ (kq6 _ _ ?_); clear hR R; try clear kq6 kz6
      try simp only [go_sem]
      refine W_cond rfl (fun c2 => ?_) (fun c2 => ?_)
      · -- c2 true
        try simp only [nrm] at c2
        refine W_seq fun kz7 kq7 => ?_
        refine W_region [4] fun R hR => ?_   -- r4
        simp only [go_sem]
        refine hR _ _ (kq7 _ _ ?_); clear hR R; try clear kq7 kz7
        try simp only [go_sem]
        refine W_ret ?_
        simp only [go_sem]
        refine ⟨.inr (by trivial), ?_⟩
        first | refine Fin_same hcl rfl (Wk_eq ?_ (by simp only [go_sem])) | refine Fin_self hcl rfl (Wk_eq ?_ (by simp only [go_sem]))
        try simp only [go_sem]
        all_goals
          first | rfl | (simp_all; done) | (simp_all; omega) | (simp only [chkSpan]; (repeat' split) <;> ((first | rfl | omega | (simp_all; done) | (simp_all; omega))))
      · -- c2 false
        try simp only [nrm] at c2
        refine W_skip (kq5 _ _ ?_)
        refine W_seq fun kz8 kq8 => ?_
        refine W_region [4] fun R hR => ?_   -- r5
        simp only [go_sem]
        refine hR _ _ (kq8 _ _ ?_); clear hR R; try clear kq8 kz8
        try simp only [go_sem]
        refine W_ret ?_
        simp only [go_sem]
        refine ⟨.inr (by trivial), ?_⟩
        first | refine Fin_same hcl rfl (Wk_eq ?_ (by simp only [go_sem])) | refine Fin_self hcl rfl (Wk_eq ?_ (by simp only [go_sem]))
        try simp only [go_sem]
        all_goals
          first | rfl | (simp_all; done) | (simp_all; omega) | (simp only [chkSpan]; (repeat' split) <;> ((first | rfl | omega | (simp_all; done) | (simp_all; omega))))
  · try simp only [Bool.not_eq_true', Bool.not_eq_false'] at g1
    have n1 := g1; try simp only [nrm] at n1
    simp only [go_sem, g1]
    refine hR _ _ (kq3 _ _ ?_); clear hR R; try clear kq3 kz3
    try simp only [go_sem]
    refine W_cond_true rfl ?_
    refine W_seq fun kz9 kq9 => ?_
    refine W_region [4] fun R hR => ?_   -- r2
    simp only [go_sem]
    refine hR _ _ (kq9 _ _ ?_); clear hR R; try clear kq9 kz9
    try simp only [go_sem]
    refine W_ret ?_
    simp only [go_sem]
    refine ⟨.inr (by trivial), ?_⟩
    first | refine Fin_same hcl rfl (Wk_eq ?_ (by simp only [go_sem])) | refine Fin_self hcl rfl (Wk_eq ?_ (by simp only [go_sem]))
    try simp only [go_sem]
    all_goals
      first | rfl | (simp_all; done) | (simp_all; omega) | (simp only [chkSpan]; (repeat' split) <;> ((first | rfl | omega | (simp_all; done) | (simp_all; omega))))
set_option maxHeartbeats 2000000 in
theorem rgroup_pc (Y : YEnv) (σ : Sg) (t : Town) (g : Group) (hr : t.rooms.length < 2 ^ 50) (hs : t.streets.length < 2 ^ 50) (hp : g.path.length < 2 ^ 50) :
    PC Try.prog Y 130 [twPV t, grPV g] σ (I (chkGroup t g)) (σ) := by
  refine PC_of_W Try.func130 rfl (by kernel_rfl) Try.ntmps130 (by simp) fun hcl hca => ?_
  obtain ⟨res, hres⟩ : ∃ r, chkGroup t g = r := ⟨_, rfl⟩
  rw [hres]
  refine W_seq fun kz1 kq1 => ?_
  refine W_region [2, 3] fun R hR => ?_   -- r0
  simp only [go_sem]
  refine hR _ _ (kq1 _ _ ?_); clear hR R; try clear kq1 kz1
  try simp only [go_sem]
  refine W_seq fun kz2 kq2 => ?_
  refine W_seq fun kz3 kq3 => ?_
  refine W_region [2, 3, 5] fun R hR => ?_   -- r1
  simp only [go_sem]
  refine GCall_of (rspan_pc Y _ g.slo g.shi 1000000) ?_   -- t11
  simp only [go_sem]
  refine hR _ _ (kq3 _ _ ?_); clear hR R; try clear kq3 kz3
  try simp only [go_sem]
  refine W_seq fun kz4 kq4 => ?_
  refine W_region [2, 3, 5, 13] fun R hR => ?_   -- r2
  simp only [go_sem]
  refine hR _ _ (kq4 _ _ ?_); clear hR R; try clear kq4 kz4
  try simp only [go_sem]
  refine W_cond rfl (fun c1 => ?_) (fun c1 => ?_)
  · -- c1 true
    try simp only [nrm] at c1
    refine W_seq fun kz5 kq5 => ?_
    refine W_region [4] fun R hR => ?_   -- r3
    simp only [go_sem]
    refine hR _ _ (kq5 _ _ ?_); clear hR R; try clear kq5 kz5
    try simp only [go_sem]
    refine W_ret ?_
    simp only [go_sem]
    refine ⟨.inr (by trivial), ?_⟩
    first | refine Fin_same hcl rfl (Wk_eq ?_ (by simp only [go_sem])) | refine Fin_self hcl rfl (Wk_eq ?_ (by simp only [go_sem]))
    try simp only [go_sem]
    all_goals
      rw [← hres]; simp [chkGroup, *]
  · -- c1 false
    try simp only [nrm] at c1
    refine W_skip (kq2 _ _ ?_)
    refine W_seq fun kz6 kq6 => ?_
    refine W_seq fun kz7 kq7 => ?_
    refine W_region [2, 3, 6] fun R hR => ?_   -- r4
    simp only [go_sem]
    refine GCall_of (rspan_pc Y _ g.alo g.ahi 96) ?_   -- t17
    simp only [go_sem]
    refine hR _ _ (kq7 _ _ ?_); clear hR R; try clear kq7 kz7
    try simp only [go_sem]
    refine W_seq fun kz8 kq8 => ?_
    refine W_region [2, 3, 6, 19] fun R hR => ?_   -- r5
    simp only [go_sem]
    refine hR _ _ (kq8 _ _ ?_); clear hR R; try clear kq8 kz8
    try simp only [go_sem]
    refine W_cond rfl (fun c2 => ?_) (fun c2 => ?_)
    · -- c2 true
      try simp only [nrm] at c2
      refine W_seq fun kz9 kq9 => ?_
      refine W_region [4] fun R hR => ?_   -- r6
      simp only [go_sem]
      refine hR _ _ (kq9 _ _ ?_); clear hR R; try clear kq9 kz9
      try simp only [go_sem]
      refine W_ret ?_
      simp only [go_sem]
      refine ⟨.inr (by trivial), ?_⟩
      first | refine Fin_same hcl rfl (Wk_eq ?_ (by simp only [go_sem])) | refine Fin_self hcl rfl (Wk_eq ?_ (by simp only [go_sem]))
      try simp only [go_sem]
      all_goals
        rw [← hres]; simp [chkGroup, *]
    · -- c2 false
      try simp only [nrm] at c2
      refine W_skip (kq6 _ _ ?_)
      refine W_seq fun kz10 kq10 => ?_
      refine W_seq fun kz11 kq11 => ?_
      refine W_region [2, 3, 24] fun R hR => ?_   -- r7
      simp only [go_sem]
      refine GCall_of (rin6_pc Y _ g.stay 1 96) ?_   -- t23
      simp only [go_sem]
      refine hR _ _ (kq11 _ _ ?_); clear hR R; try clear kq11 kz11
      try simp only [go_sem]
      refine W_cond rfl (fun c3 => ?_) (fun c3 => ?_)
      · -- c3 true
        try simp only [nrm] at c3
        refine W_seq fun kz12 kq12 => ?_
        refine W_region [4] fun R hR => ?_   -- r8
        simp only [go_sem]
        refine hR _ _ (kq12 _ _ ?_); clear hR R; try clear kq12 kz12
        try simp only [go_sem]
        refine W_ret ?_
        simp only [go_sem]
        refine ⟨.inr (by trivial), ?_⟩
        first | refine Fin_same hcl rfl (Wk_eq ?_ (by simp only [go_sem])) | refine Fin_self hcl rfl (Wk_eq ?_ (by simp only [go_sem]))
        try simp only [go_sem]
        all_goals
          rw [← hres]; simp [chkGroup, *]
      · -- c3 false
        try simp only [nrm] at c3
        refine W_skip (kq10 _ _ ?_)
        refine W_seq fun kz13 kq13 => ?_
        refine W_seq fun kz14 kq14 => ?_
        refine W_region [2, 3, 32] fun R hR => ?_   -- r9
        simp only [go_sem]
        try simp (disch := omega) only [wrapI]
        refine GCall_of (rin6_pc Y _ g.first 0 _) ?_   -- t31
        simp only [go_sem]
        try simp (disch := omega) only [wrapI]
        refine hR _ _ (kq14 _ _ ?_); clear hR R; try clear kq14 kz14
        try simp only [go_sem]
        refine W_cond rfl (fun c4 => ?_) (fun c4 => ?_)
        · -- c4 true
          try simp only [nrm] at c4
          refine W_seq fun kz15 kq15 => ?_
          refine W_region [4] fun R hR => ?_   -- r10
          simp only [go_sem]
          refine hR _ _ (kq15 _ _ ?_); clear hR R; try clear kq15 kz15
          try simp only [go_sem]
          refine W_ret ?_
          simp only [go_sem]
          refine ⟨.inr (by trivial), ?_⟩
          first | refine Fin_same hcl rfl (Wk_eq ?_ (by simp only [go_sem])) | refine Fin_self hcl rfl (Wk_eq ?_ (by simp only [go_sem]))
          try simp only [go_sem]
          all_goals
            rw [← hres]; simp [chkGroup, *]
        · -- c4 false
          try simp only [nrm] at c4
          refine W_skip (kq13 _ _ ?_)
          refine W_seq fun kz16 kq16 => ?_
          refine W_seq fun kz17 kq17 => ?_
          refine W_region [2, 3, 36] fun R hR => ?_   -- r11
          simp only [go_sem]
          refine hR _ _ (kq17 _ _ ?_); clear hR R; try clear kq17 kz17
          try simp only [go_sem]
          refine W_cond rfl (fun c5 => ?_) (fun c5 => ?_)
          · -- c5 true
            try simp only [nrm] at c5
            refine W_seq fun kz18 kq18 => ?_
            refine W_region [4] fun R hR => ?_   -- r12
            simp only [go_sem]
            refine hR _ _ (kq18 _ _ ?_); clear hR R; try clear kq18 kz18
            try simp only [go_sem]
            refine W_ret ?_
            simp only [go_sem]
            refine ⟨.inr (by trivial), ?_⟩
            first | refine Fin_same hcl rfl (Wk_eq ?_ (by simp only [go_sem])) | refine Fin_self hcl rfl (Wk_eq ?_ (by simp only [go_sem]))
            try simp only [go_sem]
            all_goals
              rw [← hres]; have d5 : g.path.length > 12 := by omega
              simp [chkGroup, *]
          · -- c5 false
            try simp only [nrm] at c5
            refine W_skip (kq16 _ _ ?_)
            refine W_seq fun kz19 kq19 => ?_
            refine W_region [2, 3, 7] fun R hR => ?_   -- r13
            simp only [go_sem]
            refine hR _ _ (kq19 _ _ ?_); clear hR R; try clear kq19 kz19
            try simp only [go_sem]
            refine W_seq fun kz20 kq20 => ?_
            refine W_seq fun kz21 kq21 => ?_
            refine W_region [2, 3, 7, 8] fun R hR => ?_   -- r14
            simp only [go_sem]
            refine hR _ _ (kq21 _ _ ?_); clear hR R; try clear kq21 kz21
            try simp only [go_sem]
            refine W_block ?_
            refine W_loopS (α := Nat × Int) (fun ⟨i, at'⟩ => [(7, I at'), (8, I i)]) (fun ⟨i, at'⟩ => i ≤ g.path.length ∧ res = chkPath t.streets (g.path.drop i) at') (fun ⟨i, at'⟩ => g.path.length - i) ((0, g.first)) rfl (⟨Nat.zero_le _, by rw [← hres]; have d5 : ¬ g.path.length > 12 := (by omega); simp [chkGroup, *]⟩) ?_
            rintro ⟨i, at'⟩ ⟨hi, hinv⟩
            refine W_seq fun kz22 kq22 => ?_
            refine W_seq fun kz23 kq23 => ?_
            refine W_region [2, 3, 7, 8, 43] fun R hR => ?_   -- r15
            simp only [go_sem]
            refine hR _ _ (kq23 _ _ ?_); clear hR R; try clear kq23 kz23
            try simp only [go_sem]
            refine W_cond rfl (fun c6 => ?_) (fun c6 => ?_)
            · -- c6 true
              try simp only [nrm] at c6
              have hi' : i < g.path.length := by first | assumption | omega
              obtain ⟨x, hx⟩ : ∃ x, g.path[i]? = some x := ⟨g.path[i], by simp [hi']⟩
              have hdrop : g.path.drop i = x :: g.path.drop (i + 1) := by
                rw [List.drop_eq_getElem_cons hi']; congr 1; exact (List.getElem?_eq_some_iff.1 hx).2
              rw [hdrop] at hinv
              simp only [chkPath] at hinv
              refine W_skip (kq22 _ _ ?_)
              refine W_seq fun kz24 kq24 => ?_
              refine W_block ?_
              refine W_seq fun kz25 kq25 => ?_
              refine W_seq fun kz26 kq26 => ?_
              refine W_draw [2, 3, 7, 8, 56] [0, 1, 2, 3, 4, 5, 6, 7, 8, 9, 10] [] [[], [0], [], [0, 1, 2], [0, 1, 2, 3], [], [5], [5, 6], [5, 6, 7], [0, 1, 2, 3, 4, 5, 6, 7, 8], [0, 1, 2, 3, 4, 5, 6, 7, 8, 9]] mixed (by kernel_rfl) fun R hR => ?_   -- r17
              simp only [go_sem, hx]
              try simp (disch := omega) only [wrapI]
              refine GCall_of (rin6_pc Y _ x 0 _) ?_   -- t55
              simp only [go_sem, hx]
              try simp (disch := omega) only [wrapI]
              refine hR _ _ (kq26 _ _ ?_); clear hR R; try clear kq26 kz26
              try simp only [go_sem, hx]
              refine W_cond rfl (fun c7 => ?_) (fun c7 => ?_)
              · -- c7 true
                try simp only [nrm] at c7
                refine W_seq fun kz27 kq27 => ?_
                refine W_region [4] fun R hR => ?_   -- r18
                simp only [go_sem, hx]
                refine hR _ _ (kq27 _ _ ?_); clear hR R; try clear kq27 kz27
                try simp only [go_sem, hx]
                refine W_ret ?_
                simp only [go_sem, hx]
                refine ⟨.inr (by trivial), ?_⟩
                first | refine Fin_same hcl rfl (Wk_eq ?_ (by simp only [go_sem])) | refine Fin_self hcl rfl (Wk_eq ?_ (by simp only [go_sem]))
                try simp only [go_sem]
                all_goals
                  rw [hinv]; simp [c7]
              · -- c7 false
                try simp only [nrm] at c7
                have hin : 0 ≤ x ∧ x ≤ (t.streets.length : Int) - 1 := by simpa [inR] using c7
                obtain ⟨n, rfl⟩ : ∃ n : Nat, x = (n : Int) := ⟨x.toNat, by omega⟩
                obtain ⟨s, hs'⟩ : ∃ s, t.streets[n]? = some s := ⟨t.streets[n]'(by omega), by simp⟩
                simp only [c7, Int.toNat_natCast, hs', Bool.not_true, Bool.false_eq_true, if_false] at hinv
                refine W_skip (kq25 _ _ ?_)
                refine W_seq fun kz28 kq28 => ?_
                refine W_draw [2, 3, 7, 8] [0, 1, 2, 3, 4, 5, 6, 7, 8, 9, 10, 11] [] [[], [0], [], [2], [], [2, 3, 4], [2, 3, 4, 5], [0, 1, 2, 3, 4, 5, 6], [0, 1, 2, 3, 4, 5, 6, 7], [], [0, 1, 2, 3, 4, 5, 6, 7, 8, 9], [0, 1, 2, 3, 4, 5, 6, 7, 8, 9, 10]] mixed (by kernel_rfl) fun R hR => ?_   -- r19
                simp only [go_sem, hx, hs']
                refine GCall_of (rother_pc Y _ s at') ?_   -- t67
                simp only [go_sem, hx, hs']
                refine hR _ _ (kq28 _ _ ?_); clear hR R; try clear kq28 kz28
                try simp only [go_sem, hx, hs']
                refine W_seq fun kz29 kq29 => ?_
                refine W_region [2, 3, 7, 8, 69] fun R hR => ?_   -- r20
                simp only [go_sem, hx, hs']
                refine hR _ _ (kq29 _ _ ?_); clear hR R; try clear kq29 kz29
                try simp only [go_sem, hx, hs']
                refine W_cond rfl (fun c8 => ?_) (fun c8 => ?_)
                · -- c8 true
                  try simp only [nrm] at c8
                  refine W_seq fun kz30 kq30 => ?_
                  refine W_region [4] fun R hR => ?_   -- r21
                  simp only [go_sem, hx, hs']
                  refine hR _ _ (kq30 _ _ ?_); clear hR R; try clear kq30 kz30
                  try simp only [go_sem, hx, hs']
                  refine W_ret ?_
                  simp only [go_sem, hx, hs']
                  refine ⟨.inr (by trivial), ?_⟩
                  first | refine Fin_same hcl rfl (Wk_eq ?_ (by simp only [go_sem])) | refine Fin_self hcl rfl (Wk_eq ?_ (by simp only [go_sem]))
                  try simp only [go_sem]
                  all_goals
                    rw [hinv, if_pos (by omega)]
                · -- c8 false
                  try simp only [nrm] at c8
                  refine W_skip (kq24 _ _ ?_)
                  refine W_region [2, 3, 7, 8] fun R hR => ?_   -- r16
                  simp only [go_sem, hx, hs']
                  try simp (disch := omega) only [wrapI]
                  refine hR _ _ ?_; clear hR R
                  try simp only [go_sem, hx, hs']
                  refine ⟨(i + 1, other s at'), ?_, by (try simp only []); omega, ?_⟩
                  · first | exact Weak.refl | exact Weak.eq (by first | rfl | (simp only [go_sem]; done) | (simp only [go_sem]; rfl) | (simp [go_sem]; done) | (simp [go_sem]; omega)) (by first | rfl | (simp only [go_sem]; done) | (simp [go_sem]; done))
                  · try dsimp only
                    exact ⟨hi', by rw [hinv, if_neg (by omega)]⟩
            · -- c6 false
              try simp only [nrm] at c6
              have hdrop : g.path.drop i = [] := List.drop_eq_nil_of_le (by omega)
              rw [hdrop] at hinv
              simp only [chkPath] at hinv
              refine W_exit ?_
              simp only [go_sem]
              refine kq20 _ _ ?_
              refine W_seq fun kz31 kq31 => ?_
              refine W_region [4] fun R hR => ?_   -- r22
              simp only [go_sem]
              refine hR _ _ (kq31 _ _ ?_); clear hR R; try clear kq31 kz31
              try simp only [go_sem]
              refine W_ret ?_
              simp only [go_sem]
              refine ⟨.inr (by trivial), ?_⟩
              first | refine Fin_same hcl rfl (Wk_eq ?_ (by simp only [go_sem])) | refine Fin_self hcl rfl (Wk_eq ?_ (by simp only [go_sem]))
              try simp only [go_sem]
              all_goals
                rw [hinv]
set_option maxHeartbeats 2000000 in
theorem rtown_pc (Y : YEnv) (σ : Sg) (t : Town) (hr : t.rooms.length < 2 ^ 50) (hs : t.streets.length < 2 ^ 50) (hg : t.groups.length < 2 ^ 50) (hp : ∀ g, g ∈ t.groups → g.path.length < 2 ^ 50) :
    PC Try.prog Y 98 [twPV t] σ (I (chkTown t)) (σ) := by
  refine PC_of_W Try.func98 rfl (by kernel_rfl) Try.ntmps98 (by simp) fun hcl hca => ?_
  obtain ⟨res, hres⟩ : ∃ r, chkTown t = r := ⟨_, rfl⟩
  rw [hres]
  refine W_seq fun kz1 kq1 => ?_
  refine W_region [1] fun R hR => ?_   -- r0
  simp only [go_sem]
  refine hR _ _ (kq1 _ _ ?_); clear hR R; try clear kq1 kz1
  try simp only [go_sem]
  refine W_seq fun kz2 kq2 => ?_
  refine W_seq fun kz3 kq3 => ?_
  refine W_region [1, 11] fun R hR => ?_   -- r1
  simp only [go_sem]
  refine hR _ _ (kq3 _ _ ?_); clear hR R; try clear kq3 kz3
  try simp only [go_sem]
  refine W_cond rfl (fun c1 => ?_) (fun c1 => ?_)
  · -- c1 true
    try simp only [nrm] at c1
    refine W_seq fun kz4 kq4 => ?_
    refine W_region [2] fun R hR => ?_   -- r2
    simp only [go_sem]
    refine hR _ _ (kq4 _ _ ?_); clear hR R; try clear kq4 kz4
    try simp only [go_sem]
    refine W_ret ?_
    simp only [go_sem]
    refine ⟨.inr (by trivial), ?_⟩
    first | refine Fin_same hcl rfl (Wk_eq ?_ (by simp only [go_sem])) | refine Fin_self hcl rfl (Wk_eq ?_ (by simp only [go_sem]))
    try simp only [go_sem]
    all_goals
      rw [← hres]; have d1 : t.rooms.length = 0 := by omega
      simp [chkTown, d1]
  · -- c1 false
    try simp only [nrm] at c1
    refine W_skip (kq2 _ _ ?_)
    refine W_seq fun kz5 kq5 => ?_
    refine W_seq fun kz6 kq6 => ?_
    refine W_region [1, 15] fun R hR => ?_   -- r3
    simp only [go_sem]
    refine hR _ _ (kq6 _ _ ?_); clear hR R; try clear kq6 kz6
    try simp only [go_sem]
    refine W_cond rfl (fun c2 => ?_) (fun c2 => ?_)
    · -- c2 true
      try simp only [nrm] at c2
      refine W_seq fun kz7 kq7 => ?_
      refine W_region [2] fun R hR => ?_   -- r4
      simp only [go_sem]
      refine hR _ _ (kq7 _ _ ?_); clear hR R; try clear kq7 kz7
      try simp only [go_sem]
      refine W_ret ?_
      simp only [go_sem]
      refine ⟨.inr (by trivial), ?_⟩
      first | refine Fin_same hcl rfl (Wk_eq ?_ (by simp only [go_sem])) | refine Fin_self hcl rfl (Wk_eq ?_ (by simp only [go_sem]))
      try simp only [go_sem]
      all_goals
        rw [← hres]; have d2 : t.rooms.length > 12 := by omega
        have d1 : t.rooms.length ≠ 0 := by omega
        simp [chkTown, *]
    · -- c2 false
      try simp only [nrm] at c2
      refine W_skip (kq5 _ _ ?_)
      refine W_seq fun kz8 kq8 => ?_
      refine W_seq fun kz9 kq9 => ?_
      refine W_region [1, 3] fun R hR => ?_   -- r5
      simp only [go_sem]
      refine hR _ _ (kq9 _ _ ?_); clear hR R; try clear kq9 kz9
      try simp only [go_sem]
      refine W_block ?_
      refine W_loopS (α := Nat) (fun (i : Nat) => [(3, I i)]) (fun (i : Nat) => i ≤ t.rooms.length ∧ allIn 0 1000000 (t.rooms.take i) = true) (fun (i : Nat) => t.rooms.length - i) (0) rfl (⟨Nat.zero_le _, rfl⟩) ?_
      rintro i ⟨hi, hall⟩
      refine W_seq fun kz10 kq10 => ?_
      refine W_seq fun kz11 kq11 => ?_
      refine W_region [1, 3, 20] fun R hR => ?_   -- r6
      simp only [go_sem]
      refine hR _ _ (kq11 _ _ ?_); clear hR R; try clear kq11 kz11
      try simp only [go_sem]
      refine W_cond rfl (fun c3 => ?_) (fun c3 => ?_)
      · -- c3 true
        try simp only [nrm] at c3
        have hi' : i < t.rooms.length := by first | assumption | omega
        obtain ⟨x, hx⟩ : ∃ x, t.rooms[i]? = some x := ⟨t.rooms[i], by simp [hi']⟩
        have hdrop : t.rooms.drop i = x :: t.rooms.drop (i + 1) := by
          rw [List.drop_eq_getElem_cons hi']; congr 1; exact (List.getElem?_eq_some_iff.1 hx).2
        refine W_skip (kq10 _ _ ?_)
        refine W_seq fun kz12 kq12 => ?_
        refine W_block ?_
        refine W_seq fun kz13 kq13 => ?_
        refine W_region [1, 3, 29] fun R hR => ?_   -- r8
        simp only [go_sem, hx]
        refine GCall_of (rin6_pc Y _ x 0 1000000) ?_   -- t28
        simp only [go_sem, hx]
        refine hR _ _ (kq13 _ _ ?_); clear hR R; try clear kq13 kz13
        try simp only [go_sem, hx]
        refine W_cond rfl (fun c4 => ?_) (fun c4 => ?_)
        · -- c4 true
          try simp only [nrm] at c4
          refine W_seq fun kz14 kq14 => ?_
          refine W_region [2] fun R hR => ?_   -- r9
          simp only [go_sem, hx]
          refine hR _ _ (kq14 _ _ ?_); clear hR R; try clear kq14 kz14
          try simp only [go_sem, hx]
          refine W_ret ?_
          simp only [go_sem, hx]
          refine ⟨.inr (by trivial), ?_⟩
          first | refine Fin_same hcl rfl (Wk_eq ?_ (by simp only [go_sem])) | refine Fin_self hcl rfl (Wk_eq ?_ (by simp only [go_sem]))
          try simp only [go_sem]
          all_goals
            have hall : allIn 0 1000000 t.rooms = false := by
              rw [Bool.eq_false_iff]
              intro hh
              have := List.all_eq_true.1 hh x (List.mem_of_getElem? hx)
              rw [this] at c4; cases c4
            rw [← hres]; have d2 : ¬ t.rooms.length > 12 := by omega
            have d1 : t.rooms.length ≠ 0 := by omega
            simp [chkTown, *]
        · -- c4 false
          try simp only [nrm] at c4
          refine W_skip (kq12 _ _ ?_)
          refine W_region [1, 3] fun R hR => ?_   -- r7
          simp only [go_sem, hx]
          try simp (disch := omega) only [wrapI]
          refine hR _ _ ?_; clear hR R
          try simp only [go_sem, hx]
          refine ⟨i + 1, ?_, by (try simp only []); omega, ?_⟩
          · first | exact Weak.refl | exact Weak.eq (by first | rfl | (simp only [go_sem]; done) | (simp only [go_sem]; rfl) | (simp [go_sem]; done) | (simp [go_sem]; omega)) (by first | rfl | (simp only [go_sem]; done) | (simp [go_sem]; done))
          · try dsimp only
            refine ⟨hi', ?_⟩
            rw [List.take_add_one, hx]
            unfold allIn at hall ⊢
            rw [List.all_append, hall]
            simpa using c4
      · -- c3 false
        try simp only [nrm] at c3
        have hie : i = t.rooms.length := by omega
        subst hie
        rw [List.take_length] at hall
        have d2 : ¬ t.rooms.length > 12 := by omega
        have d1 : t.rooms.length ≠ 0 := by omega
        refine W_exit ?_
        simp only [go_sem]
        refine kq8 _ _ ?_
        refine W_seq fun kz15 kq15 => ?_
        refine W_seq fun kz16 kq16 => ?_
        refine W_region [1, 33] fun R hR => ?_   -- r10
        simp only [go_sem]
        refine hR _ _ (kq16 _ _ ?_); clear hR R; try clear kq16 kz16
        try simp only [go_sem]
        refine W_cond rfl (fun c5 => ?_) (fun c5 => ?_)
        · -- c5 true
          try simp only [nrm] at c5
          refine W_seq fun kz17 kq17 => ?_
          refine W_region [2] fun R hR => ?_   -- r11
          simp only [go_sem]
          refine hR _ _ (kq17 _ _ ?_); clear hR R; try clear kq17 kz17
          try simp only [go_sem]
          refine W_ret ?_
          simp only [go_sem]
          refine ⟨.inr (by trivial), ?_⟩
          first | refine Fin_same hcl rfl (Wk_eq ?_ (by simp only [go_sem])) | refine Fin_self hcl rfl (Wk_eq ?_ (by simp only [go_sem]))
          try simp only [go_sem]
          all_goals
            rw [← hres]; have d5 : t.streets.length > 12 := by omega
            simp [chkTown, *]
        · -- c5 false
          try simp only [nrm] at c5
          refine W_skip (kq15 _ _ ?_)
          refine W_seq fun kz18 kq18 => ?_
          refine W_seq fun kz19 kq19 => ?_
          refine W_region [1, 4] fun R hR => ?_   -- r12
          simp only [go_sem]
          refine hR _ _ (kq19 _ _ ?_); clear hR R; try clear kq19 kz19
          try simp only [go_sem]
          refine W_block ?_
          have hq : res = if chkStreets t.rooms.length t.streets ≠ 0 then chkStreets t.rooms.length t.streets else if !(inR t.steps 0 96) then 2 else if t.groups.length > 12 then 5 else chkGroups t t.groups := by
            have d5 : ¬ t.streets.length > 12 := by omega
            rw [← hres]; simp [chkTown, *]
          refine W_loopS (α := Nat) (fun (j : Nat) => [(4, I j)]) (fun (j : Nat) => j ≤ t.streets.length ∧ chkStreets t.rooms.length t.streets = chkStreets t.rooms.length (t.streets.drop j)) (fun (j : Nat) => t.streets.length - j) (0) rfl (⟨Nat.zero_le _, rfl⟩) ?_
          rintro j ⟨hi, hst⟩
          refine W_seq fun kz20 kq20 => ?_
          refine W_seq fun kz21 kq21 => ?_
          refine W_region [1, 4, 38] fun R hR => ?_   -- r13
          simp only [go_sem]
          refine hR _ _ (kq21 _ _ ?_); clear hR R; try clear kq21 kz21
          try simp only [go_sem]
          refine W_cond rfl (fun c6 => ?_) (fun c6 => ?_)
          · -- c6 true
            try simp only [nrm] at c6
            have hi' : j < t.streets.length := by first | assumption | omega
            obtain ⟨s, hx⟩ : ∃ s, t.streets[j]? = some s := ⟨t.streets[j], by simp [hi']⟩
            have hdrop : t.streets.drop j = s :: t.streets.drop (j + 1) := by
              rw [List.drop_eq_getElem_cons hi']; congr 1; exact (List.getElem?_eq_some_iff.1 hx).2
            rw [hdrop] at hst
            simp only [chkStreets] at hst
            refine W_skip (kq20 _ _ ?_)
            refine W_seq fun kz22 kq22 => ?_
            refine W_block ?_
            refine W_seq fun kz23 kq23 => ?_
            refine W_region [1, 4, 5] fun R hR => ?_   -- r15
            simp only [go_sem, hx]
            refine hR _ _ (kq23 _ _ ?_); clear hR R; try clear kq23 kz23
            try simp only [go_sem, hx]
            refine W_seq fun kz24 kq24 => ?_
            refine W_seq fun kz25 kq25 => ?_
            refine W_region [1, 4, 5, 63] fun R hR => ?_   -- r16
            simp only [go_sem, hx]
            try simp (disch := omega) only [wrapI]
            refine GCall_of (rin6_pc Y _ s.1 0 _) ?_   -- t52
            simp only [go_sem, hx]
            refine GWant_split (fun g1 => ?_) (fun g1 => ?_)
            · try simp only [Bool.not_eq_true', Bool.not_eq_false'] at g1
              have n1 := g1; try simp only [nrm] at n1
              simp only [go_sem, hx, g1]
              try simp (disch := omega) only [wrapI]
              refine GCall_of (rin6_pc Y _ s.2 0 _) ?_   -- t61
              simp only [go_sem, hx, g1]
              try simp (disch := omega) only [wrapI]
              refine hR _ _ (kq25 _ _ ?_); clear hR R; try clear kq25 kz25
              try simp only [go_sem, hx]
              refine W_cond rfl (fun c7 => ?_) (fun c7 => ?_)
              · -- c7 true
                try simp only [nrm] at c7
                refine W_seq fun kz26 kq26 => ?_
                refine W_region [2] fun R hR => ?_   -- r17
                simp only [go_sem, hx]
                refine hR _ _ (kq26 _ _ ?_); clear hR R; try clear kq26 kz26
                try simp only [go_sem, hx]
                refine W_ret ?_
                simp only [go_sem, hx]
                refine ⟨.inr (by trivial), ?_⟩
                first | refine Fin_same hcl rfl (Wk_eq ?_ (by simp only [go_sem])) | refine Fin_self hcl rfl (Wk_eq ?_ (by simp only [go_sem]))
                try simp only [go_sem]
                all_goals
                  rw [hq, hst]; simp [*]
              · -- c7 false
                try simp only [nrm] at c7
                refine W_skip (kq24 _ _ ?_)
                refine W_seq fun kz27 kq27 => ?_
                refine W_region [1, 4, 68] fun R hR => ?_   -- r18
                simp only [go_sem, hx]
                refine hR _ _ (kq27 _ _ ?_); clear hR R; try clear kq27 kz27
                try simp only [go_sem, hx]
                refine W_cond rfl (fun c8 => ?_) (fun c8 => ?_)
                · -- c8 true
                  try simp only [nrm] at c8
                  refine W_seq fun kz28 kq28 => ?_
                  refine W_region [2] fun R hR => ?_   -- r19
                  simp only [go_sem, hx]
                  refine hR _ _ (kq28 _ _ ?_); clear hR R; try clear kq28 kz28
                  try simp only [go_sem, hx]
                  refine W_ret ?_
                  simp only [go_sem, hx]
                  refine ⟨.inr (by trivial), ?_⟩
                  first | refine Fin_same hcl rfl (Wk_eq ?_ (by simp only [go_sem])) | refine Fin_self hcl rfl (Wk_eq ?_ (by simp only [go_sem]))
                  try simp only [go_sem]
                  all_goals
                    rw [hq, hst]; simp [*]
                · -- c8 false
                  try simp only [nrm] at c8
                  refine W_skip (kq22 _ _ ?_)
                  refine W_region [1, 4] fun R hR => ?_   -- r14
                  simp only [go_sem, hx]
                  try simp (disch := omega) only [wrapI]
                  refine hR _ _ ?_; clear hR R
                  try simp only [go_sem, hx]
                  refine ⟨j + 1, ?_, by (try simp only []); omega, ?_⟩
                  · refine Weak.trans (Weak.cutX 1 0 (by omega) (by omega) hcl (by simp only [go_sem]) (by simp only [go_sem] <;> omega)) ?_
                    simp only [go_sem]
                    exact Weak.eq (by first | rfl | (simp only [go_sem]; done) | (simp only [go_sem]; rfl) | (simp [go_sem]; done) | (simp [go_sem]; omega)) (by first | rfl | (simp only [go_sem]; done) | (simp [go_sem]; done))
                  · try dsimp only
                    exact ⟨hi', by rw [hst]; simp [*]⟩
            · try simp only [Bool.not_eq_true', Bool.not_eq_false'] at g1
              have n1 := g1; try simp only [nrm] at n1
              simp only [go_sem, hx, g1]
              try simp (disch := omega) only [wrapI]
              refine hR _ _ (kq25 _ _ ?_); clear hR R; try clear kq25 kz25
              try simp only [go_sem, hx]
              refine W_cond_true rfl ?_
              refine W_seq fun kz29 kq29 => ?_
              refine W_region [2] fun R hR => ?_   -- r17
              simp only [go_sem, hx]
              refine hR _ _ (kq29 _ _ ?_); clear hR R; try clear kq29 kz29
              try simp only [go_sem, hx]
              refine W_ret ?_
              simp only [go_sem, hx]
              refine ⟨.inr (by trivial), ?_⟩
              first | refine Fin_same hcl rfl (Wk_eq ?_ (by simp only [go_sem])) | refine Fin_self hcl rfl (Wk_eq ?_ (by simp only [go_sem]))
              try simp only [go_sem]
              all_goals
                rw [hq, hst]; simp [*]
          · -- c6 false
            try simp only [nrm] at c6
            have hdrop : t.streets.drop j = [] := List.drop_eq_nil_of_le (by omega)
            rw [hdrop] at hst
            simp only [chkStreets] at hst
            rw [hst, if_neg (by simp)] at hq
            refine W_exit ?_
            simp only [go_sem]
            refine kq18 _ _ ?_
            refine W_seq fun kz30 kq30 => ?_
            refine W_seq fun kz31 kq31 => ?_
            refine W_region [1, 72] fun R hR => ?_   -- r20
            simp only [go_sem]
            refine GCall_of (rin6_pc Y _ t.steps 0 96) ?_   -- t71
            simp only [go_sem]
            refine hR _ _ (kq31 _ _ ?_); clear hR R; try clear kq31 kz31
            try simp only [go_sem]
            refine W_cond rfl (fun c9 => ?_) (fun c9 => ?_)
            · -- c9 true
              try simp only [nrm] at c9
              refine W_seq fun kz32 kq32 => ?_
              refine W_region [2] fun R hR => ?_   -- r21
              simp only [go_sem]
              refine hR _ _ (kq32 _ _ ?_); clear hR R; try clear kq32 kz32
              try simp only [go_sem]
              refine W_ret ?_
              simp only [go_sem]
              refine ⟨.inr (by trivial), ?_⟩
              first | refine Fin_same hcl rfl (Wk_eq ?_ (by simp only [go_sem])) | refine Fin_self hcl rfl (Wk_eq ?_ (by simp only [go_sem]))
              try simp only [go_sem]
              all_goals
                rw [hq]; simp [*]
            · -- c9 false
              try simp only [nrm] at c9
              refine W_skip (kq30 _ _ ?_)
              refine W_seq fun kz33 kq33 => ?_
              refine W_seq fun kz34 kq34 => ?_
              refine W_region [1, 76] fun R hR => ?_   -- r22
              simp only [go_sem]
              refine hR _ _ (kq34 _ _ ?_); clear hR R; try clear kq34 kz34
              try simp only [go_sem]
              refine W_cond rfl (fun c10 => ?_) (fun c10 => ?_)
              · -- c10 true
                try simp only [nrm] at c10
                refine W_seq fun kz35 kq35 => ?_
                refine W_region [2] fun R hR => ?_   -- r23
                simp only [go_sem]
                refine hR _ _ (kq35 _ _ ?_); clear hR R; try clear kq35 kz35
                try simp only [go_sem]
                refine W_ret ?_
                simp only [go_sem]
                refine ⟨.inr (by trivial), ?_⟩
                first | refine Fin_same hcl rfl (Wk_eq ?_ (by simp only [go_sem])) | refine Fin_self hcl rfl (Wk_eq ?_ (by simp only [go_sem]))
                try simp only [go_sem]
                all_goals
                  rw [hq]; have d5 : t.groups.length > 12 := by omega
                  simp [*]
              · -- c10 false
                try simp only [nrm] at c10
                refine W_skip (kq33 _ _ ?_)
                refine W_seq fun kz36 kq36 => ?_
                refine W_seq fun kz37 kq37 => ?_
                refine W_region [1, 6] fun R hR => ?_   -- r24
                simp only [go_sem]
                refine hR _ _ (kq37 _ _ ?_); clear hR R; try clear kq37 kz37
                try simp only [go_sem]
                refine W_block ?_
                refine W_loopS (α := Nat) (fun (k : Nat) => [(6, I k)]) (fun (k : Nat) => k ≤ t.groups.length ∧ res = chkGroups t (t.groups.drop k)) (fun (k : Nat) => t.groups.length - k) (0) rfl (⟨Nat.zero_le _, by have d6 : ¬ t.groups.length > 12 := (by omega); rw [hq]; simp [*]⟩) ?_
                rintro k ⟨hk, hgr⟩
                refine W_seq fun kz38 kq38 => ?_
                refine W_seq fun kz39 kq39 => ?_
                refine W_region [1, 6, 81] fun R hR => ?_   -- r25
                simp only [go_sem]
                refine hR _ _ (kq39 _ _ ?_); clear hR R; try clear kq39 kz39
                try simp only [go_sem]
                refine W_cond rfl (fun c11 => ?_) (fun c11 => ?_)
                · -- c11 true
                  try simp only [nrm] at c11
                  have hi' : k < t.groups.length := by first | assumption | omega
                  obtain ⟨g, hx⟩ : ∃ g, t.groups[k]? = some g := ⟨t.groups[k], by simp [hi']⟩
                  have hdrop : t.groups.drop k = g :: t.groups.drop (k + 1) := by
                    rw [List.drop_eq_getElem_cons hi']; congr 1; exact (List.getElem?_eq_some_iff.1 hx).2
                  rw [hdrop] at hgr
                  simp only [chkGroups] at hgr
                  refine W_skip (kq38 _ _ ?_)
                  refine W_seq fun kz40 kq40 => ?_
                  refine W_block ?_
                  refine W_seq fun kz41 kq41 => ?_
                  refine W_draw [1, 6, 7] [0, 1, 2, 3, 4, 5, 6, 7] [] [[], [], [1], [], [1, 2, 3], [1, 2, 3, 4], [0, 1, 2, 3, 4, 5], [0, 1, 2, 3, 4, 5, 6]] mixed (by kernel_rfl) fun R hR => ?_   -- r27
                  simp only [go_sem, hx]
                  refine GCall_of (rgroup_pc Y _ t g hr hs (hp g (List.mem_of_getElem? hx))) ?_   -- t90
                  simp only [go_sem, hx]
                  refine hR _ _ (kq41 _ _ ?_); clear hR R; try clear kq41 kz41
                  try simp only [go_sem, hx]
                  refine W_seq fun kz42 kq42 => ?_
                  refine W_region [1, 6, 7, 92] fun R hR => ?_   -- r28
                  simp only [go_sem, hx]
                  refine hR _ _ (kq42 _ _ ?_); clear hR R; try clear kq42 kz42
                  try simp only [go_sem, hx]
                  refine W_cond rfl (fun c12 => ?_) (fun c12 => ?_)
                  · -- c12 true
                    try simp only [nrm] at c12
                    refine W_seq fun kz43 kq43 => ?_
                    refine W_region [2] fun R hR => ?_   -- r29
                    simp only [go_sem, hx]
                    refine hR _ _ (kq43 _ _ ?_); clear hR R; try clear kq43 kz43
                    try simp only [go_sem, hx]
                    refine W_ret ?_
                    simp only [go_sem, hx]
                    refine ⟨.inr (by trivial), ?_⟩
                    first | refine Fin_same hcl rfl (Wk_eq ?_ (by simp only [go_sem])) | refine Fin_self hcl rfl (Wk_eq ?_ (by simp only [go_sem]))
                    try simp only [go_sem]
                    all_goals
                      rw [hgr]; simp [*]
                  · -- c12 false
                    try simp only [nrm] at c12
                    refine W_skip (kq40 _ _ ?_)
                    refine W_region [1, 6] fun R hR => ?_   -- r26
                    simp only [go_sem, hx]
                    try simp (disch := omega) only [wrapI]
                    refine hR _ _ ?_; clear hR R
                    try simp only [go_sem, hx]
                    refine ⟨k + 1, ?_, by (try simp only []); omega, ?_⟩
                    · first | exact Weak.refl | exact Weak.eq (by first | rfl | (simp only [go_sem]; done) | (simp only [go_sem]; rfl) | (simp [go_sem]; done) | (simp [go_sem]; omega)) (by first | rfl | (simp only [go_sem]; done) | (simp [go_sem]; done))
                    · try dsimp only
                      exact ⟨hi', by rw [hgr]; simp [*]⟩
                · -- c11 false
                  try simp only [nrm] at c11
                  have hdrop : t.groups.drop k = [] := List.drop_eq_nil_of_le (by omega)
                  rw [hdrop] at hgr
                  simp only [chkGroups] at hgr
                  refine W_exit ?_
                  simp only [go_sem]
                  refine kq36 _ _ ?_
                  refine W_seq fun kz44 kq44 => ?_
                  refine W_region [2] fun R hR => ?_   -- r30
                  simp only [go_sem]
                  refine hR _ _ (kq44 _ _ ?_); clear hR R; try clear kq44 kz44
                  try simp only [go_sem]
                  refine W_ret ?_
                  simp only [go_sem]
                  refine ⟨.inr (by trivial), ?_⟩
                  first | refine Fin_same hcl rfl (Wk_eq ?_ (by simp only [go_sem])) | refine Fin_self hcl rfl (Wk_eq ?_ (by simp only [go_sem]))
                  try simp only [go_sem]
                  all_goals
                    rw [hgr]

end Go.Proofs.Ytnpamcpoaklgeaa

namespace Go.Proofs.Ytnpamcpoaklgeaa
open Go Go.RowKit
set_option maxRecDepth 100000

theorem any_take {q : Int → Bool} {l : List Int} {i : Nat} {x : Int} (h : l[i]? = some x) : (l.take (i + 1)).any q = ((l.take i).any q || q x) := by
  rw [List.take_add_one, h]; simp
theorem any_of {q : Int → Bool} {l : List Int} {i : Nat} {x : Int} (h : l[i]? = some x) (hq : q x = true) : l.any q = true :=
  List.any_eq_true.2 ⟨x, List.mem_of_getElem? h, hq⟩
theorem walkSq_ok (st : List (Int × Int)) : ∀ (l : List Int) (a : Int) (out : List Int), (walkSq st l a out).2 = 0 → (walkSq st l a out).1.length = out.length + l.length := by
  intro l
  induction l with
  | nil => intro a out _; simp [walkSq]
  | cons n r ih =>
    intro a out
    simp only [walkSq]
    split
    · simp
    · split
      · simp
      · rename_i s _
        split
        · intro h; have := ih s.2 (out ++ [s.2]) h; simp at this ⊢; omega
        · split
          · intro h; have := ih s.1 (out ++ [s.1]) h; simp at this ⊢; omega
          · simp
theorem sqs_ok {c : City} {b : Band} (h : (sqs c b).2 = 0) : (sqs c b).1.length = b.path.length + 1 := by
  unfold sqs at h ⊢
  split
  · simp_all
  · split
    · simp_all
    · rename_i h1 h2
      rw [if_neg h1, if_neg h2] at h
      have := walkSq_ok _ _ _ _ h
      simp at this; omega

set_option maxHeartbeats 2000000 in
theorem rcheck_pc (Y : YEnv) (σ : Sg) (ct : City) (hc : ct.Ok) :
    PC Try.prog Y 54 [ctPV ct] σ (I (chkCity ct)) (σ) := by
  refine PC_of_W Try.func54 rfl (by kernel_rfl) Try.ntmps54 (by simp) fun hcl hca => ?_
  have hsl := hc.hsl
  refine W_seq fun kz1 kq1 => ?_
  refine W_region [1] fun R hR => ?_   -- r0
  simp only [go_sem]
  refine hR _ _ (kq1 _ _ ?_); clear hR R; try clear kq1 kz1
  try simp only [go_sem]
  refine W_seq fun kz2 kq2 => ?_
  refine W_seq fun kz3 kq3 => ?_
  refine W_region [1, 3] fun R hR => ?_   -- r1
  simp only [go_sem]
  refine GCall_of (rtown_pc Y _ ct.town hc.hr hc.hs hc.hg hc.hp) ?_   -- t7
  simp only [go_sem]
  refine hR _ _ (kq3 _ _ ?_); clear hR R; try clear kq3 kz3
  try simp only [go_sem]
  refine W_seq fun kz4 kq4 => ?_
  refine W_region [1, 3, 9] fun R hR => ?_   -- r2
  simp only [go_sem]
  refine hR _ _ (kq4 _ _ ?_); clear hR R; try clear kq4 kz4
  try simp only [go_sem]
  refine W_cond rfl (fun c1 => ?_) (fun c1 => ?_)
  · -- c1 true
    try simp only [nrm] at c1
    refine W_seq fun kz5 kq5 => ?_
    refine W_region [2] fun R hR => ?_   -- r3
    simp only [go_sem]
    refine hR _ _ (kq5 _ _ ?_); clear hR R; try clear kq5 kz5
    try simp only [go_sem]
    refine W_ret ?_
    simp only [go_sem]
    refine ⟨.inr (by trivial), ?_⟩
    first | refine Fin_same hcl rfl (Wk_eq ?_ (by simp only [go_sem])) | refine Fin_self hcl rfl (Wk_eq ?_ (by simp only [go_sem]))
    try simp only [go_sem]
    all_goals
      simp [chkCity, *]
  · -- c1 false
    try simp only [nrm] at c1
    refine W_skip (kq2 _ _ ?_)
    refine W_seq fun kz6 kq6 => ?_
    refine W_seq fun kz7 kq7 => ?_
    refine W_region [1, 14] fun R hR => ?_   -- r4
    simp only [go_sem]
    refine GCall_of (rin_pc Y _ ct.brk 0 120) ?_   -- t13
    simp only [go_sem]
    refine hR _ _ (kq7 _ _ ?_); clear hR R; try clear kq7 kz7
    try simp only [go_sem]
    refine W_cond rfl (fun c2 => ?_) (fun c2 => ?_)
    · -- c2 true
      try simp only [nrm] at c2
      refine W_seq fun kz8 kq8 => ?_
      refine W_region [2] fun R hR => ?_   -- r5
      simp only [go_sem]
      refine hR _ _ (kq8 _ _ ?_); clear hR R; try clear kq8 kz8
      try simp only [go_sem]
      refine W_ret ?_
      simp only [go_sem]
      refine ⟨.inr (by trivial), ?_⟩
      first | refine Fin_same hcl rfl (Wk_eq ?_ (by simp only [go_sem])) | refine Fin_self hcl rfl (Wk_eq ?_ (by simp only [go_sem]))
      try simp only [go_sem]
      all_goals
        simp [chkCity, *]
    · -- c2 false
      try simp only [nrm] at c2
      refine W_skip (kq6 _ _ ?_)
      refine W_seq fun kz9 kq9 => ?_
      refine W_seq fun kz10 kq10 => ?_
      refine W_region [1, 22] fun R hR => ?_   -- r6
      simp only [go_sem]
      refine hR _ _ (kq10 _ _ ?_); clear hR R; try clear kq10 kz10
      try simp only [go_sem]
      refine W_cond rfl (fun c3 => ?_) (fun c3 => ?_)
      · -- c3 true
        try simp only [nrm] at c3
        refine W_seq fun kz11 kq11 => ?_
        refine W_region [2] fun R hR => ?_   -- r7
        simp only [go_sem]
        refine hR _ _ (kq11 _ _ ?_); clear hR R; try clear kq11 kz11
        try simp only [go_sem]
        refine W_ret ?_
        simp only [go_sem]
        refine ⟨.inr (by trivial), ?_⟩
        first | refine Fin_same hcl rfl (Wk_eq ?_ (by simp only [go_sem])) | refine Fin_self hcl rfl (Wk_eq ?_ (by simp only [go_sem]))
        try simp only [go_sem]
        all_goals
          simp [chkCity, *]
      · -- c3 false
        try simp only [nrm] at c3
        refine W_skip (kq9 _ _ ?_)
        refine W_seq fun kz12 kq12 => ?_
        refine W_seq fun kz13 kq13 => ?_
        refine W_region [1, 4] fun R hR => ?_   -- r8
        simp only [go_sem]
        refine hR _ _ (kq13 _ _ ?_); clear hR R; try clear kq13 kz13
        try simp only [go_sem]
        refine W_block ?_
        refine W_loopS (α := Nat) (fun (i : Nat) => [(4, I i)]) (fun (i : Nat) => i ≤ ct.sleep.length ∧ (ct.sleep.take i).any (fun n => !(inR n 0 720)) = false) (fun (i : Nat) => ct.sleep.length - i) (0) rfl (⟨Nat.zero_le _, rfl⟩) ?_
        rintro i ⟨hi, hall⟩
        refine W_seq fun kz14 kq14 => ?_
        refine W_seq fun kz15 kq15 => ?_
        refine W_region [1, 4, 27] fun R hR => ?_   -- r9
        simp only [go_sem]
        refine hR _ _ (kq15 _ _ ?_); clear hR R; try clear kq15 kz15
        try simp only [go_sem]
        refine W_cond rfl (fun c4 => ?_) (fun c4 => ?_)
        · -- c4 true
          try simp only [nrm] at c4
          have hi' : i < ct.sleep.length := by first | assumption | omega
          obtain ⟨x, hx⟩ : ∃ x, ct.sleep[i]? = some x := ⟨ct.sleep[i], by simp [hi']⟩
          have hdrop : ct.sleep.drop i = x :: ct.sleep.drop (i + 1) := by
            rw [List.drop_eq_getElem_cons hi']; congr 1; exact (List.getElem?_eq_some_iff.1 hx).2
          refine W_skip (kq14 _ _ ?_)
          refine W_seq fun kz16 kq16 => ?_
          refine W_block ?_
          refine W_seq fun kz17 kq17 => ?_
          refine W_region [1, 4, 36] fun R hR => ?_   -- r11
          simp only [go_sem, hx]
          refine GCall_of (rin_pc Y _ x 0 720) ?_   -- t35
          simp only [go_sem, hx]
          refine hR _ _ (kq17 _ _ ?_); clear hR R; try clear kq17 kz17
          try simp only [go_sem, hx]
          refine W_cond rfl (fun c5 => ?_) (fun c5 => ?_)
          · -- c5 true
            try simp only [nrm] at c5
            refine W_seq fun kz18 kq18 => ?_
            refine W_region [2] fun R hR => ?_   -- r12
            simp only [go_sem, hx]
            refine hR _ _ (kq18 _ _ ?_); clear hR R; try clear kq18 kz18
            try simp only [go_sem, hx]
            refine W_ret ?_
            simp only [go_sem, hx]
            refine ⟨.inr (by trivial), ?_⟩
            first | refine Fin_same hcl rfl (Wk_eq ?_ (by simp only [go_sem])) | refine Fin_self hcl rfl (Wk_eq ?_ (by simp only [go_sem]))
            try simp only [go_sem]
            all_goals
              have hany : ct.sleep.any (fun n => !(inR n 0 720)) = true := any_of hx (by simp [c5])
              unfold chkCity
              rw [if_neg (by simp [c1]), if_neg (by simp [c2]), if_neg (by simp [c3]), if_pos hany]
          · -- c5 false
            try simp only [nrm] at c5
            refine W_skip (kq16 _ _ ?_)
            refine W_region [1, 4] fun R hR => ?_   -- r10
            simp only [go_sem, hx]
            try simp (disch := omega) only [wrapI]
            refine hR _ _ ?_; clear hR R
            try simp only [go_sem, hx]
            refine ⟨i + 1, ?_, by (try simp only []); omega, ?_⟩
            · first | exact Weak.refl | exact Weak.eq (by first | rfl | (simp only [go_sem]; done) | (simp only [go_sem]; rfl) | (simp [go_sem]; done) | (simp [go_sem]; omega)) (by first | rfl | (simp only [go_sem]; done) | (simp [go_sem]; done))
            · try dsimp only
              exact ⟨hi', by rw [any_take hx, hall, c5]; rfl⟩
        · -- c4 false
          try simp only [nrm] at c4
          have hie : i = ct.sleep.length := by omega
          subst hie
          rw [List.take_length] at hall
          refine W_exit ?_
          simp only [go_sem]
          refine kq12 _ _ ?_
          refine W_seq fun kz19 kq19 => ?_
          refine W_region [2] fun R hR => ?_   -- r13
          simp only [go_sem]
          refine hR _ _ (kq19 _ _ ?_); clear hR R; try clear kq19 kz19
          try simp only [go_sem]
          refine W_ret ?_
          simp only [go_sem]
          refine ⟨.inr (by trivial), ?_⟩
          first | refine Fin_same hcl rfl (Wk_eq ?_ (by simp only [go_sem])) | refine Fin_self hcl rfl (Wk_eq ?_ (by simp only [go_sem]))
          try simp only [go_sem]
          all_goals
            unfold chkCity
            rw [if_neg (by simp [c1]), if_neg (by simp [c2]), if_neg (by simp [c3]), if_neg (by rw [hall]; simp)]
set_option maxHeartbeats 2000000 in
theorem rsquares_pc (Y : YEnv) (σ : Sg) (ct : City) (b : Band) (hc : ct.Ok) (hb : b.path.length < 2 ^ 50) :
    PC Try.prog Y 75 [ctPV ct, bdPV b] σ (sqPV (sqs ct b)) (σ) := by
  refine PC_of_W Try.func75 rfl (by kernel_rfl) Try.ntmps75 (by simp) fun hcl hca => ?_
  have hr := hc.hr
  have hs := hc.hs
  obtain ⟨res, hres⟩ : ∃ r, sqs ct b = r := ⟨_, rfl⟩
  rw [hres]
  refine W_seq fun kz1 kq1 => ?_
  refine W_region [2, 3] fun R hR => ?_   -- r0
  simp only [go_sem]
  refine hR _ _ (kq1 _ _ ?_); clear hR R; try clear kq1 kz1
  try simp only [go_sem]
  refine W_seq fun kz2 kq2 => ?_
  refine W_seq fun kz3 kq3 => ?_
  refine W_region [2, 3, 18] fun R hR => ?_   -- r1
  simp only [go_sem]
  try simp (disch := omega) only [wrapI]
  refine GCall_of (rin_pc Y _ b.first 0 _) ?_   -- t17
  simp only [go_sem]
  try simp (disch := omega) only [wrapI]
  refine hR _ _ (kq3 _ _ ?_); clear hR R; try clear kq3 kz3
  try simp only [go_sem]
  refine W_cond rfl (fun c1 => ?_) (fun c1 => ?_)
  · -- c1 true
    try simp only [nrm] at c1
    refine W_seq fun kz4 kq4 => ?_
    refine W_region [4, 5] fun R hR => ?_   -- r2
    simp only [go_sem]
    refine hR _ _ (kq4 _ _ ?_); clear hR R; try clear kq4 kz4
    try simp only [go_sem]
    refine W_ret ?_
    simp only [go_sem]
    refine ⟨.inr (by trivial), ?_⟩
    refine Fin_same hcl rfl (Wk.ro (by simp only [go_sem]) ?_)
    try simp only [go_sem]
    all_goals
      first | rfl | (simp_all; done) | (simp_all; omega) | (rw [← hres]; simp only [sqs]; (repeat' split) <;> ((first | rfl | omega | (simp_all; done) | (simp_all; omega))))
  · -- c1 false
    try simp only [nrm] at c1
    refine W_skip (kq2 _ _ ?_)
    refine W_seq fun kz5 kq5 => ?_
    refine W_seq fun kz6 kq6 => ?_
    refine W_region [2, 3, 22] fun R hR => ?_   -- r3
    simp only [go_sem]
    refine hR _ _ (kq6 _ _ ?_); clear hR R; try clear kq6 kz6
    try simp only [go_sem]
    refine W_cond rfl (fun c2 => ?_) (fun c2 => ?_)
    · -- c2 true
      try simp only [nrm] at c2
      refine W_seq fun kz7 kq7 => ?_
      refine W_region [4, 5] fun R hR => ?_   -- r4
      simp only [go_sem]
      refine hR _ _ (kq7 _ _ ?_); clear hR R; try clear kq7 kz7
      try simp only [go_sem]
      refine W_ret ?_
      simp only [go_sem]
      refine ⟨.inr (by trivial), ?_⟩
      refine Fin_same hcl rfl (Wk.ro (by simp only [go_sem]) ?_)
      try simp only [go_sem]
      all_goals
        first | rfl | (simp_all; done) | (simp_all; omega) | (rw [← hres]; simp only [sqs]; (repeat' split) <;> ((first | rfl | omega | (simp_all; done) | (simp_all; omega))))
    · -- c2 false
      try simp only [nrm] at c2
      refine W_skip (kq5 _ _ ?_)
      refine W_seq fun kz8 kq8 => ?_
      refine W_region [2, 3, 6] fun R hR => ?_   -- r5
      simp only [go_sem]
      refine hR _ _ (kq8 _ _ ?_); clear hR R; try clear kq8 kz8
      try simp only [go_sem]
      refine W_seq fun kz9 kq9 => ?_
      refine W_region [2, 3, 6, 7] fun R hR => ?_   -- r6
      simp only [go_sem]
      refine hR _ _ (kq9 _ _ ?_); clear hR R; try clear kq9 kz9
      try simp only [go_sem]
      refine W_seq fun kz10 kq10 => ?_
      refine W_seq fun kz11 kq11 => ?_
      refine W_region [2, 3, 6, 7, 8] fun R hR => ?_   -- r7
      simp only [go_sem]
      refine hR _ _ (kq11 _ _ ?_); clear hR R; try clear kq11 kz11
      try simp only [go_sem]
      refine W_block ?_
      refine W_weak (Weak.room (t := 7) (es := 1) rfl (by simp)) ?_
      refine W_weak (Weak.keep [2, 3, 6, 7, 8]) ?_
      simp only [go_sem]
      refine W_loopT (α := Nat × Int × (List Int)) (fun ⟨i, at', out⟩ => [(6, I at'), (7, .isl (out.map I) (.tok σ.rooms.length out.length 1)), (8, I i)]) (fun ⟨i, at', out⟩ => σ.ext [some (ctCells ct), some (bdCells b)] [out.length]) (fun ⟨i, at', out⟩ => i ≤ b.path.length ∧ out.length = i + 1 ∧ res = walkSq ct.town.streets (b.path.drop i) at' out) (fun ⟨i, at', out⟩ => b.path.length - i) ((0, b.first, [b.first])) rfl (by first | rfl | (simp only [go_sem]; done) | (simp only [go_sem]; rfl)) (⟨Nat.zero_le _, rfl, by rw [← hres]; simp only [sqs]; simp [c1, c2]⟩) ?_
      rintro ⟨i, at', out⟩ ⟨hi, ho, hinv⟩
      refine W_seq fun kz12 kq12 => ?_
      refine W_seq fun kz13 kq13 => ?_
      refine W_region [2, 3, 6, 7, 8, 31] fun R hR => ?_   -- r8
      simp only [go_sem]
      refine hR _ _ (kq13 _ _ ?_); clear hR R; try clear kq13 kz13
      try simp only [go_sem]
      refine W_cond rfl (fun c3 => ?_) (fun c3 => ?_)
      · -- c3 true
        try simp only [nrm] at c3
        have hi' : i < b.path.length := by first | assumption | omega
        obtain ⟨x, hx⟩ : ∃ x, b.path[i]? = some x := ⟨b.path[i], by simp [hi']⟩
        have hdrop : b.path.drop i = x :: b.path.drop (i + 1) := by
          rw [List.drop_eq_getElem_cons hi']; congr 1; exact (List.getElem?_eq_some_iff.1 hx).2
        rw [hdrop] at hinv
        simp only [walkSq] at hinv
        refine W_skip (kq12 _ _ ?_)
        refine W_seq fun kz14 kq14 => ?_
        refine W_block ?_
        refine W_seq fun kz15 kq15 => ?_
        refine W_seq fun kz16 kq16 => ?_
        refine W_draw [2, 3, 6, 7, 8, 45] [0, 1, 2, 3, 4, 5, 6, 7, 8, 9, 10, 11] [] [[], [0], [], [0, 1, 2], [0, 1, 2, 3], [], [5], [5, 6], [5, 6, 7], [5, 6, 7, 8], [0, 1, 2, 3, 4, 5, 6, 7, 8, 9], [0, 1, 2, 3, 4, 5, 6, 7, 8, 9, 10]] mixed (by kernel_rfl) fun R hR => ?_   -- r10
        simp only [go_sem, hx]
        try simp (disch := omega) only [wrapI]
        refine GCall_of (rin_pc Y _ x 0 _) ?_   -- t44
        simp only [go_sem, hx]
        try simp (disch := omega) only [wrapI]
        try refine And.intro (by repeat' (first | refine And.intro ?_ ?_ | exact GOr_right (fun _ => by simp only [go_sem, hx]))) ?_
        refine hR _ _ (kq16 _ _ ?_); clear hR R; try clear kq16 kz16
        try simp only [go_sem, hx]
        refine W_cond rfl (fun c4 => ?_) (fun c4 => ?_)
        · -- c4 true
          try simp only [nrm] at c4
          refine W_seq fun kz17 kq17 => ?_
          refine W_region [4, 5] fun R hR => ?_   -- r11
          simp only [go_sem, hx]
          refine hR _ _ (kq17 _ _ ?_); clear hR R; try clear kq17 kz17
          try simp only [go_sem, hx]
          refine W_ret ?_
          simp only [go_sem, hx]
          refine ⟨.inr (by trivial), ?_⟩
          refine Fin_same hcl rfl (Wk.ro (by simp only [go_sem]) ?_)
          try simp only [go_sem]
          all_goals
            first | rfl | (simp_all; done) | (simp_all; omega) | (rw [← hres]; simp only [sqs]; (repeat' split) <;> ((first | rfl | omega | (simp_all; done) | (simp_all; omega))))
        · -- c4 false
          try simp only [nrm] at c4
          have hin : 0 ≤ x ∧ x ≤ (ct.town.streets.length : Int) - 1 := by simpa [inR] using c4
          obtain ⟨n, rfl⟩ : ∃ n : Nat, x = (n : Int) := ⟨x.toNat, by omega⟩
          obtain ⟨s, hs'⟩ : ∃ s, ct.town.streets[n]? = some s := ⟨ct.town.streets[n]'(by omega), by simp⟩
          simp only [c4, Int.toNat_natCast, hs'] at hinv
          refine W_skip (kq15 _ _ ?_)
          refine W_seq fun kz18 kq18 => ?_
          refine W_seq fun kz19 kq19 => ?_
          refine W_draw [2, 3, 6, 7, 8, 9] [0, 1, 2, 3, 4, 5, 6, 7, 8, 9, 10, 11] [(0, 11), (1, 11), (2, 11), (3, 11), (4, 11), (5, 11), (6, 11), (7, 11), (8, 11), (9, 11)] [[], [0], [0, 1], [], [3], [], [3, 4, 5], [3, 4, 5, 6], [0, 1, 2, 3, 4, 5, 6, 7], [0, 1, 2, 3, 4, 5, 6, 7, 8], [], [0, 1, 2, 3, 4, 5, 6, 7, 8, 9, 10]] mixed (by kernel_rfl) fun R hR => ?_   -- r12
          simp only [go_sem, hx, hs']
          try refine And.intro (by repeat' (first | refine And.intro ?_ ?_ | exact GOr_right (fun _ => by simp only [go_sem, hx, hs']))) ?_
          refine hR _ _ (kq19 _ _ ?_); clear hR R; try clear kq19 kz19
          try simp only [go_sem, hx, hs']
          refine W_seq fun kz20 kq20 => ?_
          refine W_region [2, 3, 7, 8, 9, 56] fun R hR => ?_   -- r13
          simp only [go_sem, hx, hs']
          refine hR _ _ (kq20 _ _ ?_); clear hR R; try clear kq20 kz20
          try simp only [go_sem, hx, hs']
          refine W_block ?_
          refine W_seq fun kz21 kq21 => ?_
          refine W_region [2, 3, 7, 8, 9, 56, 57] fun R hR => ?_   -- r15
          simp only [go_sem, hx, hs']
          refine hR _ _ (kq21 _ _ ?_); clear hR R; try clear kq21 kz21
          try simp only [go_sem, hx, hs']
          refine W_cond rfl (fun c5 => ?_) (fun c5 => ?_)
          · -- c5 true
            try simp only [nrm] at c5
            refine W_region [2, 3, 6, 7, 8] fun R hR => ?_   -- r16
            simp only [go_sem, hx, hs']
            refine hR _ _ (kq18 _ _ ?_); clear hR R; try clear kq18 kz18
            try simp only [go_sem, hx, hs']
            refine W_region [2, 3, 6, 7, 8] fun R hR => ?_   -- r19
            simp only [go_sem, hx, hs']
            simp (disch := first | omega | (simp only [go_sem] <;> omega)) only [wrapI, appX_exact, appX_tok]
            try simp only [go_sem, hx, hs']
            refine hR _ _ (kq14 _ _ ?_); clear hR R; try clear kq14 kz14
            try simp only [go_sem, hx, hs']
            refine W_region [2, 3, 6, 7, 8] fun R hR => ?_   -- r9
            simp only [go_sem, hx, hs']
            try simp (disch := omega) only [wrapI]
            refine hR _ _ ?_; clear hR R
            try simp only [go_sem, hx, hs']
            refine ⟨(i + 1, s.2, out ++ [s.2]), ?_, by (try simp only []); omega, ?_⟩
            · refine Weak.trans (Weak.cutX 2 1 (by omega) (by omega) hcl (by simp only [go_sem]) (by simp only [go_sem] <;> omega)) ?_
              simp only [go_sem]
              exact Weak.eq (by first | rfl | (simp only [go_sem]; done) | (simp only [go_sem]; rfl) | (simp [go_sem]; done) | (simp [go_sem]; omega)) (by first | rfl | (simp only [go_sem]; done) | (simp [go_sem]; done))
            · try dsimp only
              exact ⟨hi', by simp; omega, by simp_all⟩
          · -- c5 false
            try simp only [nrm] at c5
            refine W_seq fun kz22 kq22 => ?_
            refine W_region [2, 3, 7, 8, 9, 63] fun R hR => ?_   -- r17
            simp only [go_sem, hx, hs']
            refine hR _ _ (kq22 _ _ ?_); clear hR R; try clear kq22 kz22
            try simp only [go_sem, hx, hs']
            refine W_cond rfl (fun c6 => ?_) (fun c6 => ?_)
            · -- c6 true
              try simp only [nrm] at c6
              refine W_region [2, 3, 6, 7, 8] fun R hR => ?_   -- r18
              simp only [go_sem, hx, hs']
              refine hR _ _ (kq18 _ _ ?_); clear hR R; try clear kq18 kz18
              try simp only [go_sem, hx, hs']
              refine W_region [2, 3, 6, 7, 8] fun R hR => ?_   -- r19
              simp only [go_sem, hx, hs']
              simp (disch := first | omega | (simp only [go_sem] <;> omega)) only [wrapI, appX_exact, appX_tok]
              try simp only [go_sem, hx, hs']
              refine hR _ _ (kq14 _ _ ?_); clear hR R; try clear kq14 kz14
              try simp only [go_sem, hx, hs']
              refine W_region [2, 3, 6, 7, 8] fun R hR => ?_   -- r9
              simp only [go_sem, hx, hs']
              try simp (disch := omega) only [wrapI]
              refine hR _ _ ?_; clear hR R
              try simp only [go_sem, hx, hs']
              refine ⟨(i + 1, s.1, out ++ [s.1]), ?_, by (try simp only []); omega, ?_⟩
              · refine Weak.trans (Weak.cutX 2 1 (by omega) (by omega) hcl (by simp only [go_sem]) (by simp only [go_sem] <;> omega)) ?_
                simp only [go_sem]
                exact Weak.eq (by first | rfl | (simp only [go_sem]; done) | (simp only [go_sem]; rfl) | (simp [go_sem]; done) | (simp [go_sem]; omega)) (by first | rfl | (simp only [go_sem]; done) | (simp [go_sem]; done))
              · try dsimp only
                exact ⟨hi', by simp; omega, by simp_all⟩
            · -- c6 false
              try simp only [nrm] at c6
              refine W_seq fun kz23 kq23 => ?_
              refine W_region [4, 5] fun R hR => ?_   -- r14
              simp only [go_sem, hx, hs']
              refine hR _ _ (kq23 _ _ ?_); clear hR R; try clear kq23 kz23
              try simp only [go_sem, hx, hs']
              refine W_ret ?_
              simp only [go_sem, hx, hs']
              refine ⟨.inr (by trivial), ?_⟩
              refine Fin_same hcl rfl (Wk.ro (by simp only [go_sem]) ?_)
              try simp only [go_sem]
              all_goals
                first | rfl | (simp_all; done) | (simp_all; omega) | (rw [← hres]; simp only [sqs]; (repeat' split) <;> ((first | rfl | omega | (simp_all; done) | (simp_all; omega))))
      · -- c3 false
        try simp only [nrm] at c3
        have hdrop : b.path.drop i = [] := List.drop_eq_nil_of_le (by omega)
        rw [hdrop] at hinv
        simp only [walkSq] at hinv
        refine W_exit ?_
        simp only [go_sem]
        refine kq10 _ _ ?_
        refine W_seq fun kz24 kq24 => ?_
        refine W_region [4, 5] fun R hR => ?_   -- r20
        simp only [go_sem]
        refine hR _ _ (kq24 _ _ ?_); clear hR R; try clear kq24 kz24
        try simp only [go_sem]
        refine W_ret ?_
        simp only [go_sem]
        refine ⟨.inr (by trivial), ?_⟩
        refine Fin_same hcl rfl (Wk.ro (by simp only [go_sem]) ?_)
        try simp only [go_sem]
        all_goals
          first | rfl | (simp_all; done) | (simp_all; omega) | (rw [← hres]; simp only [sqs]; (repeat' split) <;> ((first | rfl | omega | (simp_all; done) | (simp_all; omega))))
set_option maxHeartbeats 2000000 in
theorem rcheckBand_pc (Y : YEnv) (σ : Sg) (ct : City) (b : Band) (hc : ct.Ok) (hb : b.path.length < 2 ^ 50) :
    PC Try.prog Y 100 [ctPV ct, bdPV b] σ (I (chkBand ct b)) (σ) := by
  refine PC_of_W Try.func100 rfl (by kernel_rfl) Try.ntmps100 (by simp) fun hcl hca => ?_
  refine W_seq fun kz1 kq1 => ?_
  refine W_region [2, 3] fun R hR => ?_   -- r0
  simp only [go_sem]
  refine hR _ _ (kq1 _ _ ?_); clear hR R; try clear kq1 kz1
  try simp only [go_sem]
  refine W_seq fun kz2 kq2 => ?_
  refine W_region [3, 5, 6] fun R hR => ?_   -- r1
  simp only [go_sem]
  refine GCall_of (rsquares_pc Y _ ct b hc hb) ?_   -- t10
  simp only [go_sem]
  refine hR _ _ (kq2 _ _ ?_); clear hR R; try clear kq2 kz2
  try simp only [go_sem]
  refine W_seq fun kz3 kq3 => ?_
  refine W_seq fun kz4 kq4 => ?_
  refine W_region [3, 5, 6, 14] fun R hR => ?_   -- r2
  simp only [go_sem]
  refine hR _ _ (kq4 _ _ ?_); clear hR R; try clear kq4 kz4
  try simp only [go_sem]
  refine W_cond rfl (fun c1 => ?_) (fun c1 => ?_)
  · -- c1 true
    try simp only [nrm] at c1
    refine W_seq fun kz5 kq5 => ?_
    refine W_region [4] fun R hR => ?_   -- r3
    simp only [go_sem]
    refine hR _ _ (kq5 _ _ ?_); clear hR R; try clear kq5 kz5
    try simp only [go_sem]
    refine W_ret ?_
    simp only [go_sem]
    refine ⟨.inr (by trivial), ?_⟩
    first | refine Fin_same hcl rfl (Wk_eq ?_ (by simp only [go_sem])) | refine Fin_self hcl rfl (Wk_eq ?_ (by simp only [go_sem]))
    try simp only [go_sem]
    all_goals
      simp [chkBand, timesOf, *]
  · -- c1 false
    try simp only [nrm] at c1
    have hln := sqs_ok c1
    refine W_skip (kq3 _ _ ?_)
    refine W_seq fun kz6 kq6 => ?_
    refine W_seq fun kz7 kq7 => ?_
    refine W_region [3, 5, 27] fun R hR => ?_   -- r4
    simp only [go_sem]
    refine GCall_of (rin_pc Y _ b.lo 0 720) ?_   -- t19
    simp only [go_sem]
    refine GWant_split (fun g1 => ?_) (fun g1 => ?_)
    · try simp only [Bool.not_eq_true', Bool.not_eq_false'] at g1
      have n1 := g1; try simp only [nrm] at n1
      simp only [go_sem, g1]
      refine GCall_of (rin_pc Y _ b.hi 0 720) ?_   -- t25
      simp only [go_sem, g1]
      refine hR _ _ (kq7 _ _ ?_); clear hR R; try clear kq7 kz7
      try simp only [go_sem]
      refine W_cond rfl (fun c2 => ?_) (fun c2 => ?_)
      · -- c2 true
        try simp only [nrm] at c2
        refine W_seq fun kz8 kq8 => ?_
        refine W_region [4] fun R hR => ?_   -- r5
        simp only [go_sem]
        refine hR _ _ (kq8 _ _ ?_); clear hR R; try clear kq8 kz8
        try simp only [go_sem]
        refine W_ret ?_
        simp only [go_sem]
        refine ⟨.inr (by trivial), ?_⟩
        first | refine Fin_same hcl rfl (Wk_eq ?_ (by simp only [go_sem])) | refine Fin_self hcl rfl (Wk_eq ?_ (by simp only [go_sem]))
        try simp only [go_sem]
        all_goals
          simp [chkBand, timesOf, *]
      · -- c2 false
        try simp only [nrm] at c2
        refine W_skip (kq6 _ _ ?_)
        refine W_seq fun kz9 kq9 => ?_
        refine W_seq fun kz10 kq10 => ?_
        refine W_region [3, 5, 34] fun R hR => ?_   -- r6
        simp only [go_sem]
        refine hR _ _ (kq10 _ _ ?_); clear hR R; try clear kq10 kz10
        try simp only [go_sem]
        refine W_cond rfl (fun c3 => ?_) (fun c3 => ?_)
        · -- c3 true
          try simp only [nrm] at c3
          refine W_seq fun kz11 kq11 => ?_
          refine W_region [4] fun R hR => ?_   -- r7
          simp only [go_sem]
          refine hR _ _ (kq11 _ _ ?_); clear hR R; try clear kq11 kz11
          try simp only [go_sem]
          refine W_ret ?_
          simp only [go_sem]
          refine ⟨.inr (by trivial), ?_⟩
          first | refine Fin_same hcl rfl (Wk_eq ?_ (by simp only [go_sem])) | refine Fin_self hcl rfl (Wk_eq ?_ (by simp only [go_sem]))
          try simp only [go_sem]
          all_goals
            simp [chkBand, timesOf, *]
        · -- c3 false
          try simp only [nrm] at c3
          refine W_skip (kq9 _ _ ?_)
          refine W_seq fun kz12 kq12 => ?_
          refine W_seq fun kz13 kq13 => ?_
          have d1 : inR b.lo 0 720 = true := by first | assumption | (simp_all; done)
          have d2 : inR b.hi 0 720 = true := by first | assumption | (simp_all; done)
          simp only [inR_true] at d1 d2
          refine W_region [3, 5, 54] fun R hR => ?_   -- r8
          simp only [go_sem]
          refine GWant_split (fun g2 => ?_) (fun g2 => ?_)
          · try simp only [Bool.not_eq_true', Bool.not_eq_false'] at g2
            have n2 := g2; try simp only [nrm] at n2
            try simp (disch := omega) only [wrapI] at n2
            simp only [go_sem, g2]
            try simp (disch := omega) only [wrapI]
            refine GCall_of (rin_pc Y _ b.stay 1 120) ?_   -- t46
            simp only [go_sem, g2]
            refine GWant_split (fun g3 => ?_) (fun g3 => ?_)
            · try simp only [Bool.not_eq_true', Bool.not_eq_false'] at g3
              have n3 := g3; try simp only [nrm] at n3
              try simp (disch := omega) only [wrapI] at n3
              simp only [go_sem, g2, g3]
              try simp (disch := omega) only [wrapI]
              refine GCall_of (rin_pc Y _ b.people 0 1000000) ?_   -- t52
              simp only [go_sem, g2, g3]
              try simp (disch := omega) only [wrapI]
              refine hR _ _ (kq13 _ _ ?_); clear hR R; try clear kq13 kz13
              try simp only [go_sem]
              refine W_cond rfl (fun c4 => ?_) (fun c4 => ?_)
              · -- c4 true
                try simp only [nrm] at c4
                refine W_seq fun kz14 kq14 => ?_
                refine W_region [4] fun R hR => ?_   -- r9
                simp only [go_sem]
                refine hR _ _ (kq14 _ _ ?_); clear hR R; try clear kq14 kz14
                try simp only [go_sem]
                refine W_ret ?_
                simp only [go_sem]
                refine ⟨.inr (by trivial), ?_⟩
                first | refine Fin_same hcl rfl (Wk_eq ?_ (by simp only [go_sem])) | refine Fin_self hcl rfl (Wk_eq ?_ (by simp only [go_sem]))
                try simp only [go_sem]
                all_goals
                  simp [chkBand, timesOf, *]
              · -- c4 false
                try simp only [nrm] at c4
                refine W_skip (kq12 _ _ ?_)
                refine W_seq fun kz15 kq15 => ?_
                refine W_seq fun kz16 kq16 => ?_
                have d3 : inR b.stay 1 120 = true := by first | assumption | (simp_all; done)
                simp only [inR_true] at d3
                have d4 := mul_bd (a := b.stay) (b := (b.path.length : Int) + 1) (A := 120) (B := 2 ^ 51) (by omega) (by omega) (by omega) (by omega)
                have d5 : ((sqs ct b).1.length : Int) * b.stay = b.stay * ((b.path.length : Int) + 1) := by rw [hln, Int.mul_comm]; rfl
                refine W_region [64] fun R hR => ?_   -- r10
                simp only [go_sem]
                try simp (disch := omega) only [wrapI]
                simp only [d5, wrapI (show -9223372036854775808 ≤ b.stay * ((b.path.length : Int) + 1) by omega) (by omega), wrapI (show -9223372036854775808 ≤ b.hi + b.stay * ((b.path.length : Int) + 1) by omega) (by omega)]
                refine hR _ _ (kq16 _ _ ?_); clear hR R; try clear kq16 kz16
                try simp only [go_sem]
                refine W_cond rfl (fun c5 => ?_) (fun c5 => ?_)
                · -- c5 true
                  try simp only [nrm] at c5
                  refine W_seq fun kz17 kq17 => ?_
                  refine W_region [4] fun R hR => ?_   -- r11
                  simp only [go_sem]
                  refine hR _ _ (kq17 _ _ ?_); clear hR R; try clear kq17 kz17
                  try simp only [go_sem]
                  refine W_ret ?_
                  simp only [go_sem]
                  refine ⟨.inr (by trivial), ?_⟩
                  first | refine Fin_same hcl rfl (Wk_eq ?_ (by simp only [go_sem])) | refine Fin_self hcl rfl (Wk_eq ?_ (by simp only [go_sem]))
                  try simp only [go_sem]
                  all_goals
                    simp [chkBand, timesOf, *]
                · -- c5 false
                  try simp only [nrm] at c5
                  refine W_skip (kq15 _ _ ?_)
                  refine W_seq fun kz18 kq18 => ?_
                  refine W_region [4] fun R hR => ?_   -- r12
                  simp only [go_sem]
                  refine hR _ _ (kq18 _ _ ?_); clear hR R; try clear kq18 kz18
                  try simp only [go_sem]
                  refine W_ret ?_
                  simp only [go_sem]
                  refine ⟨.inr (by trivial), ?_⟩
                  first | refine Fin_same hcl rfl (Wk_eq ?_ (by simp only [go_sem])) | refine Fin_self hcl rfl (Wk_eq ?_ (by simp only [go_sem]))
                  try simp only [go_sem]
                  all_goals
                    simp [chkBand, timesOf, *]
            · try simp only [Bool.not_eq_true', Bool.not_eq_false'] at g3
              have n3 := g3; try simp only [nrm] at n3
              try simp (disch := omega) only [wrapI] at n3
              simp only [go_sem, g2, g3]
              try simp (disch := omega) only [wrapI]
              refine hR _ _ (kq13 _ _ ?_); clear hR R; try clear kq13 kz13
              try simp only [go_sem]
              refine W_cond_true rfl ?_
              refine W_seq fun kz19 kq19 => ?_
              refine W_region [4] fun R hR => ?_   -- r9
              simp only [go_sem]
              refine hR _ _ (kq19 _ _ ?_); clear hR R; try clear kq19 kz19
              try simp only [go_sem]
              refine W_ret ?_
              simp only [go_sem]
              refine ⟨.inr (by trivial), ?_⟩
              first | refine Fin_same hcl rfl (Wk_eq ?_ (by simp only [go_sem])) | refine Fin_self hcl rfl (Wk_eq ?_ (by simp only [go_sem]))
              try simp only [go_sem]
              all_goals
                simp [chkBand, timesOf, *]
          · try simp only [Bool.not_eq_true', Bool.not_eq_false'] at g2
            have n2 := g2; try simp only [nrm] at n2
            try simp (disch := omega) only [wrapI] at n2
            simp only [go_sem, g2]
            try simp (disch := omega) only [wrapI]
            refine hR _ _ (kq13 _ _ ?_); clear hR R; try clear kq13 kz13
            try simp only [go_sem]
            refine W_cond_true rfl ?_
            refine W_seq fun kz20 kq20 => ?_
            refine W_region [4] fun R hR => ?_   -- r9
            simp only [go_sem]
            refine hR _ _ (kq20 _ _ ?_); clear hR R; try clear kq20 kz20
            try simp only [go_sem]
            refine W_ret ?_
            simp only [go_sem]
            refine ⟨.inr (by trivial), ?_⟩
            first | refine Fin_same hcl rfl (Wk_eq ?_ (by simp only [go_sem])) | refine Fin_self hcl rfl (Wk_eq ?_ (by simp only [go_sem]))
            try simp only [go_sem]
            all_goals
              simp [chkBand, timesOf, *]
    · try simp only [Bool.not_eq_true', Bool.not_eq_false'] at g1
      have n1 := g1; try simp only [nrm] at n1
      simp only [go_sem, g1]
      refine hR _ _ (kq7 _ _ ?_); clear hR R; try clear kq7 kz7
      try simp only [go_sem]
      refine W_cond_true rfl ?_
      refine W_seq fun kz21 kq21 => ?_
      refine W_region [4] fun R hR => ?_   -- r5
      simp only [go_sem]
      refine hR _ _ (kq21 _ _ ?_); clear hR R; try clear kq21 kz21
      try simp only [go_sem]
      refine W_ret ?_
      simp only [go_sem]
      refine ⟨.inr (by trivial), ?_⟩
      first | refine Fin_same hcl rfl (Wk_eq ?_ (by simp only [go_sem])) | refine Fin_self hcl rfl (Wk_eq ?_ (by simp only [go_sem]))
      try simp only [go_sem]
      all_goals
        simp [chkBand, timesOf, *]
set_option maxHeartbeats 2000000 in
theorem rcheckBands_pc (Y : YEnv) (σ : Sg) (ct : City) (l : List Band) (hc : ct.Ok) (hl : BandsOk l) :
    PC Try.prog Y 56 [ctPV ct, bands l] σ (I (chkAll ct l)) (σ) := by
  refine PC_of_W Try.func56 rfl (by kernel_rfl) Try.ntmps56 (by simp) fun hcl hca => ?_
  have hl1 := hl.1
  have hl2 := hl.2
  obtain ⟨res, hres⟩ : ∃ r, chkAll ct l = r := ⟨_, rfl⟩
  rw [hres]
  refine W_seq fun kz1 kq1 => ?_
  refine W_region [1, 2] fun R hR => ?_   -- r0
  simp only [go_sem]
  refine hR _ _ (kq1 _ _ ?_); clear hR R; try clear kq1 kz1
  try simp only [go_sem]
  refine W_seq fun kz2 kq2 => ?_
  refine W_seq fun kz3 kq3 => ?_
  refine W_region [1, 2, 5] fun R hR => ?_   -- r1
  simp only [go_sem]
  refine GCall_of (rcheck_pc Y _ ct hc) ?_   -- t9
  simp only [go_sem]
  refine hR _ _ (kq3 _ _ ?_); clear hR R; try clear kq3 kz3
  try simp only [go_sem]
  refine W_seq fun kz4 kq4 => ?_
  refine W_region [1, 2, 5, 11] fun R hR => ?_   -- r2
  simp only [go_sem]
  refine hR _ _ (kq4 _ _ ?_); clear hR R; try clear kq4 kz4
  try simp only [go_sem]
  refine W_cond rfl (fun c1 => ?_) (fun c1 => ?_)
  · -- c1 true
    try simp only [nrm] at c1
    refine W_seq fun kz5 kq5 => ?_
    refine W_region [4] fun R hR => ?_   -- r3
    simp only [go_sem]
    refine hR _ _ (kq5 _ _ ?_); clear hR R; try clear kq5 kz5
    try simp only [go_sem]
    refine W_ret ?_
    simp only [go_sem]
    refine ⟨.inr (by trivial), ?_⟩
    first | refine Fin_same hcl rfl (Wk_eq ?_ (by simp only [go_sem])) | refine Fin_self hcl rfl (Wk_eq ?_ (by simp only [go_sem]))
    try simp only [go_sem]
    all_goals
      first | rfl | (simp_all; done) | (simp_all; omega) | (rw [← hres]; simp only [chkAll]; (repeat' split) <;> ((first | rfl | omega | (simp_all; done) | (simp_all; omega))))
  · -- c1 false
    try simp only [nrm] at c1
    refine W_skip (kq2 _ _ ?_)
    refine W_seq fun kz6 kq6 => ?_
    refine W_seq fun kz7 kq7 => ?_
    refine W_region [1, 2, 15] fun R hR => ?_   -- r4
    simp only [go_sem]
    refine hR _ _ (kq7 _ _ ?_); clear hR R; try clear kq7 kz7
    try simp only [go_sem]
    refine W_cond rfl (fun c2 => ?_) (fun c2 => ?_)
    · -- c2 true
      try simp only [nrm] at c2
      refine W_seq fun kz8 kq8 => ?_
      refine W_region [4] fun R hR => ?_   -- r5
      simp only [go_sem]
      refine hR _ _ (kq8 _ _ ?_); clear hR R; try clear kq8 kz8
      try simp only [go_sem]
      refine W_ret ?_
      simp only [go_sem]
      refine ⟨.inr (by trivial), ?_⟩
      first | refine Fin_same hcl rfl (Wk_eq ?_ (by simp only [go_sem])) | refine Fin_self hcl rfl (Wk_eq ?_ (by simp only [go_sem]))
      try simp only [go_sem]
      all_goals
        first | rfl | (simp_all; done) | (simp_all; omega) | (rw [← hres]; simp only [chkAll]; (repeat' split) <;> ((first | rfl | omega | (simp_all; done) | (simp_all; omega))))
    · -- c2 false
      try simp only [nrm] at c2
      refine W_skip (kq6 _ _ ?_)
      refine W_seq fun kz9 kq9 => ?_
      refine W_seq fun kz10 kq10 => ?_
      refine W_region [1, 2, 6] fun R hR => ?_   -- r6
      simp only [go_sem]
      refine hR _ _ (kq10 _ _ ?_); clear hR R; try clear kq10 kz10
      try simp only [go_sem]
      refine W_block ?_
      refine W_loopS (α := Nat) (fun (i : Nat) => [(6, I i)]) (fun (i : Nat) => i ≤ l.length ∧ res = chkBands ct (l.drop i)) (fun (i : Nat) => l.length - i) (0) rfl (⟨Nat.zero_le _, by rw [← hres]; simp [askedOf, chkAll, *]⟩) ?_
      rintro i ⟨hi, hinv⟩
      refine W_seq fun kz11 kq11 => ?_
      refine W_seq fun kz12 kq12 => ?_
      refine W_region [1, 2, 6, 19] fun R hR => ?_   -- r7
      simp only [go_sem]
      refine hR _ _ (kq12 _ _ ?_); clear hR R; try clear kq12 kz12
      try simp only [go_sem]
      refine W_cond rfl (fun c3 => ?_) (fun c3 => ?_)
      · -- c3 true
        try simp only [nrm] at c3
        have hi' : i < l.length := by first | assumption | omega
        obtain ⟨b, hx⟩ : ∃ b, l[i]? = some b := ⟨l[i], by simp [hi']⟩
        have hdrop : l.drop i = b :: l.drop (i + 1) := by
          rw [List.drop_eq_getElem_cons hi']; congr 1; exact (List.getElem?_eq_some_iff.1 hx).2
        have hbl : b ∈ l := List.mem_of_getElem? hx
        rw [hdrop] at hinv
        simp only [chkBands] at hinv
        refine W_skip (kq11 _ _ ?_)
        refine W_seq fun kz13 kq13 => ?_
        refine W_block ?_
        refine W_seq fun kz14 kq14 => ?_
        refine W_draw [1, 2, 6, 7] [0, 1, 2, 3, 4, 5, 6] [] [[], [], [], [1, 2], [1, 2, 3], [0, 1, 2, 3, 4], [0, 1, 2, 3, 4, 5]] mixed (by kernel_rfl) fun R hR => ?_   -- r9
        simp only [go_sem, hx]
        refine GCall_of (rcheckBand_pc Y _ ct b hc (hl2 b hbl)) ?_   -- t27
        simp only [go_sem, hx]
        try refine And.intro (by repeat' (first | refine And.intro ?_ ?_ | exact GOr_right (fun _ => by simp only [go_sem, hx]))) ?_
        refine hR _ _ (kq14 _ _ ?_); clear hR R; try clear kq14 kz14
        try simp only [go_sem, hx]
        refine W_seq fun kz15 kq15 => ?_
        refine W_region [1, 2, 6, 7, 29] fun R hR => ?_   -- r10
        simp only [go_sem, hx]
        refine hR _ _ (kq15 _ _ ?_); clear hR R; try clear kq15 kz15
        try simp only [go_sem, hx]
        refine W_cond rfl (fun c4 => ?_) (fun c4 => ?_)
        · -- c4 true
          try simp only [nrm] at c4
          refine W_seq fun kz16 kq16 => ?_
          refine W_region [4] fun R hR => ?_   -- r11
          simp only [go_sem, hx]
          refine hR _ _ (kq16 _ _ ?_); clear hR R; try clear kq16 kz16
          try simp only [go_sem, hx]
          refine W_ret ?_
          simp only [go_sem, hx]
          refine ⟨.inr (by trivial), ?_⟩
          first | refine Fin_same hcl rfl (Wk_eq ?_ (by simp only [go_sem])) | refine Fin_self hcl rfl (Wk_eq ?_ (by simp only [go_sem]))
          try simp only [go_sem]
          all_goals
            first | rfl | (simp_all; done) | (simp_all; omega) | (rw [← hres]; simp only [chkAll]; (repeat' split) <;> ((first | rfl | omega | (simp_all; done) | (simp_all; omega))))
        · -- c4 false
          try simp only [nrm] at c4
          refine W_skip (kq13 _ _ ?_)
          refine W_region [1, 2, 6] fun R hR => ?_   -- r8
          simp only [go_sem, hx]
          try simp (disch := omega) only [wrapI]
          refine hR _ _ ?_; clear hR R
          try simp only [go_sem, hx]
          refine ⟨i + 1, ?_, by (try simp only []); omega, ?_⟩
          · first | exact Weak.refl | exact Weak.eq (by first | rfl | (simp only [go_sem]; done) | (simp only [go_sem]; rfl) | (simp [go_sem]; done) | (simp [go_sem]; omega)) (by first | rfl | (simp only [go_sem]; done) | (simp [go_sem]; done))
          · try dsimp only
            exact ⟨hi', by simp_all⟩
      · -- c3 false
        try simp only [nrm] at c3
        have hdrop : l.drop i = [] := List.drop_eq_nil_of_le (by omega)
        rw [hdrop] at hinv
        simp only [chkBands] at hinv
        refine W_exit ?_
        simp only [go_sem]
        refine kq9 _ _ ?_
        refine W_seq fun kz17 kq17 => ?_
        refine W_region [4] fun R hR => ?_   -- r12
        simp only [go_sem]
        refine hR _ _ (kq17 _ _ ?_); clear hR R; try clear kq17 kz17
        try simp only [go_sem]
        refine W_ret ?_
        simp only [go_sem]
        refine ⟨.inr (by trivial), ?_⟩
        first | refine Fin_same hcl rfl (Wk_eq ?_ (by simp only [go_sem])) | refine Fin_self hcl rfl (Wk_eq ?_ (by simp only [go_sem]))
        try simp only [go_sem]
        all_goals
          first | rfl | (simp_all; done) | (simp_all; omega) | (rw [← hres]; simp only [chkAll]; (repeat' split) <;> ((first | rfl | omega | (simp_all; done) | (simp_all; omega))))

end Go.Proofs.Ytnpamcpoaklgeaa

namespace Go.Proofs.Ytnpamcpoaklgeaa
open Go Go.RowKit
set_option maxRecDepth 100000

/-- Do the i-th visit of the one and the k-th of the other meet? -/
def mtA (brk : Int) (a b : Band) (p q : List Int) (m n : Int) (i k : Nat) : Bool :=
  decide (p[i]? = q[k]?) && decide (n + (k : Int) * b.stay < m + (i : Int) * a.stay + a.stay + brk) && decide (m + (i : Int) * a.stay < n + (k : Int) * b.stay + b.stay + brk)
def mtB (a b : Band) (m n : Int) (i k : Nat) : Bool :=
  decide (i < a.path.length) && decide (k < b.path.length) && decide (a.path[i]? = b.path[k]?) && decide (m + (i : Int) * a.stay + a.stay = n + (k : Int) * b.stay + b.stay)
def mtT (brk : Int) (a b : Band) (p q : List Int) (m n : Int) (i k : Nat) : Bool := mtA brk a b p q m n i k || mtB a b m n i k
def meetB (c : City) (a b : Band) (m n : Int) : Bool :=
  (List.range (sqs c a).1.length).any fun i => (List.range (sqs c b).1.length).any fun k => mtT c.brk a b (sqs c a).1 (sqs c b).1 m n i k
theorem meetB_true {c : City} {a b : Band} {m n : Int} {i k : Nat} (hi : i < (sqs c a).1.length) (hk : k < (sqs c b).1.length) (h : mtT c.brk a b (sqs c a).1 (sqs c b).1 m n i k = true) : meetB c a b m n = true := by
  unfold meetB
  rw [List.any_eq_true]
  refine ⟨i, List.mem_range.2 hi, ?_⟩
  rw [List.any_eq_true]
  exact ⟨k, List.mem_range.2 hk, h⟩
theorem meetB_false {c : City} {a b : Band} {m n : Int} (h : ∀ i, i < (sqs c a).1.length → ∀ k, k < (sqs c b).1.length → mtT c.brk a b (sqs c a).1 (sqs c b).1 m n i k = false) : meetB c a b m n = false := by
  rw [Bool.eq_false_iff]
  intro ht
  unfold meetB at ht
  rw [List.any_eq_true] at ht
  obtain ⟨i, hi, ht⟩ := ht
  rw [List.any_eq_true] at ht
  obtain ⟨k, hk, ht⟩ := ht
  rw [h i (List.mem_range.1 hi) k (List.mem_range.1 hk)] at ht
  cases ht

set_option maxHeartbeats 2000000 in
theorem rMeet_pc (Y : YEnv) (σ : Sg) (ct : City) (a b : Band) (m n : Int) (hc : ct.Ok) (ha : a.path.length < 2 ^ 50) (hb : b.path.length < 2 ^ 50) (hk0 : 0 ≤ ct.brk) (hk1 : ct.brk ≤ 1000) (h1 : -2 ^ 40 ≤ m) (h2 : m ≤ 2 ^ 40) (h3 : 0 ≤ a.stay) (h4 : a.stay ≤ 1000)
    (h5 : -2 ^ 40 ≤ n) (h6 : n ≤ 2 ^ 40) (h7 : 0 ≤ b.stay) (h8 : b.stay ≤ 1000) :
    PC Try.prog Y 35 [ctPV ct, bdPV a, bdPV b, I m, I n] σ (.bool (meetB ct a b m n)) (σ) := by
  refine PC_of_W Try.func35 rfl (by kernel_rfl) Try.ntmps35 (by simp) fun hcl hca => ?_
  obtain ⟨p, hp⟩ : ∃ p, p = (sqs ct a).1 := ⟨_, rfl⟩
  obtain ⟨q, hq⟩ : ∃ q, q = (sqs ct b).1 := ⟨_, rfl⟩
  have lp : p.length ≤ 13 := by rw [hp]; exact (sqs_len ct a).1
  have lq : q.length ≤ 13 := by rw [hq]; exact (sqs_len ct b).1
  refine W_seq fun kz1 kq1 => ?_
  refine W_region [3, 4, 5, 6, 7] fun R hR => ?_   -- r0
  simp only [go_sem]
  refine hR _ _ (kq1 _ _ ?_); clear hR R; try clear kq1 kz1
  try simp only [go_sem]
  refine W_seq fun kz2 kq2 => ?_
  refine W_region [3, 4, 5, 6, 7, 11] fun R hR => ?_   -- r1
  simp only [go_sem]
  refine GCall_of (PC.val (v' := .tuple [ints p, I (sqs ct a).2]) (rsquares_pc Y _ ct a hc ha) (by rw [hp]; rfl)) ?_   -- t22
  simp only [go_sem]
  refine hR _ _ (kq2 _ _ ?_); clear hR R; try clear kq2 kz2
  try simp only [go_sem]
  refine W_seq fun kz3 kq3 => ?_
  refine W_region [3, 4, 5, 6, 7, 11, 13] fun R hR => ?_   -- r2
  simp only [go_sem]
  refine GCall_of (PC.val (v' := .tuple [ints q, I (sqs ct b).2]) (rsquares_pc Y _ ct b hc hb) (by rw [hq]; rfl)) ?_   -- t28
  simp only [go_sem]
  refine hR _ _ (kq3 _ _ ?_); clear hR R; try clear kq3 kz3
  try simp only [go_sem]
  refine W_seq fun kz4 kq4 => ?_
  refine W_seq fun kz5 kq5 => ?_
  refine W_region [3, 4, 5, 6, 7, 11, 13, 15] fun R hR => ?_   -- r3
  simp only [go_sem]
  refine hR _ _ (kq5 _ _ ?_); clear hR R; try clear kq5 kz5
  try simp only [go_sem]
  refine W_block ?_
  refine W_loopS (α := Nat) (fun (i : Nat) => [(15, I i)]) (fun (i : Nat) => i ≤ p.length ∧ ∀ j, j < i → ∀ k, k < q.length → mtT ct.brk a b p q m n j k = false) (fun (i : Nat) => p.length - i) (0) rfl (⟨Nat.zero_le _, fun j hj => absurd hj (Nat.not_lt_zero j)⟩) ?_
  rintro i ⟨hi, hall⟩
  refine W_seq fun kz6 kq6 => ?_
  refine W_seq fun kz7 kq7 => ?_
  refine W_region [3, 4, 5, 6, 7, 11, 13, 15, 34] fun R hR => ?_   -- r4
  simp only [go_sem]
  refine hR _ _ (kq7 _ _ ?_); clear hR R; try clear kq7 kz7
  try simp only [go_sem]
  refine W_cond rfl (fun c1 => ?_) (fun c1 => ?_)
  · -- c1 true
    try simp only [nrm] at c1
    have hi' : i < p.length := by first | assumption | omega
    obtain ⟨x, hx⟩ : ∃ x, p[i]? = some x := ⟨p[i], by simp [hi']⟩
    have hdrop : p.drop i = x :: p.drop (i + 1) := by
      rw [List.drop_eq_getElem_cons hi']; congr 1; exact (List.getElem?_eq_some_iff.1 hx).2
    have mi := mul_bd (a := (i : Int)) (b := a.stay) (A := 13) (B := 1000) (by omega) (by omega) h3 h4
    refine W_skip (kq6 _ _ ?_)
    refine W_seq fun kz8 kq8 => ?_
    refine W_block ?_
    refine W_seq fun kz9 kq9 => ?_
    refine W_region [3, 4, 5, 6, 7, 11, 13, 15, 16] fun R hR => ?_   -- r6
    simp only [go_sem, hx]
    refine hR _ _ (kq9 _ _ ?_); clear hR R; try clear kq9 kz9
    try simp only [go_sem, hx]
    refine W_block ?_
    refine W_loopS (α := Nat) (fun (k : Nat) => [(16, I k)]) (fun (k : Nat) => k ≤ q.length ∧ ∀ j, j < k → mtT ct.brk a b p q m n i j = false) (fun (k : Nat) => q.length - k) (0) rfl (⟨Nat.zero_le _, fun j hj => absurd hj (Nat.not_lt_zero j)⟩) ?_
    rintro k ⟨hk, hin⟩
    refine W_seq fun kz10 kq10 => ?_
    refine W_seq fun kz11 kq11 => ?_
    refine W_region [3, 4, 5, 6, 7, 11, 13, 15, 16, 40] fun R hR => ?_   -- r7
    simp only [go_sem, hx]
    refine hR _ _ (kq11 _ _ ?_); clear hR R; try clear kq11 kz11
    try simp only [go_sem, hx]
    refine W_cond rfl (fun c2 => ?_) (fun c2 => ?_)
    · -- c2 true
      try simp only [nrm] at c2
      have hk' : k < q.length := by first | assumption | omega
      obtain ⟨y, hy⟩ : ∃ y, q[k]? = some y := ⟨q[k], by simp [hk']⟩
      have hdrop2 : q.drop k = y :: q.drop (k + 1) := by
        rw [List.drop_eq_getElem_cons hk']; congr 1; exact (List.getElem?_eq_some_iff.1 hy).2
      have mk := mul_bd (a := (k : Int)) (b := b.stay) (A := 13) (B := 1000) (by omega) (by omega) h7 h8
      refine W_skip (kq10 _ _ ?_)
      refine W_seq fun kz12 kq12 => ?_
      refine W_block ?_
      refine W_seq fun kz13 kq13 => ?_
      refine W_draw [3, 4, 5, 6, 7, 11, 13, 15, 16, 17, 18] [0, 1, 2, 3, 4, 5, 6, 7, 8, 9, 10, 11, 12, 13] [] [[], [], [], [2], [1, 2, 3], [0, 1, 2, 3, 4], [], [], [], [8], [7, 8, 9], [6, 7, 8, 9, 10], [0, 1, 2, 3, 4, 5], [0, 1, 2, 3, 4, 5, 6, 7, 8, 9, 10, 11, 12]] mixed (by kernel_rfl) fun R hR => ?_   -- r9
      simp only [go_sem, hx, hy]
      try simp (disch := omega) only [wrapI]
      try refine And.intro (by repeat' (first | refine And.intro ?_ ?_ | exact GOr_right (fun _ => by simp only [go_sem, hx, hy]))) ?_
      refine hR _ _ (kq13 _ _ ?_); clear hR R; try clear kq13 kz13
      try simp only [go_sem, hx, hy]
      refine W_seq fun kz14 kq14 => ?_
      refine W_seq fun kz15 kq15 => ?_
      refine W_drawJ [3, 4, 5, 6, 7, 11, 13, 15, 16, 17, 18, 85] [(85, .bool (mtA ct.brk a b p q m n i k))] [0, 1, 2, 3, 4, 5, 6, 7, 8, 9, 10, 11, 12, 13, 14, 15, 16, 17, 18, 19, 20, 21, 22, 23, 24, 25, 26, 27, 28, 29, 30] [] [[], [], [0, 1], [0, 1, 2], [], [], [4, 5], [4, 5, 6], [0, 1, 2, 3, 4, 5, 6, 7], [0, 1, 2, 3, 4, 5, 6, 7, 8], [0, 1, 2, 3, 4, 5, 6, 7, 8, 9], [0, 1, 2, 3, 4, 5, 6, 7, 8, 9], [0, 1, 2, 3, 4, 5, 6, 7, 8, 9], [0, 1, 2, 3, 4, 5, 6, 7, 8, 9, 12], [0, 1, 2, 3, 4, 5, 6, 7, 8, 9, 11, 12, 13], [0, 1, 2, 3, 4, 5, 6, 7, 8, 9], [0, 1, 2, 3, 4, 5, 6, 7, 8, 9, 15], [0, 1, 2, 3, 4, 5, 6, 7, 8, 9, 11, 12, 13, 14, 15, 16], [0, 1, 2, 3, 4, 5, 6, 7, 8, 9, 10, 11, 12, 13, 14, 15, 16, 17], [0, 1, 2, 3, 4, 5, 6, 7, 8, 9, 10, 11, 12, 13, 14, 15, 16, 17, 18], [0, 1, 2, 3, 4, 5, 6, 7, 8, 9, 10, 11, 12, 13, 14, 15, 16, 17, 18, 19], [0, 1, 2, 3, 4, 5, 6, 7, 8, 9, 10, 11, 12, 13, 14, 15, 16, 17, 18, 19, 20], [0, 1, 2, 3, 4, 5, 6, 7, 8, 9, 10, 11, 12, 13, 14, 15, 16, 17, 18, 19, 20], [0, 1, 2, 3, 4, 5, 6, 7, 8, 9, 10, 11, 12, 13, 14, 15, 16, 17, 18, 19, 20], [0, 1, 2, 3, 4, 5, 6, 7, 8, 9, 10, 11, 12, 13, 14, 15, 16, 17, 18, 19, 20, 23], [0, 1, 2, 3, 4, 5, 6, 7, 8, 9, 10, 11, 12, 13, 14, 15, 16, 17, 18, 19, 20, 22, 23, 24], [0, 1, 2, 3, 4, 5, 6, 7, 8, 9, 10, 11, 12, 13, 14, 15, 16, 17, 18, 19, 20], [0, 1, 2, 3, 4, 5, 6, 7, 8, 9, 10, 11, 12, 13, 14, 15, 16, 17, 18, 19, 20, 26], [0, 1, 2, 3, 4, 5, 6, 7, 8, 9, 10, 11, 12, 13, 14, 15, 16, 17, 18, 19, 20, 22, 23, 24, 25, 26, 27], [0, 1, 2, 3, 4, 5, 6, 7, 8, 9, 10, 11, 12, 13, 14, 15, 16, 17, 18, 19, 20, 21, 22, 23, 24, 25, 26, 27, 28], [0, 1, 2, 3, 4, 5, 6, 7, 8, 9, 10, 11, 12, 13, 14, 15, 16, 17, 18, 19, 20, 21, 22, 23, 24, 25, 26, 27, 28, 29]] mixed (by kernel_rfl) ?_ fun R hR => ?_   -- r10
      · refine kq15 _ _ ?_
        simp only [go_sem, hx, hy]
        refine W_cond rfl (fun c3 => ?_) (fun c3 => ?_)
        · -- c3 true
          try simp only [nrm] at c3
          refine W_seq fun kz16 kq16 => ?_
          refine W_region [10] fun R hR => ?_   -- r11
          simp only [go_sem, hx, hy]
          refine hR _ _ (kq16 _ _ ?_); clear hR R; try clear kq16 kz16
          try simp only [go_sem, hx, hy]
          refine W_ret ?_
          simp only [go_sem, hx, hy]
          refine ⟨.inr (by trivial), ?_⟩
          first | refine Fin_same hcl rfl (Wk_eq ?_ (by simp only [go_sem])) | refine Fin_self hcl rfl (Wk_eq ?_ (by simp only [go_sem]))
          try simp only [go_sem]
          all_goals
            rw [meetB_true (i := i) (k := k) (by rw [← hp]; exact hi') (by rw [← hq]; exact hk') (by rw [← hp, ← hq]; simp only [mtT, c3, Bool.true_or])]
        · -- c3 false
          try simp only [nrm] at c3
          refine W_skip (kq14 _ _ ?_)
          refine W_seq fun kz17 kq17 => ?_
          refine W_drawJ [3, 4, 5, 6, 7, 11, 13, 15, 16, 121] [(121, .bool (mtB a b m n i k))] [0, 1, 2, 3, 4, 5, 6, 7, 8, 9, 10, 11, 12, 13, 14, 15, 16, 17, 18, 19, 20, 21, 22, 23, 24, 25, 26, 27, 28, 29, 30, 31, 32, 33, 34, 35] [] [[], [], [1], [1, 2], [0, 1, 2, 3], [0, 1, 2, 3, 4], [0, 1, 2, 3, 4, 5], [0, 1, 2, 3, 4, 5], [0, 1, 2, 3, 4, 5, 7], [0, 1, 2, 3, 4, 5, 7, 8], [0, 1, 2, 3, 4, 5, 6, 7, 8, 9], [0, 1, 2, 3, 4, 5, 6, 7, 8, 9, 10], [0, 1, 2, 3, 4, 5, 6, 7, 8, 9, 10, 11], [0, 1, 2, 3, 4, 5, 6, 7, 8, 9, 10, 11, 12], [0, 1, 2, 3, 4, 5, 6, 7, 8, 9, 10, 11, 12, 13], [0, 1, 2, 3, 4, 5, 6, 7, 8, 9, 10, 11, 12], [0, 1, 2, 3, 4, 5, 6, 7, 8, 9, 10, 11, 12, 13, 14, 15], [0, 1, 2, 3, 4, 5, 6, 7, 8, 9, 10, 11, 12, 13, 14, 15, 16], [0, 1, 2, 3, 4, 5, 6, 7, 8, 9, 10, 11, 12], [0, 1, 2, 3, 4, 5, 6, 7, 8, 9, 10, 11, 12, 18], [0, 1, 2, 3, 4, 5, 6, 7, 8, 9, 10, 11, 12], [0, 1, 2, 3, 4, 5, 6, 7, 8, 9, 10, 11, 12, 18, 19, 20], [0, 1, 2, 3, 4, 5, 6, 7, 8, 9, 10, 11, 12, 18, 19, 20, 21], [0, 1, 2, 3, 4, 5, 6, 7, 8, 9, 10, 11, 12, 13, 14, 15, 16, 17, 18, 19, 20, 21, 22], [0, 1, 2, 3, 4, 5, 6, 7, 8, 9, 10, 11, 12, 13, 14, 15, 16, 17, 18, 19, 20, 21, 22, 23], [0, 1, 2, 3, 4, 5, 6, 7, 8, 9, 10, 11, 12, 13, 14, 15, 16, 17, 18, 19, 20, 21, 22, 23, 24], [0, 1, 2, 3, 4, 5, 6, 7, 8, 9, 10, 11, 12, 13, 14, 15, 16, 17, 18, 19, 20, 21, 22, 23, 24, 25], [0, 1, 2, 3, 4, 5, 6, 7, 8, 9, 10, 11, 12, 13, 14, 15, 16, 17, 18, 19, 20, 21, 22, 23, 24, 25], [0, 1, 2, 3, 4, 5, 6, 7, 8, 9, 10, 11, 12, 13, 14, 15, 16, 17, 18, 19, 20, 21, 22, 23, 24, 25, 27], [0, 1, 2, 3, 4, 5, 6, 7, 8, 9, 10, 11, 12, 13, 14, 15, 16, 17, 18, 19, 20, 21, 22, 23, 24, 25, 26, 27, 28], [0, 1, 2, 3, 4, 5, 6, 7, 8, 9, 10, 11, 12, 13, 14, 15, 16, 17, 18, 19, 20, 21, 22, 23, 24, 25], [0, 1, 2, 3, 4, 5, 6, 7, 8, 9, 10, 11, 12, 13, 14, 15, 16, 17, 18, 19, 20, 21, 22, 23, 24, 25], [0, 1, 2, 3, 4, 5, 6, 7, 8, 9, 10, 11, 12, 13, 14, 15, 16, 17, 18, 19, 20, 21, 22, 23, 24, 25, 31], [0, 1, 2, 3, 4, 5, 6, 7, 8, 9, 10, 11, 12, 13, 14, 15, 16, 17, 18, 19, 20, 21, 22, 23, 24, 25, 30, 31, 32], [0, 1, 2, 3, 4, 5, 6, 7, 8, 9, 10, 11, 12, 13, 14, 15, 16, 17, 18, 19, 20, 21, 22, 23, 24, 25, 26, 27, 28, 29, 30, 31, 32, 33], [0, 1, 2, 3, 4, 5, 6, 7, 8, 9, 10, 11, 12, 13, 14, 15, 16, 17, 18, 19, 20, 21, 22, 23, 24, 25, 26, 27, 28, 29, 30, 31, 32, 33, 34]] mixed (by kernel_rfl) ?_ fun R hR => ?_   -- r12
          · refine kq17 _ _ ?_
            simp only [go_sem, hx, hy]
            refine W_cond rfl (fun c4 => ?_) (fun c4 => ?_)
            · -- c4 true
              try simp only [nrm] at c4
              refine W_seq fun kz18 kq18 => ?_
              refine W_region [10] fun R hR => ?_   -- r13
              simp only [go_sem, hx, hy]
              refine hR _ _ (kq18 _ _ ?_); clear hR R; try clear kq18 kz18
              try simp only [go_sem, hx, hy]
              refine W_ret ?_
              simp only [go_sem, hx, hy]
              refine ⟨.inr (by trivial), ?_⟩
              first | refine Fin_same hcl rfl (Wk_eq ?_ (by simp only [go_sem])) | refine Fin_self hcl rfl (Wk_eq ?_ (by simp only [go_sem]))
              try simp only [go_sem]
              all_goals
                rw [meetB_true (i := i) (k := k) (by rw [← hp]; exact hi') (by rw [← hq]; exact hk') (by rw [← hp, ← hq]; simp only [mtT, c4, Bool.or_true])]
            · -- c4 false
              try simp only [nrm] at c4
              refine W_skip (kq12 _ _ ?_)
              refine W_region [3, 4, 5, 6, 7, 11, 13, 15, 16] fun R hR => ?_   -- r8
              simp only [go_sem, hx, hy]
              try simp (disch := omega) only [wrapI]
              refine hR _ _ ?_; clear hR R
              try simp only [go_sem, hx, hy]
              refine ⟨k + 1, ?_, by (try simp only []); omega, ?_⟩
              · first | exact Weak.refl | exact Weak.eq (by first | rfl | (simp only [go_sem]; done) | (simp only [go_sem]; rfl) | (simp [go_sem]; done) | (simp [go_sem]; omega)) (by first | rfl | (simp only [go_sem]; done) | (simp [go_sem]; done))
              · try dsimp only
                exact ⟨hk', fun j hj => by rcases Nat.lt_succ_iff_lt_or_eq.1 hj with h | rfl; exact hin j h; simp only [mtT, c3, c4, Bool.or_false]⟩
          · simp only [go_sem, hx, hy]
            refine GWant_split (fun g1 => ?_) (fun g1 => ?_)
            · try simp only [Bool.not_eq_true', Bool.not_eq_false'] at g1
              have n1 := g1; try simp only [nrm] at n1
              simp only [go_sem, hx, hy, g1]
              refine GWant_split (fun g2 => ?_) (fun g2 => ?_)
              · try simp only [Bool.not_eq_true', Bool.not_eq_false'] at g2
                have n2 := g2; try simp only [nrm] at n2
                obtain ⟨x1, hx1⟩ : ∃ x, a.path[i]? = some x := ⟨a.path[i]'(by omega), by simp⟩
                obtain ⟨y1, hy1⟩ : ∃ x, b.path[k]? = some x := ⟨b.path[k]'(by omega), by simp⟩
                simp only [go_sem, hx, hy, hx1, hy1, g1, g2]
                refine GWant_split (fun g3 => ?_) (fun g3 => ?_)
                · try simp only [Bool.not_eq_true', Bool.not_eq_false'] at g3
                  have n3 := g3; try simp only [nrm] at n3
                  simp only [go_sem, hx, hy, hx1, hy1, g1, g2, g3]
                  try simp (disch := omega) only [wrapI]
                  try refine And.intro (by repeat' (first | refine And.intro ?_ ?_ | exact GOr_right (fun _ => by simp only [go_sem, hx, hy, hx1, hy1]))) ?_
                  refine hR _ ?_
                  try simp only [go_sem, hx, hy, hx1, hy1]
                  all_goals
                    simp only [mtB]; first | (simp only [hx1, hy1, n1, n2]; first | (simp [n3]; done) | (simp [n3]; rw [Bool.eq_iff_iff]; simp; done)) | (simp [*]; done) | (simp [*]; omega)
                · try simp only [Bool.not_eq_true', Bool.not_eq_false'] at g3
                  have n3 := g3; try simp only [nrm] at n3
                  simp only [go_sem, hx, hy, hx1, hy1, g1, g2, g3]
                  try simp (disch := omega) only [wrapI]
                  try refine And.intro (by repeat' (first | refine And.intro ?_ ?_ | exact GOr_right (fun _ => by simp only [go_sem, hx, hy, hx1, hy1]))) ?_
                  refine hR _ ?_
                  try simp only [go_sem, hx, hy, hx1, hy1]
                  all_goals
                    simp only [mtB]; first | (simp only [hx1, hy1, n1, n2]; first | (simp [n3]; done) | (simp [n3]; rw [Bool.eq_iff_iff]; simp; done)) | (simp [*]; done) | (simp [*]; omega)
              · try simp only [Bool.not_eq_true', Bool.not_eq_false'] at g2
                have n2 := g2; try simp only [nrm] at n2
                simp only [go_sem, hx, hy, g1, g2]
                try simp (disch := omega) only [wrapI]
                try refine And.intro (by repeat' (first | refine And.intro ?_ ?_ | exact GOr_right (fun _ => by simp only [go_sem, hx, hy]))) ?_
                refine hR _ ?_
                try simp only [go_sem, hx, hy]
                all_goals
                  simp only [mtB]; first | (simp only [hx1, hy1, n1, n2]; first | (simp [n3]; done) | (simp [n3]; rw [Bool.eq_iff_iff]; simp; done)) | (simp [*]; done) | (simp [*]; omega)
            · try simp only [Bool.not_eq_true', Bool.not_eq_false'] at g1
              have n1 := g1; try simp only [nrm] at n1
              simp only [go_sem, hx, hy, g1]
              try simp (disch := omega) only [wrapI]
              try refine And.intro (by repeat' (first | refine And.intro ?_ ?_ | exact GOr_right (fun _ => by simp only [go_sem, hx, hy]))) ?_
              refine hR _ ?_
              try simp only [go_sem, hx, hy]
              all_goals
                simp only [mtB]; first | (simp only [hx1, hy1, n1, n2]; first | (simp [n3]; done) | (simp [n3]; rw [Bool.eq_iff_iff]; simp; done)) | (simp [*]; done) | (simp [*]; omega)
      · simp only [go_sem, hx, hy]
        refine GWant_split (fun g4 => ?_) (fun g4 => ?_)
        · try simp only [Bool.not_eq_true', Bool.not_eq_false'] at g4
          have n4 := g4; try simp only [nrm] at n4
          simp only [go_sem, hx, hy, g4]
          refine GWant_split (fun g5 => ?_) (fun g5 => ?_)
          · try simp only [Bool.not_eq_true', Bool.not_eq_false'] at g5
            have n5 := g5; try simp only [nrm] at n5
            try simp (disch := omega) only [wrapI] at n5
            simp only [go_sem, hx, hy, g4, g5]
            try simp (disch := omega) only [wrapI]
            try refine And.intro (by repeat' (first | refine And.intro ?_ ?_ | exact GOr_right (fun _ => by simp only [go_sem, hx, hy]))) ?_
            refine hR _ ?_
            try simp only [go_sem, hx, hy]
            all_goals
              simp only [mtA, hx, hy]; first | (simp [*]; done) | (simp [*]; omega)
          · try simp only [Bool.not_eq_true', Bool.not_eq_false'] at g5
            have n5 := g5; try simp only [nrm] at n5
            try simp (disch := omega) only [wrapI] at n5
            simp only [go_sem, hx, hy, g4, g5]
            try simp (disch := omega) only [wrapI]
            try refine And.intro (by repeat' (first | refine And.intro ?_ ?_ | exact GOr_right (fun _ => by simp only [go_sem, hx, hy]))) ?_
            refine hR _ ?_
            try simp only [go_sem, hx, hy]
            all_goals
              simp only [mtA, hx, hy]; first | (simp [*]; done) | (simp [*]; omega)
        · try simp only [Bool.not_eq_true', Bool.not_eq_false'] at g4
          have n4 := g4; try simp only [nrm] at n4
          simp only [go_sem, hx, hy, g4]
          try simp (disch := omega) only [wrapI]
          try refine And.intro (by repeat' (first | refine And.intro ?_ ?_ | exact GOr_right (fun _ => by simp only [go_sem, hx, hy]))) ?_
          refine hR _ ?_
          try simp only [go_sem, hx, hy]
          all_goals
            simp only [mtA, hx, hy]; first | (simp [*]; done) | (simp [*]; omega)
    · -- c2 false
      try simp only [nrm] at c2
      refine W_exit ?_
      simp only [go_sem, hx]
      refine kq8 _ _ ?_
      refine W_region [3, 4, 5, 6, 7, 11, 13, 15] fun R hR => ?_   -- r5
      simp only [go_sem, hx]
      try simp (disch := omega) only [wrapI]
      refine hR _ _ ?_; clear hR R
      try simp only [go_sem, hx]
      refine ⟨i + 1, ?_, by (try simp only []); omega, ?_⟩
      · first | exact Weak.refl | exact Weak.eq (by first | rfl | (simp only [go_sem]; done) | (simp only [go_sem]; rfl) | (simp [go_sem]; done) | (simp [go_sem]; omega)) (by first | rfl | (simp only [go_sem]; done) | (simp [go_sem]; done))
      · try dsimp only
        exact ⟨hi', fun j hj k hk => by rcases Nat.lt_succ_iff_lt_or_eq.1 hj with h | rfl; exact hall j h k hk; exact hin k (by omega)⟩
  · -- c1 false
    try simp only [nrm] at c1
    refine W_exit ?_
    simp only [go_sem]
    refine kq4 _ _ ?_
    refine W_seq fun kz19 kq19 => ?_
    refine W_region [10] fun R hR => ?_   -- r14
    simp only [go_sem]
    refine hR _ _ (kq19 _ _ ?_); clear hR R; try clear kq19 kz19
    try simp only [go_sem]
    refine W_ret ?_
    simp only [go_sem]
    refine ⟨.inr (by trivial), ?_⟩
    first | refine Fin_same hcl rfl (Wk_eq ?_ (by simp only [go_sem])) | refine Fin_self hcl rfl (Wk_eq ?_ (by simp only [go_sem]))
    try simp only [go_sem]
    all_goals
      rw [meetB_false (by rw [← hp, ← hq]; intro j hj k hk; exact hall j (by omega) k hk)]

end Go.Proofs.Ytnpamcpoaklgeaa

namespace Go.Proofs.Ytnpamcpoaklgeaa
open Go Go.RowKit
set_option maxRecDepth 100000

/-! ### The two ways to say that bands cross -/
theorem crIn_iff (brk : Int) (pa pb : List Int) (i : Nat) (v : Vis) : ∀ (two : List Vis) (k : Nat), crIn brk pa pb i v k two = true ↔
    ∃ j w, two[j]? = some w ∧ (nearOf brk v w = true ∨ (0 < i ∧ 0 < k + j ∧ v.lo = w.lo ∧ pa[i - 1]? = pb[k + j - 1]?)) := by
  intro two
  induction two with
  | nil => intro k; simp [crIn]
  | cons w r ih =>
    intro k
    simp only [crIn]
    by_cases h1 : nearOf brk v w = true
    · rw [if_pos h1]
      exact ⟨fun _ => ⟨0, w, rfl, .inl h1⟩, fun _ => rfl⟩
    · rw [if_neg h1]
      by_cases h2 : 0 < i ∧ 0 < k ∧ v.lo = w.lo ∧ pa[i - 1]? = pb[k - 1]?
      · rw [if_pos h2]
        exact ⟨fun _ => ⟨0, w, rfl, .inr h2⟩, fun _ => rfl⟩
      · rw [if_neg h2, ih]
        constructor
        · rintro ⟨j, x, hx, h⟩
          refine ⟨j + 1, x, hx, ?_⟩
          rw [show k + (j + 1) = k + 1 + j by omega]; exact h
        · rintro ⟨j, x, hx, h⟩
          cases j with
          | zero =>
            have hw : w = x := by simpa using hx
            subst hw
            rcases h with h | h
            · exact absurd h h1
            · exact absurd h h2
          | succ j =>
            refine ⟨j, x, by simpa using hx, ?_⟩
            rw [show k + 1 + j = k + (j + 1) by omega]; exact h
theorem crOut_iff (brk : Int) (pa pb : List Int) (two : List Vis) : ∀ (one : List Vis) (i : Nat), crOut brk pa pb two i one = true ↔ ∃ j v, one[j]? = some v ∧ crIn brk pa pb (i + j) v 0 two = true := by
  intro one
  induction one with
  | nil => intro i; simp [crOut]
  | cons v r ih =>
    intro i
    simp only [crOut]
    by_cases h1 : crIn brk pa pb i v 0 two = true
    · rw [if_pos h1]
      exact ⟨fun _ => ⟨0, v, rfl, h1⟩, fun _ => rfl⟩
    · rw [if_neg h1, ih]
      constructor
      · rintro ⟨j, x, hx, h⟩
        refine ⟨j + 1, x, hx, ?_⟩
        rw [show i + (j + 1) = i + 1 + j by omega]; exact h
      · rintro ⟨j, x, hx, h⟩
        cases j with
        | zero =>
          have hw : v = x := by simpa using hx
          subst hw
          exact absurd h h1
        | succ j =>
          refine ⟨j, x, by simpa using hx, ?_⟩
          rw [show i + 1 + j = i + (j + 1) by omega]; exact h
theorem visOf_get (c : City) (b : Band) (m : Int) (i : Nat) (v : Vis) : (visOf c b m)[i]? = some v ↔ ∃ s, (sqs c b).1[i]? = some s ∧ v = ⟨m + (i : Int) * b.stay, m + (i : Int) * b.stay + b.stay - 1, s⟩ := by
  unfold visOf
  rw [visFrom_get]
  cases (sqs c b).1[i]? with
  | none => simp
  | some s => simp [eq_comm]
theorem near_iff {brk x y X Y sa sb : Int} (hb : 0 ≤ brk) (ha : 1 ≤ sa) (hs : 1 ≤ sb) : nearOf brk ⟨X, X + sa - 1, x⟩ ⟨Y, Y + sb - 1, y⟩ = true ↔ x = y ∧ Y < X + sa + brk ∧ X < Y + sb + brk := by
  unfold nearOf
  simp only
  by_cases h : x = y
  · subst h
    rw [if_neg (by simp)]
    split <;> simp <;> omega
  · rw [if_pos h]
    simp [h]
theorem step_mul (i : Nat) (s : Int) (h : 0 < i) : ((i - 1 : Nat) : Int) * s + s = (i : Int) * s := by
  obtain ⟨j, rfl⟩ : ∃ j, i = j + 1 := ⟨i - 1, by omega⟩
  simp [Int.add_mul]
theorem crossing_meet {c : City} {a b : Band} {m n : Int} (hbrk : 0 ≤ c.brk) (ha : (sqs c a).2 = 0) (hb : (sqs c b).2 = 0) (sa : 1 ≤ a.stay) (sb : 1 ≤ b.stay) : crossing c a b m n = meetB c a b m n := by
  have la := sqs_ok ha
  have lb := sqs_ok hb
  rw [Bool.eq_iff_iff]
  unfold crossing
  rw [crOut_iff]
  constructor
  · rintro ⟨i, v, hv, h⟩
    obtain ⟨x, hx, rfl⟩ := (visOf_get ..).1 hv
    have hi := (List.getElem?_eq_some_iff.1 hx).1
    rw [crIn_iff] at h
    obtain ⟨k, w, hw, h⟩ := h
    obtain ⟨y, hy, rfl⟩ := (visOf_get ..).1 hw
    have hk := (List.getElem?_eq_some_iff.1 hy).1
    rcases h with h | ⟨h1, h2, h3, h4⟩
    · rw [near_iff hbrk sa sb] at h
      refine meetB_true hi hk ?_
      simp only [mtT, mtA, hx, hy, Bool.or_eq_true, Bool.and_eq_true, decide_eq_true_eq]
      exact .inl ⟨⟨by rw [h.1], h.2.1⟩, h.2.2⟩
    · simp only [Nat.zero_add] at h1 h2 h3 h4
      refine meetB_true (i := i - 1) (k := k - 1) (by omega) (by omega) ?_
      simp only [mtT, mtB, Bool.or_eq_true, Bool.and_eq_true, decide_eq_true_eq]
      refine .inr ⟨⟨⟨by omega, by omega⟩, h4⟩, ?_⟩
      have e1 := step_mul i a.stay h1
      have e2 := step_mul k b.stay h2
      omega
  · intro h
    unfold meetB at h
    rw [List.any_eq_true] at h
    obtain ⟨i, hi, h⟩ := h
    rw [List.any_eq_true] at h
    obtain ⟨k, hk, h⟩ := h
    have hi := List.mem_range.1 hi
    have hk := List.mem_range.1 hk
    simp only [mtT, Bool.or_eq_true] at h
    rcases h with h | h
    · obtain ⟨x, hx⟩ : ∃ x, (sqs c a).1[i]? = some x := ⟨_, List.getElem?_eq_getElem hi⟩
      obtain ⟨y, hy⟩ : ∃ y, (sqs c b).1[k]? = some y := ⟨_, List.getElem?_eq_getElem hk⟩
      simp only [mtA, hx, hy, Bool.and_eq_true, decide_eq_true_eq, Option.some.injEq] at h
      refine ⟨i, _, (visOf_get c a m i _).2 ⟨x, hx, rfl⟩, ?_⟩
      rw [crIn_iff]
      refine ⟨k, _, (visOf_get c b n k _).2 ⟨y, hy, rfl⟩, .inl ?_⟩
      rw [near_iff hbrk sa sb]
      exact ⟨h.1.1, h.1.2, h.2⟩
    · simp only [mtB, Bool.and_eq_true, decide_eq_true_eq] at h
      obtain ⟨⟨⟨h1, h2⟩, h3⟩, h4⟩ := h
      obtain ⟨x, hx⟩ : ∃ x, (sqs c a).1[i + 1]? = some x := ⟨_, List.getElem?_eq_getElem (by omega)⟩
      obtain ⟨y, hy⟩ : ∃ y, (sqs c b).1[k + 1]? = some y := ⟨_, List.getElem?_eq_getElem (by omega)⟩
      refine ⟨i + 1, _, (visOf_get c a m (i + 1) _).2 ⟨x, hx, rfl⟩, ?_⟩
      rw [crIn_iff]
      refine ⟨k + 1, _, (visOf_get c b n (k + 1) _).2 ⟨y, hy, rfl⟩, .inr ⟨by omega, by omega, ?_, ?_⟩⟩
      · have e1 := step_mul (i + 1) a.stay (by omega)
        have e2 := step_mul (k + 1) b.stay (by omega)
        simp only [Nat.add_sub_cancel] at e1 e2
        dsimp only
        omega
      · simpa using h3
theorem upTo_congr {α : Type} {f g : Int → α → α} {lo s : Int} (hs : lo ≤ s) (h : ∀ i a, lo ≤ i → i < s → f i a = g i a) (a : α) : upTo f lo s a = upTo g lo s a := by
  unfold upTo
  have key : ∀ n : Nat, lo + n ≤ s → foldUp f lo n a = foldUp g lo n a := by
    intro n
    induction n with
    | zero => intro _; rfl
    | succ n ih =>
      intro hn
      simp only [foldUp]
      rw [ih (by omega), h _ _ (by omega) (by omega)]
  exact key _ (by omega)
theorem crossOf_congr {X Y : Int → Int → Bool} {alo ahi blo bhi : Int} (ha : alo ≤ ahi + 1) (hb : blo ≤ bhi + 1) (h : ∀ i j, alo ≤ i → i ≤ ahi → blo ≤ j → j ≤ bhi → X i j = Y i j) : crossOf X alo ahi blo bhi = crossOf Y alo ahi blo bhi := by
  have e : crAll X alo ahi blo bhi = crAll Y alo ahi blo bhi := by
    unfold crAll
    refine upTo_congr ha (fun i p h1 h2 => ?_) _
    unfold crRow
    refine upTo_congr hb (fun j q h3 h4 => ?_) _
    simp only [crStep, h i j h1 (by omega) h3 (by omega)]
  unfold crossOf
  rw [e]
theorem chkCity_brk {c : City} (h : chkCity c = 0) : 0 ≤ c.brk ∧ c.brk ≤ 120 := by
  unfold chkCity at h
  split at h
  · exact absurd h ‹_›
  · split at h
    · simp at h
    · rename_i h1 h2
      simpa [inR] using h2

set_option maxHeartbeats 2000000 in
theorem rcross0_pc (Y : YEnv) (σ : Sg) (ct : City) (a b : Band) (X : Int → Int → Bool) (hal : -2 ^ 62 ≤ a.lo) (hah : a.hi < 2 ^ 62) (ham : a.lo ≤ a.hi + 1) (hbl : -2 ^ 62 ≤ b.lo) (hbh : b.hi < 2 ^ 62) (hbm : b.lo ≤ b.hi + 1)
    (hX : ∀ (Y : YEnv) (σ : Sg) (i j : Int), a.lo ≤ i → i ≤ a.hi → b.lo ≤ j → j ≤ b.hi → PC Try.prog Y 35 [ctPV ct, bdPV a, bdPV b, I i, I j] σ (.bool (X i j)) σ) :
    PC Try.prog Y 68 [ctPV ct, bdPV a, bdPV b] σ (I (crossOf X a.lo a.hi b.lo b.hi)) (σ) := by
  refine PC_of_W Try.func68 rfl (by kernel_rfl) Try.ntmps68 (by simp) fun hcl hca => ?_
  refine W_seq fun kz1 kq1 => ?_
  refine W_region [3, 4, 5] fun R hR => ?_   -- r0
  simp only [go_sem]
  refine hR _ _ (kq1 _ _ ?_); clear hR R; try clear kq1 kz1
  try simp only [go_sem]
  refine W_seq fun kz2 kq2 => ?_
  refine W_region [3, 4, 5, 7, 8] fun R hR => ?_   -- r1
  simp only [go_sem]
  refine hR _ _ (kq2 _ _ ?_); clear hR R; try clear kq2 kz2
  try simp only [go_sem]
  refine W_seq fun kz3 kq3 => ?_
  refine W_seq fun kz4 kq4 => ?_
  refine W_region [3, 4, 5, 7, 8, 9] fun R hR => ?_   -- r2
  simp only [go_sem]
  refine hR _ _ (kq4 _ _ ?_); clear hR R; try clear kq4 kz4
  try simp only [go_sem]
  refine W_block ?_
  refine W_loopS (α := Int × (Bool × Bool)) (fun ⟨s, p⟩ => [(7, .bool p.1), (8, .bool p.2), (9, I s)]) (fun ⟨s, p⟩ => a.lo ≤ s ∧ s ≤ a.hi + 1 ∧ p = upTo (crRow X b.lo b.hi) a.lo s (false, true)) (fun ⟨s, p⟩ => (a.hi + 1 - s).toNat) ((a.lo, false, true)) rfl (⟨Int.le_refl _, ham, (upTo_start _ _ _).symm⟩) ?_
  rintro ⟨s, p⟩ ⟨h1, h2, hp⟩
  refine W_seq fun kz5 kq5 => ?_
  refine W_seq fun kz6 kq6 => ?_
  refine W_region [3, 4, 5, 7, 8, 9, 19] fun R hR => ?_   -- r3
  simp only [go_sem]
  refine hR _ _ (kq6 _ _ ?_); clear hR R; try clear kq6 kz6
  try simp only [go_sem]
  refine W_cond rfl (fun c1 => ?_) (fun c1 => ?_)
  · -- c1 true
    try simp only [nrm] at c1
    refine W_skip (kq5 _ _ ?_)
    refine W_seq fun kz7 kq7 => ?_
    refine W_block ?_
    refine W_seq fun kz8 kq8 => ?_
    refine W_region [3, 4, 5, 7, 8, 9, 10] fun R hR => ?_   -- r5
    simp only [go_sem]
    refine hR _ _ (kq8 _ _ ?_); clear hR R; try clear kq8 kz8
    try simp only [go_sem]
    refine W_block ?_
    refine W_loopS (α := Int × (Bool × Bool)) (fun ⟨t, q⟩ => [(7, .bool q.1), (8, .bool q.2), (10, I t)]) (fun ⟨t, q⟩ => b.lo ≤ t ∧ t ≤ b.hi + 1 ∧ q = upTo (crStep X s) b.lo t p) (fun ⟨t, q⟩ => (b.hi + 1 - t).toNat) ((b.lo, p)) rfl (⟨Int.le_refl _, hbm, (upTo_start _ _ _).symm⟩) ?_
    rintro ⟨t, q⟩ ⟨h3, h4, hq⟩
    refine W_seq fun kz9 kq9 => ?_
    refine W_seq fun kz10 kq10 => ?_
    refine W_region [3, 4, 5, 7, 8, 9, 10, 29] fun R hR => ?_   -- r6
    simp only [go_sem]
    refine hR _ _ (kq10 _ _ ?_); clear hR R; try clear kq10 kz10
    try simp only [go_sem]
    refine W_cond rfl (fun c2 => ?_) (fun c2 => ?_)
    · -- c2 true
      try simp only [nrm] at c2
      refine W_skip (kq9 _ _ ?_)
      refine W_seq fun kz11 kq11 => ?_
      refine W_block ?_
      refine W_seq fun kz12 kq12 => ?_
      refine W_region [3, 4, 5, 7, 8, 9, 10, 11] fun R hR => ?_   -- r8
      simp only [go_sem]
      refine GCall_of (hX Y _ s t h1 c1 h3 c2) ?_   -- t37
      simp only [go_sem]
      refine hR _ _ (kq12 _ _ ?_); clear hR R; try clear kq12 kz12
      try simp only [go_sem]
      refine W_regionJ [3, 4, 5, 7, 8, 9, 10] [(7, .bool (q.1 || X s t)), (8, .bool (q.2 && X s t))] ?_ fun R hR => ?_   -- r9
      · refine kq11 _ _ ?_
        simp only [go_sem]
        refine W_region [3, 4, 5, 7, 8, 9, 10] fun R hR => ?_   -- r7
        simp only [go_sem]
        try simp (disch := omega) only [wrapI]
        refine hR _ _ ?_; clear hR R
        try simp only [go_sem]
        refine ⟨(t + 1, q.1 || X s t, q.2 && X s t), ?_, by (try simp only []); omega, ?_⟩
        · first | exact Weak.refl | exact Weak.eq (by first | rfl | (simp only [go_sem]; done) | (simp only [go_sem]; rfl) | (simp [go_sem]; done) | (simp [go_sem]; omega)) (by first | rfl | (simp only [go_sem]; done) | (simp [go_sem]; done))
        · try dsimp only
          refine ⟨by omega, by omega, ?_⟩
          rw [upTo_step _ h3, ← hq]; rfl
      · simp only [go_sem]
        refine GWant_split (fun g1 => ?_) (fun g1 => ?_)
        · try simp only [Bool.not_eq_true', Bool.not_eq_false'] at g1
          have n1 := g1; try simp only [nrm] at n1
          simp only [go_sem, g1]
          refine GWant_split (fun g2 => ?_) (fun g2 => ?_)
          · try simp only [Bool.not_eq_true', Bool.not_eq_false'] at g2
            have n2 := g2; try simp only [nrm] at n2
            simp only [go_sem, g1, g2]
            refine hR _ ?_
            try simp only [go_sem]
            all_goals
              first | rfl | (clear hq hp; simp [*]; done)
          · try simp only [Bool.not_eq_true', Bool.not_eq_false'] at g2
            have n2 := g2; try simp only [nrm] at n2
            simp only [go_sem, g1, g2]
            refine hR _ ?_
            try simp only [go_sem]
            all_goals
              first | rfl | (clear hq hp; simp [*]; done)
        · try simp only [Bool.not_eq_true', Bool.not_eq_false'] at g1
          have n1 := g1; try simp only [nrm] at n1
          simp only [go_sem, g1]
          refine GWant_split (fun g3 => ?_) (fun g3 => ?_)
          · try simp only [Bool.not_eq_true', Bool.not_eq_false'] at g3
            have n3 := g3; try simp only [nrm] at n3
            simp only [go_sem, g1, g3]
            refine hR _ ?_
            try simp only [go_sem]
            all_goals
              first | rfl | (clear hq hp; simp [*]; done)
          · try simp only [Bool.not_eq_true', Bool.not_eq_false'] at g3
            have n3 := g3; try simp only [nrm] at n3
            simp only [go_sem, g1, g3]
            refine hR _ ?_
            try simp only [go_sem]
            all_goals
              first | rfl | (clear hq hp; simp [*]; done)
    · -- c2 false
      try simp only [nrm] at c2
      have hte : t = b.hi + 1 := by omega
      subst hte
      refine W_exit ?_
      simp only [go_sem]
      refine kq7 _ _ ?_
      refine W_region [3, 4, 5, 7, 8, 9] fun R hR => ?_   -- r4
      simp only [go_sem]
      try simp (disch := omega) only [wrapI]
      refine hR _ _ ?_; clear hR R
      try simp only [go_sem]
      refine ⟨(s + 1, q), ?_, by (try simp only []); omega, ?_⟩
      · first | exact Weak.refl | exact Weak.eq (by first | rfl | (simp only [go_sem]; done) | (simp only [go_sem]; rfl) | (simp [go_sem]; done) | (simp [go_sem]; omega)) (by first | rfl | (simp only [go_sem]; done) | (simp [go_sem]; done))
      · try dsimp only
        refine ⟨by omega, by omega, ?_⟩
        rw [upTo_step _ h1, ← hp, hq]; rfl
  · -- c1 false
    try simp only [nrm] at c1
    have hse : s = a.hi + 1 := by omega
    subst hse
    refine W_exit ?_
    simp only [go_sem]
    refine kq3 _ _ ?_
    refine W_seq fun kz13 kq13 => ?_
    refine W_block ?_
    refine W_seq fun kz14 kq14 => ?_
    refine W_region [7, 46] fun R hR => ?_   -- r10
    simp only [go_sem]
    refine hR _ _ (kq14 _ _ ?_); clear hR R; try clear kq14 kz14
    try simp only [go_sem]
    refine W_cond rfl (fun c3 => ?_) (fun c3 => ?_)
    · -- c3 true
      try simp only [nrm] at c3
      refine W_seq fun kz15 kq15 => ?_
      refine W_region [6] fun R hR => ?_   -- r11
      simp only [go_sem]
      refine hR _ _ (kq15 _ _ ?_); clear hR R; try clear kq15 kz15
      try simp only [go_sem]
      refine W_ret ?_
      simp only [go_sem]
      refine ⟨.inr (by trivial), ?_⟩
      first | refine Fin_same hcl rfl (Wk_eq ?_ (by simp only [go_sem])) | refine Fin_self hcl rfl (Wk_eq ?_ (by simp only [go_sem]))
      try simp only [go_sem]
      all_goals
        simp only [crossOf, crAll, ← hp]; first | (simp [c3]; done) | (simp [c3, c4]; done)
    · -- c3 false
      try simp only [nrm] at c3
      refine W_seq fun kz16 kq16 => ?_
      refine W_region [48] fun R hR => ?_   -- r12
      simp only [go_sem]
      refine hR _ _ (kq16 _ _ ?_); clear hR R; try clear kq16 kz16
      try simp only [go_sem]
      refine W_cond rfl (fun c4 => ?_) (fun c4 => ?_)
      · -- c4 true
        try simp only [nrm] at c4
        refine W_seq fun kz17 kq17 => ?_
        refine W_region [6] fun R hR => ?_   -- r13
        simp only [go_sem]
        refine hR _ _ (kq17 _ _ ?_); clear hR R; try clear kq17 kz17
        try simp only [go_sem]
        refine W_ret ?_
        simp only [go_sem]
        refine ⟨.inr (by trivial), ?_⟩
        first | refine Fin_same hcl rfl (Wk_eq ?_ (by simp only [go_sem])) | refine Fin_self hcl rfl (Wk_eq ?_ (by simp only [go_sem]))
        try simp only [go_sem]
        all_goals
          simp only [crossOf, crAll, ← hp]; first | (simp [c3]; done) | (simp [c3, c4]; done)
      · -- c4 false
        try simp only [nrm] at c4
        refine W_skip (kq13 _ _ ?_)
        refine W_seq fun kz18 kq18 => ?_
        refine W_region [6] fun R hR => ?_   -- r14
        simp only [go_sem]
        refine hR _ _ (kq18 _ _ ?_); clear hR R; try clear kq18 kz18
        try simp only [go_sem]
        refine W_ret ?_
        simp only [go_sem]
        refine ⟨.inr (by trivial), ?_⟩
        first | refine Fin_same hcl rfl (Wk_eq ?_ (by simp only [go_sem])) | refine Fin_self hcl rfl (Wk_eq ?_ (by simp only [go_sem]))
        try simp only [go_sem]
        all_goals
          simp only [crossOf, crAll, ← hp]; first | (simp [c3]; done) | (simp [c3, c4]; done)

theorem rcross_pc (Y : YEnv) (σ : Sg) (ct : City) (a b : Band) (hc : ct.Ok) (ha : a.path.length < 2 ^ 50) (hb : b.path.length < 2 ^ 50) (hk : chkCity ct = 0) (ta : chkBand ct a = 0) (tb : chkBand ct b = 0) :
    PC Try.prog Y 68 [ctPV ct, bdPV a, bdPV b] σ (I (crossVal ct a b)) σ := by
  obtain ⟨a1, a2, a3, a4, a5, a6, a7, a8, a9⟩ := timesOf_ok (chkBand_ok ta).2
  obtain ⟨b1, b2, b3, b4, b5, b6, b7, b8, b9⟩ := timesOf_ok (chkBand_ok tb).2
  obtain ⟨k1, k2⟩ := chkCity_brk hk
  have e : crossVal ct a b = crossOf (meetB ct a b) a.lo a.hi b.lo b.hi := crossOf_congr (by omega) (by omega) fun i j _ _ _ _ => crossing_meet k1 (chkBand_ok ta).1 (chkBand_ok tb).1 a5 b5
  rw [e]
  exact rcross0_pc Y σ ct a b _ (by omega) (by omega) (by omega) (by omega) (by omega) (by omega) fun Y σ i j h1 h2 h3 h4 =>
    rMeet_pc Y σ ct a b i j hc ha hb k1 (by omega) (by omega) (by omega) (by omega) (by omega) (by omega) (by omega) (by omega) (by omega)
theorem chkAll_two (c : City) (a b : Band) : chkAll c [a, b] = askedOf c [a, b] := by simp [chkAll, askedOf]
set_option maxHeartbeats 2000000 in
theorem rCross_pc (Y : YEnv) (σ : Sg) (ct : City) (a b : Band) (hc : ct.Ok) (ha : a.path.length < 2 ^ 50) (hb : b.path.length < 2 ^ 50) :
    PC Try.prog Y 25 [ctPV ct, bdPV a, bdPV b] σ (.tuple [I (crossAns ct a b).1, I (crossAns ct a b).2]) (σ) := by
  refine PC_of_W Try.func25 rfl (by kernel_rfl) Try.ntmps25 (by simp) fun hcl hca => ?_
  refine W_seq fun kz1 kq1 => ?_
  refine W_region [3, 4, 5] fun R hR => ?_   -- r0
  simp only [go_sem]
  refine hR _ _ (kq1 _ _ ?_); clear hR R; try clear kq1 kz1
  try simp only [go_sem]
  refine W_seq fun kz2 kq2 => ?_
  refine W_seq fun kz3 kq3 => ?_
  refine W_region [3, 4, 5, 8] fun R hR => ?_   -- r1
  simp only [go_sem]
  refine GCall_of (PC.val (v' := I (askedOf ct [a, b])) (PC.ofRo (rcheckBands_pc Y _ ct [a, b] hc ⟨by simp, fun x hx => by simp at hx; rcases hx with rfl | rfl <;> assumption⟩) (by simp only [go_sem] <;> rfl)) (by rw [chkAll_two])) ?_   -- t13
  simp only [go_sem]
  refine hR _ _ (kq3 _ _ ?_); clear hR R; try clear kq3 kz3
  try simp only [go_sem]
  refine W_seq fun kz4 kq4 => ?_
  refine W_region [3, 4, 5, 8, 15] fun R hR => ?_   -- r2
  simp only [go_sem]
  refine hR _ _ (kq4 _ _ ?_); clear hR R; try clear kq4 kz4
  try simp only [go_sem]
  refine W_cond rfl (fun c1 => ?_) (fun c1 => ?_)
  · -- c1 true
    try simp only [nrm] at c1
    refine W_seq fun kz5 kq5 => ?_
    refine W_region [6, 7] fun R hR => ?_   -- r3
    simp only [go_sem]
    refine hR _ _ (kq5 _ _ ?_); clear hR R; try clear kq5 kz5
    try simp only [go_sem]
    refine W_ret ?_
    simp only [go_sem]
    refine ⟨.inr (by trivial), ?_⟩
    first | refine Fin_same hcl rfl (Wk_eq ?_ (by simp only [go_sem])) | refine Fin_self hcl rfl (Wk_eq ?_ (by simp only [go_sem]))
    try simp only [go_sem]
    all_goals
      simp [crossAns, c1]
  · -- c1 false
    try simp only [nrm] at c1
    have tc := chkBands_ok (askedOf_ok c1).2
    refine W_skip (kq2 _ _ ?_)
    refine W_seq fun kz6 kq6 => ?_
    refine W_region [6, 7] fun R hR => ?_   -- r4
    simp only [go_sem]
    refine GCall_of (rcross_pc Y _ ct a b hc ha hb (askedOf_ok c1).1 (tc a (by simp)) (tc b (by simp))) ?_   -- t20
    simp only [go_sem]
    refine hR _ _ (kq6 _ _ ?_); clear hR R; try clear kq6 kz6
    try simp only [go_sem]
    refine W_ret ?_
    simp only [go_sem]
    refine ⟨.inr (by trivial), ?_⟩
    first | refine Fin_same hcl rfl (Wk_eq ?_ (by simp only [go_sem])) | refine Fin_self hcl rfl (Wk_eq ?_ (by simp only [go_sem]))
    try simp only [go_sem]
    all_goals
      simp [crossAns, c1]

end Go.Proofs.Ytnpamcpoaklgeaa

namespace Go.Proofs.Ytnpamcpoaklgeaa
open Go Go.RowKit
set_option maxRecDepth 100000

/-- A list of numbers, in a list. -/
def lsPV (xs : List Int) : PV := .isl (xs.map I) .ro
theorem okC_ls {xs : List (List Int)} : okC 1 (xs.map lsPV) = True := okC_map fun x => by simp [okC, lsPV, PV.cells, PV.scalar]
theorem roL_ls {xs : List (List Int)} : PV.roL (xs.map lsPV) = xs.map lsPV := roL_enc fun x => by simp only [lsPV, ro_isl, roL_ints]
theorem cA_ls {a b c : Nat} {xs : List (List Int)} : CleanAll a b c (xs.map lsPV) = True := CleanAll_map fun x => by simp only [lsPV, go_sem]
attribute [go_sem] lsPV okC_ls roL_ls cA_ls

set_option maxHeartbeats 2000000 in
theorem rheard_pc (Y : YEnv) (σ : Sg) (b : Band) (l : List Int) (sq t : Int) (hl : l.length ≤ 1000) (h1 : -2 ^ 40 ≤ b.lo) (h2 : b.lo ≤ 2 ^ 40) (h3 : 0 ≤ b.stay) (h4 : b.stay ≤ 1000) (h5 : -2 ^ 40 ≤ b.hi) (h6 : b.hi ≤ 2 ^ 40) :
    PC Try.prog Y 106 [bdPV b, ints l, I sq, I t] σ (.bool (hFrom b sq t 0 l)) (σ) := by
  refine PC_of_W Try.func106 rfl (by kernel_rfl) Try.ntmps106 (by simp) fun hcl hca => ?_
  obtain ⟨res, hres⟩ : ∃ r, hFrom b sq t 0 l = r := ⟨_, rfl⟩
  rw [hres]
  refine W_seq fun kz1 kq1 => ?_
  refine W_region [1, 2, 3, 4] fun R hR => ?_   -- r0
  simp only [go_sem]
  refine hR _ _ (kq1 _ _ ?_); clear hR R; try clear kq1 kz1
  try simp only [go_sem]
  refine W_seq fun kz2 kq2 => ?_
  refine W_seq fun kz3 kq3 => ?_
  refine W_region [1, 2, 3, 4, 9] fun R hR => ?_   -- r1
  simp only [go_sem]
  refine hR _ _ (kq3 _ _ ?_); clear hR R; try clear kq3 kz3
  try simp only [go_sem]
  refine W_block ?_
  refine W_loopS (α := Nat) (fun (k : Nat) => [(9, I k)]) (fun (k : Nat) => k ≤ l.length ∧ res = hFrom b sq t k (l.drop k)) (fun (k : Nat) => l.length - k) (0) rfl (⟨Nat.zero_le _, hres.symm⟩) ?_
  rintro k ⟨hk, hinv⟩
  refine W_seq fun kz4 kq4 => ?_
  refine W_seq fun kz5 kq5 => ?_
  refine W_region [1, 2, 3, 4, 9, 13] fun R hR => ?_   -- r2
  simp only [go_sem]
  refine hR _ _ (kq5 _ _ ?_); clear hR R; try clear kq5 kz5
  try simp only [go_sem]
  refine W_cond rfl (fun c1 => ?_) (fun c1 => ?_)
  · -- c1 true
    try simp only [nrm] at c1
    have hi' : k < l.length := by first | assumption | omega
    obtain ⟨s, hx⟩ : ∃ s, l[k]? = some s := ⟨l[k], by simp [hi']⟩
    have hdrop : l.drop k = s :: l.drop (k + 1) := by
      rw [List.drop_eq_getElem_cons hi']; congr 1; exact (List.getElem?_eq_some_iff.1 hx).2
    rw [hdrop, hFrom_cons] at hinv
    have m1 := mul_bd (a := (k : Int)) (b := b.stay) (A := 1000) (B := 1000) (by omega) (by omega) h3 h4
    have m2 : ((k : Int) + 1) * b.stay = (k : Int) * b.stay + b.stay := by rw [Int.add_mul, Int.one_mul]
    have w1 : IntKind.i64.wrap ((k : Int) + 1) = (k : Int) + 1 := wrapI (by omega) (by omega)
    have m3 : b.hi + ((k : Int) * b.stay + b.stay) - 1 = b.hi + (k : Int) * b.stay + b.stay - 1 := by omega
    refine W_skip (kq4 _ _ ?_)
    refine W_seq fun kz6 kq6 => ?_
    refine W_block ?_
    refine W_seq fun kz7 kq7 => ?_
    refine W_region [1, 2, 3, 4, 9, 43] fun R hR => ?_   -- r4
    simp only [go_sem, hx, w1, m2]
    refine GWant_split (fun g1 => ?_) (fun g1 => ?_)
    · try simp only [Bool.not_eq_true', Bool.not_eq_false'] at g1
      have n1 := g1; try simp only [nrm] at n1
      simp only [go_sem, hx, w1, m2, g1]
      try simp (disch := omega) only [wrapI]
      refine GCall_of (rin_pc Y _ t _ _) ?_   -- t42
      simp only [go_sem, hx, w1, m2, g1]
      try simp (disch := omega) only [wrapI]
      refine hR _ _ (kq7 _ _ ?_); clear hR R; try clear kq7 kz7
      try simp only [go_sem, hx, w1, m2]
      refine W_cond rfl (fun c2 => ?_) (fun c2 => ?_)
      · -- c2 true
        try simp only [nrm] at c2
        refine W_seq fun kz8 kq8 => ?_
        refine W_region [8] fun R hR => ?_   -- r5
        simp only [go_sem, hx, w1, m2]
        refine hR _ _ (kq8 _ _ ?_); clear hR R; try clear kq8 kz8
        try simp only [go_sem, hx, w1, m2]
        refine W_ret ?_
        simp only [go_sem, hx, w1, m2]
        refine ⟨.inr (by trivial), ?_⟩
        first | refine Fin_same hcl rfl (Wk_eq ?_ (by simp only [go_sem])) | refine Fin_self hcl rfl (Wk_eq ?_ (by simp only [go_sem]))
        try simp only [go_sem]
        all_goals
          simp only [m3, inR_true] at c2
          rw [hinv, show (decide (s = sq) && decide (b.lo + (k : Int) * b.stay ≤ t) && decide (t ≤ b.hi + (k : Int) * b.stay + b.stay - 1)) = true by simp only [Bool.and_eq_true, decide_eq_true_eq]; exact ⟨⟨n1, c2.1⟩, c2.2⟩]; rfl
      · -- c2 false
        try simp only [nrm] at c2
        refine W_skip (kq6 _ _ ?_)
        refine W_region [1, 2, 3, 4, 9] fun R hR => ?_   -- r3
        simp only [go_sem, hx, w1, m2]
        try simp (disch := omega) only [wrapI]
        refine hR _ _ ?_; clear hR R
        try simp only [go_sem, hx, w1, m2]
        refine ⟨k + 1, ?_, by (try simp only []); omega, ?_⟩
        · first | exact Weak.refl | exact Weak.eq (by first | rfl | (simp only [go_sem]; done) | (simp only [go_sem]; rfl) | (simp [go_sem]; done) | (simp [go_sem]; omega)) (by first | rfl | (simp only [go_sem]; done) | (simp [go_sem]; done))
        · try dsimp only
          refine ⟨hi', ?_⟩
          have hT : (decide (s = sq) && decide (b.lo + (k : Int) * b.stay ≤ t) && decide (t ≤ b.hi + (k : Int) * b.stay + b.stay - 1)) = false := by
            rw [Bool.eq_false_iff]; intro hh; simp only [Bool.and_eq_true, decide_eq_true_eq] at hh
            first | exact n1 hh.1.1 | (simp only [m3, inR_false] at c2; omega)
          rw [hinv, hT]; rfl
    · try simp only [Bool.not_eq_true', Bool.not_eq_false'] at g1
      have n1 := g1; try simp only [nrm] at n1
      simp only [go_sem, hx, w1, m2, g1]
      try simp (disch := omega) only [wrapI]
      refine hR _ _ (kq7 _ _ ?_); clear hR R; try clear kq7 kz7
      try simp only [go_sem, hx, w1, m2]
      refine W_cond_false rfl ?_
      refine W_skip (kq6 _ _ ?_)
      refine W_region [1, 2, 3, 4, 9] fun R hR => ?_   -- r3
      simp only [go_sem, hx, w1, m2]
      try simp (disch := omega) only [wrapI]
      refine hR _ _ ?_; clear hR R
      try simp only [go_sem, hx, w1, m2]
      refine ⟨k + 1, ?_, by (try simp only []); omega, ?_⟩
      · first | exact Weak.refl | exact Weak.eq (by first | rfl | (simp only [go_sem]; done) | (simp only [go_sem]; rfl) | (simp [go_sem]; done) | (simp [go_sem]; omega)) (by first | rfl | (simp only [go_sem]; done) | (simp [go_sem]; done))
      · try dsimp only
        refine ⟨hi', ?_⟩
        have hT : (decide (s = sq) && decide (b.lo + (k : Int) * b.stay ≤ t) && decide (t ≤ b.hi + (k : Int) * b.stay + b.stay - 1)) = false := by
          rw [Bool.eq_false_iff]; intro hh; simp only [Bool.and_eq_true, decide_eq_true_eq] at hh
          first | exact n1 hh.1.1 | (simp only [m3, inR_false] at c2; omega)
        rw [hinv, hT]; rfl
  · -- c1 false
    try simp only [nrm] at c1
    have hdrop : l.drop k = [] := List.drop_eq_nil_of_le (by omega)
    rw [hdrop] at hinv
    refine W_exit ?_
    simp only [go_sem]
    refine kq2 _ _ ?_
    refine W_seq fun kz9 kq9 => ?_
    refine W_region [8] fun R hR => ?_   -- r6
    simp only [go_sem]
    refine hR _ _ (kq9 _ _ ?_); clear hR R; try clear kq9 kz9
    try simp only [go_sem]
    refine W_ret ?_
    simp only [go_sem]
    refine ⟨.inr (by trivial), ?_⟩
    first | refine Fin_same hcl rfl (Wk_eq ?_ (by simp only [go_sem])) | refine Fin_self hcl rfl (Wk_eq ?_ (by simp only [go_sem]))
    try simp only [go_sem]
    all_goals
      rw [hinv]; rfl

theorem not_any_snoc (c : City) (l : List Band) (b : Band) (sq t : Int) (s : Bool) (h : s = !(loudAt c l sq t)) : (s && !(heardB c b sq t)) = !(loudAt c (l ++ [b]) sq t) := by
  rw [loudAt_snoc, h]; simp
set_option maxHeartbeats 2000000 in
theorem rsleep_pc (Y : YEnv) (σ : Sg) (ct : City) (l : List Band) (sq : Int) (hc : ct.Ok) (hl : BandsOk l) (hlen : l.length ≤ 1000) (hv : ∀ b, b ∈ l → chkBand ct b = 0) :
    PC Try.prog Y 72 [ctPV ct, bands l, I sq] σ (.tuple [I (sleepOf (loudAt ct l sq)).1, I (sleepOf (loudAt ct l sq)).2]) (σ) := by
  refine PC_of_W Try.func72 rfl (by kernel_rfl) Try.ntmps72 (by simp) fun hcl hca => ?_
  have hl1 := hl.1
  have hl2 := hl.2
  obtain ⟨f, hf⟩ : ∃ f, f = loudAt ct l sq := ⟨_, rfl⟩
  rw [← hf]
  refine W_seq fun kz1 kq1 => ?_
  refine W_region [1, 2, 3] fun R hR => ?_   -- r0
  simp only [go_sem]
  refine hR _ _ (kq1 _ _ ?_); clear hR R; try clear kq1 kz1
  try simp only [go_sem]
  refine W_seq fun kz2 kq2 => ?_
  refine W_region [1, 2, 3, 8] fun R hR => ?_   -- r1
  simp only [go_sem]
  refine hR _ _ (kq2 _ _ ?_); clear hR R; try clear kq2 kz2
  try simp only [go_sem]
  refine W_seq fun kz3 kq3 => ?_
  refine W_seq fun kz4 kq4 => ?_
  refine W_region [1, 2, 3, 8, 9] fun R hR => ?_   -- r2
  simp only [go_sem]
  refine hR _ _ (kq4 _ _ ?_); clear hR R; try clear kq4 kz4
  try simp only [go_sem]
  refine W_block ?_
  refine W_weak (Weak.room (t := 8) (es := 1) rfl (by simp)) ?_
  refine W_weak (Weak.keep [1, 2, 3, 8, 9]) ?_
  simp only [go_sem]
  refine W_loopT (α := Nat × (List (List Int))) (fun ⟨i, ways⟩ => [(8, .isl (ways.map lsPV) (.tok σ.rooms.length ways.length 1)), (9, I i)]) (fun ⟨i, ways⟩ => σ.ext [some (ctCells ct)] [ways.length]) (fun ⟨i, ways⟩ => i ≤ l.length ∧ ways = (l.take i).map fun b => (sqs ct b).1) (fun ⟨i, ways⟩ => l.length - i) ((0, [])) rfl (by first | rfl | (simp only [go_sem]; done) | (simp only [go_sem]; rfl)) (⟨Nat.zero_le _, rfl⟩) ?_
  rintro ⟨i, ways⟩ ⟨hi, hw⟩
  have hwl : ways.length = i := by rw [hw]; simp; omega
  refine W_seq fun kz5 kq5 => ?_
  refine W_seq fun kz6 kq6 => ?_
  refine W_region [1, 2, 3, 8, 9, 21] fun R hR => ?_   -- r3
  simp only [go_sem]
  refine hR _ _ (kq6 _ _ ?_); clear hR R; try clear kq6 kz6
  try simp only [go_sem]
  refine W_cond rfl (fun c1 => ?_) (fun c1 => ?_)
  · -- c1 true
    try simp only [nrm] at c1
    have hi' : i < l.length := by first | assumption | omega
    obtain ⟨b, hx⟩ : ∃ b, l[i]? = some b := ⟨l[i], by simp [hi']⟩
    have hdrop : l.drop i = b :: l.drop (i + 1) := by
      rw [List.drop_eq_getElem_cons hi']; congr 1; exact (List.getElem?_eq_some_iff.1 hx).2
    have hbl : b ∈ l := List.mem_of_getElem? hx
    refine W_skip (kq5 _ _ ?_)
    refine W_seq fun kz7 kq7 => ?_
    refine W_block ?_
    refine W_seq fun kz8 kq8 => ?_
    refine W_draw [1, 2, 3, 8, 9, 10] [0, 1, 2, 3, 4, 5, 6, 7, 8, 9, 10] [] [[], [], [], [1, 2], [1, 2, 3], [0, 1, 2, 3, 4], [0, 1, 2, 3, 4, 5], [0, 1, 2, 3, 4, 5, 6], [0, 1, 2, 3, 4, 5, 6], [0, 1, 2, 3, 4, 5, 6, 7], [0, 1, 2, 3, 4, 5, 6, 7, 8, 9]] mixed (by kernel_rfl) fun R hR => ?_   -- r5
    simp only [go_sem, hx]
    refine GCall_of (rsquares_pc Y _ ct b hc (hl2 b hbl)) ?_   -- t30
    simp only [go_sem, hx]
    try refine And.intro (by repeat' (first | refine And.intro ?_ ?_ | exact GOr_right (fun _ => by simp only [go_sem, hx]))) ?_
    refine hR _ _ (kq8 _ _ ?_); clear hR R; try clear kq8 kz8
    try simp only [go_sem, hx]
    refine W_region [1, 2, 3, 8, 9] fun R hR => ?_   -- r6
    simp only [go_sem, hx]
    simp (disch := first | omega | (simp only [go_sem] <;> omega)) only [wrapI, appX_exact, appX_tok]
    try simp only [go_sem, hx]
    refine hR _ _ (kq7 _ _ ?_); clear hR R; try clear kq7 kz7
    try simp only [go_sem, hx]
    refine W_region [1, 2, 3, 8, 9] fun R hR => ?_   -- r4
    simp only [go_sem, hx]
    try simp (disch := omega) only [wrapI]
    refine hR _ _ ?_; clear hR R
    try simp only [go_sem, hx]
    refine ⟨(i + 1, ways ++ [(sqs ct b).1]), ?_, by (try simp only []); omega, ?_⟩
    · refine Weak.trans (Weak.cutX 1 1 (by omega) (by omega) hcl (by simp only [go_sem]) (by simp only [go_sem] <;> omega)) ?_
      simp only [go_sem]
      exact Weak.eq (by first | rfl | (simp only [go_sem]; done) | (simp only [go_sem]; rfl) | (simp [go_sem]; done) | (simp [go_sem]; omega)) (by first | rfl | (simp only [go_sem]; done) | (simp [go_sem]; done))
    · try dsimp only
      exact ⟨hi', by rw [hw, List.take_add_one, hx]; simp⟩
  · -- c1 false
    try simp only [nrm] at c1
    have hie : i = l.length := by omega
    subst hie
    rw [List.take_length] at hw
    refine W_exit ?_
    simp only [go_sem]
    refine kq3 _ _ ?_
    refine W_seq fun kz9 kq9 => ?_
    refine W_region [1, 2, 8, 12, 13, 14] fun R hR => ?_   -- r7
    simp only [go_sem]
    refine hR _ _ (kq9 _ _ ?_); clear hR R; try clear kq9 kz9
    try simp only [go_sem]
    refine W_seq fun kz10 kq10 => ?_
    refine W_seq fun kz11 kq11 => ?_
    refine W_region [1, 2, 8, 12, 13, 14, 15] fun R hR => ?_   -- r8
    simp only [go_sem]
    refine hR _ _ (kq11 _ _ ?_); clear hR R; try clear kq11 kz11
    try simp only [go_sem]
    refine W_block ?_
    refine W_loopS (α := Nat × Int × Int × Int) (fun ⟨t, frm, many, run⟩ => [(12, I frm), (13, I many), (14, I run), (15, I t)]) (fun ⟨t, frm, many, run⟩ => t ≤ 720 ∧ slRun f t = (frm, many, run)) (fun ⟨t, frm, many, run⟩ => 720 - t) ((0, 0, 0, 0)) rfl (⟨Nat.zero_le _, rfl⟩) ?_
    rintro ⟨t, frm, many, run⟩ ⟨ht0, hr⟩
    have hb := slRun_bd f t
    rw [hr] at hb
    dsimp only at hb
    obtain ⟨hb1, hb2, hb3, hb4, hb5, hb6⟩ := hb
    refine W_seq fun kz12 kq12 => ?_
    refine W_seq fun kz13 kq13 => ?_
    refine W_region [1, 2, 8, 12, 13, 14, 15, 38] fun R hR => ?_   -- r9
    simp only [go_sem]
    refine hR _ _ (kq13 _ _ ?_); clear hR R; try clear kq13 kz13
    try simp only [go_sem]
    refine W_cond rfl (fun c2 => ?_) (fun c2 => ?_)
    · -- c2 true
      try simp only [nrm] at c2
      have ht : t < 720 := by omega
      have hs : slRun f (t + 1) = slStep f t (frm, many, run) := by rw [← hr]; rfl
      refine W_skip (kq12 _ _ ?_)
      refine W_seq fun kz14 kq14 => ?_
      refine W_block ?_
      refine W_seq fun kz15 kq15 => ?_
      refine W_region [1, 2, 8, 12, 13, 14, 15, 16] fun R hR => ?_   -- r11
      simp only [go_sem]
      refine hR _ _ (kq15 _ _ ?_); clear hR R; try clear kq15 kz15
      try simp only [go_sem]
      refine W_seq fun kz16 kq16 => ?_
      refine W_seq fun kz17 kq17 => ?_
      refine W_region [1, 2, 8, 12, 13, 14, 15, 16, 17] fun R hR => ?_   -- r12
      simp only [go_sem]
      refine hR _ _ (kq17 _ _ ?_); clear hR R; try clear kq17 kz17
      try simp only [go_sem]
      refine W_block ?_
      refine W_loopS (α := Nat × Bool) (fun ⟨j, s⟩ => [(16, .bool s), (17, I j)]) (fun ⟨j, s⟩ => j ≤ l.length ∧ s = !(loudAt ct (l.take j) sq t)) (fun ⟨j, s⟩ => l.length - j) ((0, true)) rfl (⟨Nat.zero_le _, rfl⟩) ?_
      rintro ⟨j, s⟩ ⟨hj, hs0⟩
      refine W_seq fun kz18 kq18 => ?_
      refine W_seq fun kz19 kq19 => ?_
      refine W_region [1, 2, 8, 12, 13, 14, 15, 16, 17, 44] fun R hR => ?_   -- r13
      simp only [go_sem]
      refine hR _ _ (kq19 _ _ ?_); clear hR R; try clear kq19 kz19
      try simp only [go_sem]
      refine W_cond rfl (fun c3 => ?_) (fun c3 => ?_)
      · -- c3 true
        try simp only [nrm] at c3
        have hj' : j < l.length := by first | assumption | omega
        obtain ⟨b, hx⟩ : ∃ b, l[j]? = some b := ⟨l[j], by simp⟩
        have hbl : b ∈ l := List.mem_of_getElem? hx
        obtain ⟨b1, b2, b3, b4, b5, b6, b7, b8, b9⟩ := timesOf_ok (chkBand_ok (hv b hbl)).2
        have hln := (sqs_len ct b).1
        have hy : ways[j]? = some (sqs ct b).1 := by rw [hw, List.getElem?_map, hx]; rfl
        refine W_skip (kq18 _ _ ?_)
        refine W_seq fun kz20 kq20 => ?_
        refine W_block ?_
        refine W_draw [1, 2, 8, 12, 13, 14, 15, 16, 17] [0, 1, 2, 3, 4, 5, 6, 7, 8, 9, 10, 11, 12, 13, 14, 15] [] [[], [0], [0, 1], [0, 1], [0, 1, 2, 3], [0, 1, 2, 3, 4], [0, 1], [0, 1], [0, 1, 6, 7], [0, 1, 6, 7, 8], [0, 1], [0, 1], [0, 1, 2, 3, 4, 5, 6, 7, 8, 9, 10, 11], [0, 1, 2, 3, 4, 5, 6, 7, 8, 9, 10, 11, 12], [0, 1, 2, 3, 4, 5, 6, 7, 8, 9, 10, 11, 12, 13], [0, 1, 2, 3, 4, 5, 6, 7, 8, 9, 10, 11, 12, 13, 14]] mixed (by kernel_rfl) fun R hR => ?_   -- r15
        simp only [go_sem, hx, hy]
        refine GWant_split (fun g1 => ?_) (fun g1 => ?_)
        · try simp only [Bool.not_eq_true', Bool.not_eq_false'] at g1
          have n1 := g1; try simp only [nrm] at n1
          simp only [go_sem, hx, hy, g1]
          refine GCall_of (rheard_pc Y _ b (sqs ct b).1 sq t (by omega) (by omega) (by omega) (by omega) (by omega) (by omega) (by omega)) ?_   -- t59
          simp only [go_sem, hx, hy, g1]
          try refine And.intro (by repeat' (first | refine And.intro ?_ ?_ | exact GOr_right (fun _ => by simp only [go_sem, hx, hy]))) ?_
          refine hR _ _ (kq20 _ _ ?_); clear hR R; try clear kq20 kz20
          try simp only [go_sem, hx, hy]
          refine W_region [1, 2, 8, 12, 13, 14, 15, 16, 17] fun R hR => ?_   -- r14
          simp only [go_sem, hx, hy]
          try simp (disch := omega) only [wrapI]
          refine hR _ _ ?_; clear hR R
          try simp only [go_sem, hx, hy]
          refine ⟨(j + 1, !(hFrom b sq t 0 (sqs ct b).1)), ?_, by (try simp only []); omega, ?_⟩
          · first | exact Weak.refl | exact Weak.eq (by first | rfl | (simp only [go_sem]; done) | (simp only [go_sem]; rfl) | (simp [go_sem]; done) | (simp [go_sem]; omega)) (by first | rfl | (simp only [go_sem]; done) | (simp [go_sem]; done))
          · try dsimp only
            refine ⟨hj', ?_⟩
            rw [take_snoc hx, ← not_any_snoc ct (l.take j) b sq t s hs0, n1]; rfl
        · try simp only [Bool.not_eq_true', Bool.not_eq_false'] at g1
          have n1 := g1; try simp only [nrm] at n1
          simp only [go_sem, hx, hy, g1]
          try refine And.intro (by repeat' (first | refine And.intro ?_ ?_ | exact GOr_right (fun _ => by simp only [go_sem, hx, hy]))) ?_
          refine hR _ _ (kq20 _ _ ?_); clear hR R; try clear kq20 kz20
          try simp only [go_sem, hx, hy]
          refine W_region [1, 2, 8, 12, 13, 14, 15, 16, 17] fun R hR => ?_   -- r14
          simp only [go_sem, hx, hy]
          try simp (disch := omega) only [wrapI]
          refine hR _ _ ?_; clear hR R
          try simp only [go_sem, hx, hy]
          refine ⟨(j + 1, false), ?_, by (try simp only []); omega, ?_⟩
          · first | exact Weak.refl | exact Weak.eq (by first | rfl | (simp only [go_sem]; done) | (simp only [go_sem]; rfl) | (simp [go_sem]; done) | (simp [go_sem]; omega)) (by first | rfl | (simp only [go_sem]; done) | (simp [go_sem]; done))
          · try dsimp only
            refine ⟨hj', ?_⟩
            rw [take_snoc hx, ← not_any_snoc ct (l.take j) b sq t s hs0, n1]; rfl
      · -- c3 false
        try simp only [nrm] at c3
        have hje : j = l.length := by omega
        subst hje
        rw [List.take_length] at hs0
        have hs1 : s = !(f t) := by rw [hs0, hf]
        refine W_exit ?_
        simp only [go_sem]
        refine kq16 _ _ ?_
        refine W_seq fun kz21 kq21 => ?_
        refine W_region [1, 2, 8, 12, 13, 14, 15, 16] fun R hR => ?_   -- r16
        simp only [go_sem]
        try simp (disch := omega) only [wrapI]
        refine hR _ _ (kq21 _ _ ?_); clear hR R; try clear kq21 kz21
        try simp only [go_sem]
        refine W_seq fun kz22 kq22 => ?_
        refine W_seq fun kz23 kq23 => ?_
        refine W_region [1, 2, 8, 12, 13, 14, 15, 65] fun R hR => ?_   -- r17
        simp only [go_sem]
        refine hR _ _ (kq23 _ _ ?_); clear hR R; try clear kq23 kz23
        try simp only [go_sem]
        refine W_cond rfl (fun c4 => ?_) (fun c4 => ?_)
        · -- c4 true
          try simp only [nrm] at c4
          refine W_region [1, 2, 8, 12, 13, 14, 15] fun R hR => ?_   -- r18
          simp only [go_sem]
          refine hR _ _ (kq22 _ _ ?_); clear hR R; try clear kq22 kz22
          try simp only [go_sem]
          refine W_seq fun kz24 kq24 => ?_
          refine W_region [1, 2, 8, 12, 13, 14, 15, 68] fun R hR => ?_   -- r19
          simp only [go_sem]
          refine hR _ _ (kq24 _ _ ?_); clear hR R; try clear kq24 kz24
          try simp only [go_sem]
          refine W_cond rfl (fun c5 => ?_) (fun c5 => ?_)
          · -- c5 true
            try simp only [nrm] at c5
            refine W_region [1, 2, 8, 12, 13, 14, 15] fun R hR => ?_   -- r20
            simp only [go_sem]
            try simp (disch := omega) only [wrapI]
            refine hR _ _ (kq14 _ _ ?_); clear hR R; try clear kq14 kz14
            try simp only [go_sem]
            refine W_region [1, 2, 8, 12, 13, 14, 15] fun R hR => ?_   -- r10
            simp only [go_sem]
            try simp (disch := omega) only [wrapI]
            refine hR _ _ ?_; clear hR R
            try simp only [go_sem]
            refine ⟨(t + 1, frm, many, 0), ?_, by (try simp only []); omega, ?_⟩
            · first | exact Weak.refl | exact Weak.eq (by first | rfl | (simp only [go_sem]; done) | (simp only [go_sem]; rfl) | (simp [go_sem]; done) | (simp [go_sem]; omega)) (by first | rfl | (simp only [go_sem]; done) | (simp [go_sem]; done))
            · try dsimp only
              refine ⟨by omega, ?_⟩
              have hft : f t = !s := by rw [hs1]; simp
              rw [c4] at hft
              clear hf hs0 hs1
              rw [hs]
              simp [slStep, *]
              try omega
          · -- c5 false
            try simp only [nrm] at c5
            refine W_skip (kq14 _ _ ?_)
            refine W_region [1, 2, 8, 12, 13, 14, 15] fun R hR => ?_   -- r10
            simp only [go_sem]
            try simp (disch := omega) only [wrapI]
            refine hR _ _ ?_; clear hR R
            try simp only [go_sem]
            refine ⟨(t + 1, frm, many, 0), ?_, by (try simp only []); omega, ?_⟩
            · first | exact Weak.refl | exact Weak.eq (by first | rfl | (simp only [go_sem]; done) | (simp only [go_sem]; rfl) | (simp [go_sem]; done) | (simp [go_sem]; omega)) (by first | rfl | (simp only [go_sem]; done) | (simp [go_sem]; done))
            · try dsimp only
              refine ⟨by omega, ?_⟩
              have hft : f t = !s := by rw [hs1]; simp
              rw [c4] at hft
              clear hf hs0 hs1
              rw [hs]
              simp [slStep, *]
              try omega
        · -- c4 false
          try simp only [nrm] at c4
          refine W_skip (kq22 _ _ ?_)
          refine W_seq fun kz25 kq25 => ?_
          refine W_region [1, 2, 8, 12, 13, 14, 15, 68] fun R hR => ?_   -- r19
          simp only [go_sem]
          refine hR _ _ (kq25 _ _ ?_); clear hR R; try clear kq25 kz25
          try simp only [go_sem]
          refine W_cond rfl (fun c6 => ?_) (fun c6 => ?_)
          · -- c6 true
            try simp only [nrm] at c6
            refine W_region [1, 2, 8, 12, 13, 14, 15] fun R hR => ?_   -- r20
            simp only [go_sem]
            try simp (disch := omega) only [wrapI]
            refine hR _ _ (kq14 _ _ ?_); clear hR R; try clear kq14 kz14
            try simp only [go_sem]
            refine W_region [1, 2, 8, 12, 13, 14, 15] fun R hR => ?_   -- r10
            simp only [go_sem]
            try simp (disch := omega) only [wrapI]
            refine hR _ _ ?_; clear hR R
            try simp only [go_sem]
            refine ⟨(t + 1, (t : Int) - (run + 1) + 1, run + 1, run + 1), ?_, by (try simp only []); omega, ?_⟩
            · first | exact Weak.refl | exact Weak.eq (by first | rfl | (simp only [go_sem]; done) | (simp only [go_sem]; rfl) | (simp [go_sem]; done) | (simp [go_sem]; omega)) (by first | rfl | (simp only [go_sem]; done) | (simp [go_sem]; done))
            · try dsimp only
              refine ⟨by omega, ?_⟩
              have hft : f t = !s := by rw [hs1]; simp
              rw [c4] at hft
              clear hf hs0 hs1
              rw [hs]
              simp [slStep, *]
              try omega
          · -- c6 false
            try simp only [nrm] at c6
            refine W_skip (kq14 _ _ ?_)
            refine W_region [1, 2, 8, 12, 13, 14, 15] fun R hR => ?_   -- r10
            simp only [go_sem]
            try simp (disch := omega) only [wrapI]
            refine hR _ _ ?_; clear hR R
            try simp only [go_sem]
            refine ⟨(t + 1, frm, many, run + 1), ?_, by (try simp only []); omega, ?_⟩
            · first | exact Weak.refl | exact Weak.eq (by first | rfl | (simp only [go_sem]; done) | (simp only [go_sem]; rfl) | (simp [go_sem]; done) | (simp [go_sem]; omega)) (by first | rfl | (simp only [go_sem]; done) | (simp [go_sem]; done))
            · try dsimp only
              refine ⟨by omega, ?_⟩
              have hft : f t = !s := by rw [hs1]; simp
              rw [c4] at hft
              clear hf hs0 hs1
              rw [hs]
              simp [slStep, *]
              try omega
    · -- c2 false
      try simp only [nrm] at c2
      have hte : t = 720 := by omega
      subst hte
      refine W_exit ?_
      simp only [go_sem]
      refine kq10 _ _ ?_
      refine W_seq fun kz26 kq26 => ?_
      refine W_region [6, 7] fun R hR => ?_   -- r21
      simp only [go_sem]
      refine hR _ _ (kq26 _ _ ?_); clear hR R; try clear kq26 kz26
      try simp only [go_sem]
      refine W_ret ?_
      simp only [go_sem]
      refine ⟨.inr (by trivial), ?_⟩
      first | refine Fin_same hcl rfl (Wk_eq ?_ (by simp only [go_sem])) | refine Fin_self hcl rfl (Wk_eq ?_ (by simp only [go_sem]))
      try simp only [go_sem]
      all_goals
        simp [sleepOf, hr]

set_option maxHeartbeats 2000000 in
theorem rSleep_pc (Y : YEnv) (σ : Sg) (ct : City) (l : List Band) (sq : Int) (hc : ct.Ok) (hl : BandsOk l) :
    PC Try.prog Y 27 [ctPV ct, bands l, I sq] σ (.tuple [I (sleepAns ct l sq).1, I (sleepAns ct l sq).2.1, I (sleepAns ct l sq).2.2]) (σ) := by
  refine PC_of_W Try.func27 rfl (by kernel_rfl) Try.ntmps27 (by simp) fun hcl hca => ?_
  have hr := hc.hr
  refine W_seq fun kz1 kq1 => ?_
  refine W_region [1, 2, 3] fun R hR => ?_   -- r0
  simp only [go_sem]
  refine hR _ _ (kq1 _ _ ?_); clear hR R; try clear kq1 kz1
  try simp only [go_sem]
  refine W_seq fun kz2 kq2 => ?_
  refine W_seq fun kz3 kq3 => ?_
  refine W_region [1, 2, 3, 9] fun R hR => ?_   -- r1
  simp only [go_sem]
  refine GCall_of (rcheckBands_pc Y _ ct l hc hl) ?_   -- t14
  simp only [go_sem]
  refine hR _ _ (kq3 _ _ ?_); clear hR R; try clear kq3 kz3
  try simp only [go_sem]
  refine W_seq fun kz4 kq4 => ?_
  refine W_region [1, 2, 3, 9, 16] fun R hR => ?_   -- r2
  simp only [go_sem]
  refine hR _ _ (kq4 _ _ ?_); clear hR R; try clear kq4 kz4
  try simp only [go_sem]
  refine W_cond rfl (fun c1 => ?_) (fun c1 => ?_)
  · -- c1 true
    try simp only [nrm] at c1
    refine W_seq fun kz5 kq5 => ?_
    refine W_region [6, 7, 8] fun R hR => ?_   -- r3
    simp only [go_sem]
    refine hR _ _ (kq5 _ _ ?_); clear hR R; try clear kq5 kz5
    try simp only [go_sem]
    refine W_ret ?_
    simp only [go_sem]
    refine ⟨.inr (by trivial), ?_⟩
    first | refine Fin_same hcl rfl (Wk_eq ?_ (by simp only [go_sem])) | refine Fin_self hcl rfl (Wk_eq ?_ (by simp only [go_sem]))
    try simp only [go_sem]
    all_goals
      simp [sleepAns, c1, *]
  · -- c1 false
    try simp only [nrm] at c1
    refine W_skip (kq2 _ _ ?_)
    refine W_seq fun kz6 kq6 => ?_
    refine W_seq fun kz7 kq7 => ?_
    refine W_region [1, 2, 3, 25] fun R hR => ?_   -- r4
    simp only [go_sem]
    try simp (disch := omega) only [wrapI]
    refine GCall_of (rin_pc Y _ sq 0 _) ?_   -- t24
    simp only [go_sem]
    try simp (disch := omega) only [wrapI]
    refine hR _ _ (kq7 _ _ ?_); clear hR R; try clear kq7 kz7
    try simp only [go_sem]
    refine W_cond rfl (fun c2 => ?_) (fun c2 => ?_)
    · -- c2 true
      try simp only [nrm] at c2
      refine W_seq fun kz8 kq8 => ?_
      refine W_region [6, 7, 8] fun R hR => ?_   -- r5
      simp only [go_sem]
      refine hR _ _ (kq8 _ _ ?_); clear hR R; try clear kq8 kz8
      try simp only [go_sem]
      refine W_ret ?_
      simp only [go_sem]
      refine ⟨.inr (by trivial), ?_⟩
      first | refine Fin_same hcl rfl (Wk_eq ?_ (by simp only [go_sem])) | refine Fin_self hcl rfl (Wk_eq ?_ (by simp only [go_sem]))
      try simp only [go_sem]
      all_goals
        simp [sleepAns, c1, *]
    · -- c2 false
      try simp only [nrm] at c2
      refine W_skip (kq6 _ _ ?_)
      refine W_seq fun kz9 kq9 => ?_
      refine W_region [10, 11] fun R hR => ?_   -- r6
      simp only [go_sem]
      refine GCall_of (rsleep_pc Y _ ct l sq hc hl (by have := (chkAll_ok c1).2.1; omega) (chkBands_ok (chkAll_ok c1).2.2)) ?_   -- t30
      simp only [go_sem]
      refine hR _ _ (kq9 _ _ ?_); clear hR R; try clear kq9 kz9
      try simp only [go_sem]
      refine W_seq fun kz10 kq10 => ?_
      refine W_region [6, 7, 8] fun R hR => ?_   -- r7
      simp only [go_sem]
      refine hR _ _ (kq10 _ _ ?_); clear hR R; try clear kq10 kz10
      try simp only [go_sem]
      refine W_ret ?_
      simp only [go_sem]
      refine ⟨.inr (by trivial), ?_⟩
      first | refine Fin_same hcl rfl (Wk_eq ?_ (by simp only [go_sem])) | refine Fin_self hcl rfl (Wk_eq ?_ (by simp only [go_sem]))
      try simp only [go_sem]
      all_goals
        simp [sleepAns, c1, *]

end Go.Proofs.Ytnpamcpoaklgeaa

namespace Go.Proofs.Ytnpamcpoaklgeaa
open Go Go.RowKit
set_option maxRecDepth 100000

def wideB (c : City) (l : List Band) : Bool :=
  (c.town.groups.take 20).any (fun g => decide (20 < (g.path.length : Int))) || l.any (fun b => decide (15 < (b.path.length : Int))) || decide (20 < (c.town.rooms.length : Int)) || decide (20 < (c.town.streets.length : Int)) || decide (20 < (c.town.groups.length : Int)) ||
  decide (20 < (c.sleep.length : Int)) || decide (12 < (l.length : Int))
theorem any_take' {α : Type} {q : α → Bool} {l : List α} {i : Nat} {x : α} (h : l[i]? = some x) : (l.take (i + 1)).any q = ((l.take i).any q || q x) := by
  rw [List.take_add_one, h]; simp
theorem take_take' {α : Type} {l : List α} {i n : Nat} (h : i ≤ n) : (l.take n).take i = l.take i := by rw [List.take_take, Nat.min_eq_left h]
theorem wide_not {c : City} {l : List Band} (h : wideB c l = false) : c.town.rooms.length ≤ 20 ∧ c.town.streets.length ≤ 20 ∧ c.town.groups.length ≤ 20 ∧ c.sleep.length ≤ 20 ∧ l.length ≤ 12 ∧ (∀ g, g ∈ c.town.groups → g.path.length ≤ 20) ∧ ∀ b, b ∈ l → b.path.length ≤ 15 := by
  unfold wideB at h
  simp only [Bool.or_eq_false_iff, decide_eq_false_iff_not] at h
  obtain ⟨⟨⟨⟨⟨⟨h1, h2⟩, h3⟩, h4⟩, h5⟩, h6⟩, h7⟩ := h
  refine ⟨by omega, by omega, by omega, by omega, by omega, fun g hg => ?_, fun b hb => ?_⟩
  · rw [List.take_of_length_le (by omega)] at h1
    have := List.any_eq_false.1 h1 g hg
    simp at this; omega
  · have := List.any_eq_false.1 h2 b hb
    simp at this; omega

set_option maxHeartbeats 2000000 in
theorem wide_pc (Y : YEnv) (σ : Sg) (c : City) (l : List Band) (hc : c.Ok) (hl : l.length < 2 ^ 50) :
    PC Try.prog Y 15 [ctPV c, bands l] σ (.bool (wideB c l)) (σ) := by
  refine PC_of_W Try.func15 rfl (by kernel_rfl) Try.ntmps15 (by simp) fun hcl hca => ?_
  have hg := hc.hg
  refine W_seq fun kz1 kq1 => ?_
  refine W_region [1, 2] fun R hR => ?_   -- r0
  simp only [go_sem]
  refine hR _ _ (kq1 _ _ ?_); clear hR R; try clear kq1 kz1
  try simp only [go_sem]
  refine W_seq fun kz2 kq2 => ?_
  refine W_seq fun kz3 kq3 => ?_
  refine W_region [1, 2, 5] fun R hR => ?_   -- r1
  simp only [go_sem]
  refine hR _ _ (kq3 _ _ ?_); clear hR R; try clear kq3 kz3
  try simp only [go_sem]
  refine W_block ?_
  refine W_loopS (α := Nat) (fun (i : Nat) => [(5, I i)]) (fun (i : Nat) => i ≤ c.town.groups.length ∧ i ≤ 20 ∧ (c.town.groups.take i).any (fun g => decide (20 < (g.path.length : Int))) = false) (fun (i : Nat) => c.town.groups.length - i) (0) rfl (⟨Nat.zero_le _, by omega, rfl⟩) ?_
  rintro i ⟨hi, hi20, ha⟩
  refine W_seq fun kz4 kq4 => ?_
  refine W_seq fun kz5 kq5 => ?_
  refine W_regionJ [1, 2, 5, 16] [(16, .bool (decide (i < c.town.groups.length) && decide (i < 20)))] ?_ fun R hR => ?_   -- r2
  · refine kq5 _ _ ?_
    simp only [go_sem]
    refine W_cond rfl (fun c1 => ?_) (fun c1 => ?_)
    · -- c1 true
      try simp only [nrm] at c1
      simp only [Bool.and_eq_true, decide_eq_true_eq] at c1
      have hi' : i < c.town.groups.length := c1.1
      obtain ⟨g, hx⟩ : ∃ g, c.town.groups[i]? = some g := ⟨c.town.groups[i], by simp⟩
      refine W_skip (kq4 _ _ ?_)
      refine W_seq fun kz6 kq6 => ?_
      refine W_block ?_
      refine W_seq fun kz7 kq7 => ?_
      refine W_region [1, 2, 5, 27] fun R hR => ?_   -- r4
      simp only [go_sem, hx]
      refine hR _ _ (kq7 _ _ ?_); clear hR R; try clear kq7 kz7
      try simp only [go_sem, hx]
      refine W_cond rfl (fun c2 => ?_) (fun c2 => ?_)
      · -- c2 true
        try simp only [nrm] at c2
        refine W_seq fun kz8 kq8 => ?_
        refine W_region [4] fun R hR => ?_   -- r5
        simp only [go_sem, hx]
        refine hR _ _ (kq8 _ _ ?_); clear hR R; try clear kq8 kz8
        try simp only [go_sem, hx]
        refine W_ret ?_
        simp only [go_sem, hx]
        refine ⟨.inr (by trivial), ?_⟩
        first | refine Fin_same hcl rfl (Wk_eq ?_ (by simp only [go_sem])) | refine Fin_self hcl rfl (Wk_eq ?_ (by simp only [go_sem]))
        try simp only [go_sem]
        all_goals
          have hga : (c.town.groups.take 20).any (fun g => decide (20 < (g.path.length : Int))) = true := List.any_eq_true.2 ⟨g, List.mem_of_getElem? (i := i) (by rw [List.getElem?_take_of_lt (by omega)]; exact hx), by simp [c2]⟩
          simp only [wideB, hga, Bool.true_or]
      · -- c2 false
        try simp only [nrm] at c2
        refine W_skip (kq6 _ _ ?_)
        refine W_region [1, 2, 5] fun R hR => ?_   -- r3
        simp only [go_sem, hx]
        try simp (disch := omega) only [wrapI]
        refine hR _ _ ?_; clear hR R
        try simp only [go_sem, hx]
        refine ⟨i + 1, ?_, by (try simp only []); omega, ?_⟩
        · first | exact Weak.refl | exact Weak.eq (by first | rfl | (simp only [go_sem]; done) | (simp only [go_sem]; rfl) | (simp [go_sem]; done) | (simp [go_sem]; omega)) (by first | rfl | (simp only [go_sem]; done) | (simp [go_sem]; done))
        · try dsimp only
          exact ⟨by omega, by omega, by rw [any_take' hx, ha]; simp [c2]⟩
    · -- c1 false
      try simp only [nrm] at c1
      have hga : (c.town.groups.take 20).any (fun g => decide (20 < (g.path.length : Int))) = false := by
        simp only [Bool.and_eq_false_iff, decide_eq_false_iff_not] at c1
        by_cases h20 : i = 20
        · subst h20; exact ha
        · rw [List.take_of_length_le (by omega)] at ha ⊢; exact ha
      refine W_exit ?_
      simp only [go_sem]
      refine kq2 _ _ ?_
      refine W_seq fun kz9 kq9 => ?_
      refine W_seq fun kz10 kq10 => ?_
      refine W_region [1, 2, 6] fun R hR => ?_   -- r6
      simp only [go_sem]
      refine hR _ _ (kq10 _ _ ?_); clear hR R; try clear kq10 kz10
      try simp only [go_sem]
      refine W_block ?_
      refine W_loopS (α := Nat) (fun (j : Nat) => [(6, I j)]) (fun (j : Nat) => j ≤ l.length ∧ (l.take j).any (fun b => decide (15 < (b.path.length : Int))) = false) (fun (j : Nat) => l.length - j) (0) rfl (⟨Nat.zero_le _, rfl⟩) ?_
      rintro j ⟨hj, hb⟩
      refine W_seq fun kz11 kq11 => ?_
      refine W_seq fun kz12 kq12 => ?_
      refine W_region [1, 2, 6, 31] fun R hR => ?_   -- r7
      simp only [go_sem]
      refine hR _ _ (kq12 _ _ ?_); clear hR R; try clear kq12 kz12
      try simp only [go_sem]
      refine W_cond rfl (fun c3 => ?_) (fun c3 => ?_)
      · -- c3 true
        try simp only [nrm] at c3
        have hi' : j < l.length := by first | assumption | omega
        obtain ⟨b, hx⟩ : ∃ b, l[j]? = some b := ⟨l[j], by simp [hi']⟩
        have hdrop : l.drop j = b :: l.drop (j + 1) := by
          rw [List.drop_eq_getElem_cons hi']; congr 1; exact (List.getElem?_eq_some_iff.1 hx).2
        refine W_skip (kq11 _ _ ?_)
        refine W_seq fun kz13 kq13 => ?_
        refine W_block ?_
        refine W_seq fun kz14 kq14 => ?_
        refine W_region [1, 2, 6, 40] fun R hR => ?_   -- r9
        simp only [go_sem, hx]
        refine hR _ _ (kq14 _ _ ?_); clear hR R; try clear kq14 kz14
        try simp only [go_sem, hx]
        refine W_cond rfl (fun c4 => ?_) (fun c4 => ?_)
        · -- c4 true
          try simp only [nrm] at c4
          refine W_seq fun kz15 kq15 => ?_
          refine W_region [4] fun R hR => ?_   -- r10
          simp only [go_sem, hx]
          refine hR _ _ (kq15 _ _ ?_); clear hR R; try clear kq15 kz15
          try simp only [go_sem, hx]
          refine W_ret ?_
          simp only [go_sem, hx]
          refine ⟨.inr (by trivial), ?_⟩
          first | refine Fin_same hcl rfl (Wk_eq ?_ (by simp only [go_sem])) | refine Fin_self hcl rfl (Wk_eq ?_ (by simp only [go_sem]))
          try simp only [go_sem]
          all_goals
            have hba : l.any (fun b => decide (15 < (b.path.length : Int))) = true := List.any_eq_true.2 ⟨b, List.mem_of_getElem? hx, by simp [c4]⟩
            simp only [wideB, hba, Bool.true_or, Bool.or_true]
        · -- c4 false
          try simp only [nrm] at c4
          refine W_skip (kq13 _ _ ?_)
          refine W_region [1, 2, 6] fun R hR => ?_   -- r8
          simp only [go_sem, hx]
          try simp (disch := omega) only [wrapI]
          refine hR _ _ ?_; clear hR R
          try simp only [go_sem, hx]
          refine ⟨j + 1, ?_, by (try simp only []); omega, ?_⟩
          · first | exact Weak.refl | exact Weak.eq (by first | rfl | (simp only [go_sem]; done) | (simp only [go_sem]; rfl) | (simp [go_sem]; done) | (simp [go_sem]; omega)) (by first | rfl | (simp only [go_sem]; done) | (simp [go_sem]; done))
          · try dsimp only
            exact ⟨hi', by rw [any_take' hx, hb]; simp [c4]⟩
      · -- c3 false
        try simp only [nrm] at c3
        have hje : j = l.length := by omega
        subst hje
        rw [List.take_length] at hb
        refine W_exit ?_
        simp only [go_sem]
        refine kq9 _ _ ?_
        refine W_seq fun kz16 kq16 => ?_
        refine W_region [4] fun R hR => ?_   -- r11
        simp only [go_sem]
        refine GWant_split (fun g1 => ?_) (fun g1 => ?_)
        · try simp only [Bool.not_eq_true', Bool.not_eq_false'] at g1
          have n1 := g1; try simp only [nrm] at n1
          simp only [go_sem, g1]
          refine GWant_split (fun g2 => ?_) (fun g2 => ?_)
          · try simp only [Bool.not_eq_true', Bool.not_eq_false'] at g2
            have n2 := g2; try simp only [nrm] at n2
            simp only [go_sem, g1, g2]
            refine GWant_split (fun g3 => ?_) (fun g3 => ?_)
            · try simp only [Bool.not_eq_true', Bool.not_eq_false'] at g3
              have n3 := g3; try simp only [nrm] at n3
              simp only [go_sem, g1, g2, g3]
              refine GWant_split (fun g4 => ?_) (fun g4 => ?_)
              · try simp only [Bool.not_eq_true', Bool.not_eq_false'] at g4
                have n4 := g4; try simp only [nrm] at n4
                simp only [go_sem, g1, g2, g3, g4]
                refine hR _ _ (kq16 _ _ ?_); clear hR R; try clear kq16 kz16
                try simp only [go_sem]
                refine W_ret ?_
                simp only [go_sem]
                refine ⟨.inr (by trivial), ?_⟩
                first | refine Fin_same hcl rfl (Wk_eq ?_ (by simp only [go_sem])) | refine Fin_self hcl rfl (Wk_eq ?_ (by simp only [go_sem]))
                try simp only [go_sem]
                all_goals
                  simp only [wideB, hga, hb]; simp [*]
              · try simp only [Bool.not_eq_true', Bool.not_eq_false'] at g4
                have n4 := g4; try simp only [nrm] at n4
                simp only [go_sem, g1, g2, g3, g4]
                refine hR _ _ (kq16 _ _ ?_); clear hR R; try clear kq16 kz16
                try simp only [go_sem]
                refine W_ret ?_
                simp only [go_sem]
                refine ⟨.inr (by trivial), ?_⟩
                first | refine Fin_same hcl rfl (Wk_eq ?_ (by simp only [go_sem])) | refine Fin_self hcl rfl (Wk_eq ?_ (by simp only [go_sem]))
                try simp only [go_sem]
                all_goals
                  simp only [wideB, hga, hb]; simp [*]
            · try simp only [Bool.not_eq_true', Bool.not_eq_false'] at g3
              have n3 := g3; try simp only [nrm] at n3
              simp only [go_sem, g1, g2, g3]
              refine hR _ _ (kq16 _ _ ?_); clear hR R; try clear kq16 kz16
              try simp only [go_sem]
              refine W_ret ?_
              simp only [go_sem]
              refine ⟨.inr (by trivial), ?_⟩
              first | refine Fin_same hcl rfl (Wk_eq ?_ (by simp only [go_sem])) | refine Fin_self hcl rfl (Wk_eq ?_ (by simp only [go_sem]))
              try simp only [go_sem]
              all_goals
                simp only [wideB, hga, hb]; simp [*]
          · try simp only [Bool.not_eq_true', Bool.not_eq_false'] at g2
            have n2 := g2; try simp only [nrm] at n2
            simp only [go_sem, g1, g2]
            refine hR _ _ (kq16 _ _ ?_); clear hR R; try clear kq16 kz16
            try simp only [go_sem]
            refine W_ret ?_
            simp only [go_sem]
            refine ⟨.inr (by trivial), ?_⟩
            first | refine Fin_same hcl rfl (Wk_eq ?_ (by simp only [go_sem])) | refine Fin_self hcl rfl (Wk_eq ?_ (by simp only [go_sem]))
            try simp only [go_sem]
            all_goals
              simp only [wideB, hga, hb]; simp [*]
        · try simp only [Bool.not_eq_true', Bool.not_eq_false'] at g1
          have n1 := g1; try simp only [nrm] at n1
          simp only [go_sem, g1]
          refine hR _ _ (kq16 _ _ ?_); clear hR R; try clear kq16 kz16
          try simp only [go_sem]
          refine W_ret ?_
          simp only [go_sem]
          refine ⟨.inr (by trivial), ?_⟩
          first | refine Fin_same hcl rfl (Wk_eq ?_ (by simp only [go_sem])) | refine Fin_self hcl rfl (Wk_eq ?_ (by simp only [go_sem]))
          try simp only [go_sem]
          all_goals
            simp only [wideB, hga, hb]; simp [*]
  · simp only [go_sem]
    refine GWant_split (fun g5 => ?_) (fun g5 => ?_)
    · try simp only [Bool.not_eq_true', Bool.not_eq_false'] at g5
      have n5 := g5; try simp only [nrm] at n5
      simp only [go_sem, g5]
      refine hR _ ?_
      try simp only [go_sem]
      all_goals
        first | rfl | (simp [*]; done) | (simp [*]; omega)
    · try simp only [Bool.not_eq_true', Bool.not_eq_false'] at g5
      have n5 := g5; try simp only [nrm] at n5
      simp only [go_sem, g5]
      refine hR _ ?_
      try simp only [go_sem]
      all_goals
        first | rfl | (simp [*]; done) | (simp [*]; omega)

end Go.Proofs.Ytnpamcpoaklgeaa
