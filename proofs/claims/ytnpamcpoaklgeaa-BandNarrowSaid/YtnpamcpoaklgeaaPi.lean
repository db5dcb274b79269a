/-
  Walks: requests of bands (band).
  Walks: permits, one after the other (band).
  Walks: the chapter's examples (baterialaw07).
  Cities and bands made of numbers are valid.
-/
import Derived.Test.YtnpamcpoaklgeaaPh
import Derived.Test.YtnpamcpoaklgeaaPc
import Derived.Test.YtnpamcpoaklgeaaPd
set_option linter.unusedSimpArgs false
set_option linter.unusedVariables false
namespace Go.Proofs.Ytnpamcpoaklgeaa
open Go Go.RowKit
set_option maxRecDepth 100000

def reqPV (c : City) (w : List Band) (b : Band) : PV := .agg [ints c.town.rooms, .isl (c.town.streets.map stPV) .ro, .isl (c.town.groups.map grPV) .ro, I c.town.steps, I c.brk, ints c.sleep, bands w, I b.first, ints b.path, I b.lo, I b.hi, I b.stay, I b.people]
attribute [go_sem] reqPV
def clashOf (c : City) (b : Band) : List Band → Int
  | [] => 0
  | x :: r => if crossVal c b x ≠ 2 then 10 else clashOf c b r
def overL (c : City) (b : Band) : List Int → Int
  | [] => 0
  | s :: r => if (c.town.rooms[s.toNat]?).getD 0 < b.people then 13 else overL c b r
def overOf (c : City) (b : Band) : Int := overL c b (sqs c b).1
def awkL (c : City) (l : List Band) : Nat → List Int → Int
  | _, [] => 0
  | k, owed :: r => if (sleepOf (loudAt c l k)).2 < owed then 11 else awkL c l (k + 1) r
def awkOf (c : City) (l : List Band) : Int := awkL c l 0 c.sleep
def firstOf : List Int → Int
  | [] => 0
  | e :: r => if e ≠ 0 then e else firstOf r
def reqOf (c : City) (w : List Band) (b : Band) : Int := firstOf [clashOf c b w, overOf c b, awkOf c (w ++ [b])]
/-- A function that is called with a value first. -/
def fnPV (q : PV) (p : Nat × Int) : PV := .func (.func p.1) [q] []
attribute [go_sem] fnPV

set_option maxHeartbeats 2000000 in
theorem first_pc (Y : YEnv) (σ : Sg) (l : List (Nat × Int)) (q : PV) (hl : l.length < 2 ^ 50) (h : ∀ p, p ∈ l → ∀ (σ : Sg), PC Try.prog Y p.1 [q] σ (I p.2) σ) :
    PC Try.prog Y 107 [.isl (l.map (fnPV q)) .exact] σ (I (firstOf (l.map (·.2)))) (σ) := by
  refine PC_of_W Try.func107 rfl (by kernel_rfl) Try.ntmps107 (by simp) fun hcl hca => ?_
  obtain ⟨res, hres⟩ : ∃ r, firstOf (l.map (·.2)) = r := ⟨_, rfl⟩
  rw [hres]
  refine W_seq fun kz1 kq1 => ?_
  refine W_region [0] fun R hR => ?_   -- r0
  simp only [go_sem]
  refine hR _ _ (kq1 _ _ ?_); clear hR R; try clear kq1 kz1
  try simp only [go_sem]
  refine W_seq fun kz2 kq2 => ?_
  refine W_seq fun kz3 kq3 => ?_
  refine W_region [6, 7, 8] fun R hR => ?_   -- r1
  simp only [go_sem]
  refine hR _ _ (kq3 _ _ ?_); clear hR R; try clear kq3 kz3
  try simp only [go_sem]
  refine W_block ?_
  refine W_loopS (α := Nat) (fun (i : Nat) => [(8, I i)]) (fun (i : Nat) => i ≤ l.length ∧ res = firstOf ((l.drop i).map (·.2))) (fun (i : Nat) => l.length - i) (0) rfl (⟨Nat.zero_le _, hres.symm⟩) ?_
  rintro i ⟨hi, hinv⟩
  refine W_seq fun kz4 kq4 => ?_
  refine W_region [6, 7, 8, 9] fun R hR => ?_   -- r2
  simp only [go_sem]
  refine hR _ _ (kq4 _ _ ?_); clear hR R; try clear kq4 kz4
  try simp only [go_sem]
  refine W_seq fun kz5 kq5 => ?_
  refine W_cond rfl (fun c1 => ?_) (fun c1 => ?_)
  · -- c1 true
    try simp only [nrm] at c1
    have hi' : i < l.length := by first | assumption | omega
    obtain ⟨x, hx⟩ : ∃ x, l[i]? = some x := ⟨l[i], by simp [hi']⟩
    have hdrop : l.drop i = x :: l.drop (i + 1) := by
      rw [List.drop_eq_getElem_cons hi']; congr 1; exact (List.getElem?_eq_some_iff.1 hx).2
    rw [hdrop] at hinv
    simp only [List.map_cons, firstOf] at hinv
    refine W_skip (kq5 _ _ ?_)
    refine W_seq fun kz6 kq6 => ?_
    refine W_block ?_
    refine W_seq fun kz7 kq7 => ?_
    refine W_region [4, 6, 7, 8] fun R hR => ?_   -- r3
    simp only [go_sem, hx]
    refine hR _ _ (kq7 _ _ ?_); clear hR R; try clear kq7 kz7
    try simp only [go_sem, hx]
    refine W_seq fun kz8 kq8 => ?_
    refine W_region [5, 6, 7, 8] fun R hR => ?_   -- r4
    simp only [go_sem, hx]
    refine GCall_of (h x (List.mem_of_getElem? hx) _) ?_   -- t13
    simp only [go_sem, hx]
    refine hR _ _ (kq8 _ _ ?_); clear hR R; try clear kq8 kz8
    try simp only [go_sem, hx]
    refine W_seq fun kz9 kq9 => ?_
    refine W_region [5, 6, 7, 8, 15] fun R hR => ?_   -- r5
    simp only [go_sem, hx]
    refine hR _ _ (kq9 _ _ ?_); clear hR R; try clear kq9 kz9
    try simp only [go_sem, hx]
    refine W_cond rfl (fun c2 => ?_) (fun c2 => ?_)
    · -- c2 true
      try simp only [nrm] at c2
      refine W_seq fun kz10 kq10 => ?_
      refine W_region [2] fun R hR => ?_   -- r6
      simp only [go_sem, hx]
      refine hR _ _ (kq10 _ _ ?_); clear hR R; try clear kq10 kz10
      try simp only [go_sem, hx]
      refine W_ret ?_
      simp only [go_sem, hx]
      refine ⟨.inr (by trivial), ?_⟩
      first | refine Fin_same hcl rfl (Wk_eq ?_ (by simp only [go_sem])) | refine Fin_self hcl rfl (Wk_eq ?_ (by simp only [go_sem]))
      try simp only [go_sem]
      all_goals
        rw [hinv, if_pos c2]
    · -- c2 false
      try simp only [nrm] at c2
      refine W_skip (kq6 _ _ ?_)
      refine W_region [6, 7, 8] fun R hR => ?_   -- r7
      simp only [go_sem, hx]
      try simp (disch := omega) only [wrapI, wrapU]
      refine hR _ _ ?_; clear hR R
      try simp only [go_sem, hx]
      refine ⟨i + 1, ?_, by (try simp only []); omega, ?_⟩
      · first | exact Weak.refl | exact Weak.eq (by first | rfl | (simp only [go_sem]; done) | (simp only [go_sem]; rfl) | (simp [go_sem]; done) | (simp [go_sem]; omega)) (by first | rfl | (simp only [go_sem]; done) | (simp [go_sem]; done))
      · try dsimp only
        exact ⟨hi', by rw [hinv, if_neg (by simp [c2])]⟩
  · -- c1 false
    try simp only [nrm] at c1
    have hdrop : l.drop i = [] := List.drop_eq_nil_of_le (by omega)
    rw [hdrop] at hinv
    simp only [List.map_nil, firstOf] at hinv
    refine W_exit ?_
    simp only [go_sem]
    refine kq2 _ _ ?_
    refine W_seq fun kz11 kq11 => ?_
    refine W_region [2] fun R hR => ?_   -- r8
    simp only [go_sem]
    refine hR _ _ (kq11 _ _ ?_); clear hR R; try clear kq11 kz11
    try simp only [go_sem]
    refine W_ret ?_
    simp only [go_sem]
    refine ⟨.inr (by trivial), ?_⟩
    first | refine Fin_same hcl rfl (Wk_eq ?_ (by simp only [go_sem])) | refine Fin_self hcl rfl (Wk_eq ?_ (by simp only [go_sem]))
    try simp only [go_sem]
    all_goals
      rw [hinv]
set_option maxHeartbeats 2000000 in
theorem clash_pc (Y : YEnv) (σ : Sg) (ct : City) (w : List Band) (b : Band) (hc : ct.Ok) (hl : BandsOk w) (hw : w.length ≤ 1000) (hk : chkCity ct = 0) (hv : ∀ x, x ∈ w → chkBand ct x = 0) (hb : b.path.length < 2 ^ 50) (hbv : chkBand ct b = 0) :
    PC Try.prog Y 108 [reqPV ct w b] σ (I (clashOf ct b w)) (σ) := by
  refine PC_of_W Try.func108 rfl (by kernel_rfl) Try.ntmps108 (by simp) fun hcl hca => ?_
  have hl2 := hl.2
  obtain ⟨res, hres⟩ : ∃ r, clashOf ct b w = r := ⟨_, rfl⟩
  rw [hres]
  refine W_seq fun kz1 kq1 => ?_
  refine W_region [1] fun R hR => ?_   -- r0
  simp only [go_sem]
  refine hR _ _ (kq1 _ _ ?_); clear hR R; try clear kq1 kz1
  try simp only [go_sem]
  refine W_seq fun kz2 kq2 => ?_
  refine W_seq fun kz3 kq3 => ?_
  refine W_region [1, 6, 7, 8] fun R hR => ?_   -- r1
  simp only [go_sem]
  refine hR _ _ (kq3 _ _ ?_); clear hR R; try clear kq3 kz3
  try simp only [go_sem]
  refine W_block ?_
  refine W_loopS (α := Nat) (fun (i : Nat) => [(8, I i)]) (fun (i : Nat) => i ≤ w.length ∧ res = clashOf ct b (w.drop i)) (fun (i : Nat) => w.length - i) (0) rfl (⟨Nat.zero_le _, hres.symm⟩) ?_
  rintro i ⟨hi, hinv⟩
  refine W_seq fun kz4 kq4 => ?_
  refine W_region [1, 6, 7, 8, 9] fun R hR => ?_   -- r2
  simp only [go_sem]
  refine hR _ _ (kq4 _ _ ?_); clear hR R; try clear kq4 kz4
  try simp only [go_sem]
  refine W_seq fun kz5 kq5 => ?_
  refine W_cond rfl (fun c1 => ?_) (fun c1 => ?_)
  · -- c1 true
    try simp only [nrm] at c1
    have hi' : i < w.length := by first | assumption | omega
    obtain ⟨x, hx⟩ : ∃ x, w[i]? = some x := ⟨w[i], by simp [hi']⟩
    have hdrop : w.drop i = x :: w.drop (i + 1) := by
      rw [List.drop_eq_getElem_cons hi']; congr 1; exact (List.getElem?_eq_some_iff.1 hx).2
    have hxw := List.mem_of_getElem? hx
    rw [hdrop] at hinv
    simp only [clashOf] at hinv
    refine W_skip (kq5 _ _ ?_)
    refine W_seq fun kz6 kq6 => ?_
    refine W_block ?_
    refine W_seq fun kz7 kq7 => ?_
    refine W_region [1, 4, 6, 7, 8] fun R hR => ?_   -- r3
    simp only [go_sem, hx]
    refine hR _ _ (kq7 _ _ ?_); clear hR R; try clear kq7 kz7
    try simp only [go_sem, hx]
    refine W_seq fun kz8 kq8 => ?_
    refine W_region [1, 6, 7, 8, 18] fun R hR => ?_   -- r4
    simp only [go_sem, hx]
    refine GCall_of (bcross_pc Y _ ct b x hc hb (hl2 x hxw) (chkBand_ok hbv).2 (chkBand_ok (hv x hxw)).2) ?_   -- t17
    simp only [go_sem, hx]
    refine hR _ _ (kq8 _ _ ?_); clear hR R; try clear kq8 kz8
    try simp only [go_sem, hx]
    refine W_cond rfl (fun c2 => ?_) (fun c2 => ?_)
    · -- c2 true
      try simp only [nrm] at c2
      refine W_seq fun kz9 kq9 => ?_
      refine W_region [2] fun R hR => ?_   -- r5
      simp only [go_sem, hx]
      refine hR _ _ (kq9 _ _ ?_); clear hR R; try clear kq9 kz9
      try simp only [go_sem, hx]
      refine W_ret ?_
      simp only [go_sem, hx]
      refine ⟨.inr (by trivial), ?_⟩
      first | refine Fin_same hcl rfl (Wk_eq ?_ (by simp only [go_sem])) | refine Fin_self hcl rfl (Wk_eq ?_ (by simp only [go_sem]))
      try simp only [go_sem]
      all_goals
        rw [hinv, if_pos c2]
    · -- c2 false
      try simp only [nrm] at c2
      refine W_skip (kq6 _ _ ?_)
      refine W_region [1, 6, 7, 8] fun R hR => ?_   -- r6
      simp only [go_sem, hx]
      try simp (disch := omega) only [wrapI, wrapU]
      refine hR _ _ ?_; clear hR R
      try simp only [go_sem, hx]
      refine ⟨i + 1, ?_, by (try simp only []); omega, ?_⟩
      · refine Weak.trans (Weak.cutX 1 0 (by omega) (by omega) hcl (by simp only [go_sem] <;> omega) (by simp only [go_sem] <;> omega)) ?_
        simp only [go_sem]
        exact Weak.eq (by first | rfl | (simp only [go_sem]; done) | (simp only [go_sem]; rfl) | (simp [go_sem]; done) | (simp [go_sem]; omega)) (by first | rfl | (simp only [go_sem]; done) | (simp [go_sem]; done))
      · try dsimp only
        exact ⟨hi', by rw [hinv, if_neg (by simp [c2])]⟩
  · -- c1 false
    try simp only [nrm] at c1
    have hdrop : w.drop i = [] := List.drop_eq_nil_of_le (by omega)
    rw [hdrop] at hinv
    simp only [clashOf] at hinv
    refine W_exit ?_
    simp only [go_sem]
    refine kq2 _ _ ?_
    refine W_seq fun kz10 kq10 => ?_
    refine W_region [2] fun R hR => ?_   -- r7
    simp only [go_sem]
    refine hR _ _ (kq10 _ _ ?_); clear hR R; try clear kq10 kz10
    try simp only [go_sem]
    refine W_ret ?_
    simp only [go_sem]
    refine ⟨.inr (by trivial), ?_⟩
    first | refine Fin_same hcl rfl (Wk_eq ?_ (by simp only [go_sem])) | refine Fin_self hcl rfl (Wk_eq ?_ (by simp only [go_sem]))
    try simp only [go_sem]
    all_goals
      rw [hinv]
set_option maxHeartbeats 2000000 in
theorem over_pc (Y : YEnv) (σ : Sg) (ct : City) (w : List Band) (b : Band) (hc : ct.Ok) (hl : BandsOk w) (hw : w.length ≤ 1000) (hk : chkCity ct = 0) (hv : ∀ x, x ∈ w → chkBand ct x = 0) (hb : b.path.length < 2 ^ 50) (hbv : chkBand ct b = 0) (hrg : ∀ s, s ∈ (sqs ct b).1 → 0 ≤ s ∧ s < ct.town.rooms.length) :
    PC Try.prog Y 109 [reqPV ct w b] σ (I (overOf ct b)) (σ) := by
  refine PC_of_W Try.func109 rfl (by kernel_rfl) Try.ntmps109 (by simp) fun hcl hca => ?_
  obtain ⟨l, hl3⟩ : ∃ l, l = (sqs ct b).1 := ⟨_, rfl⟩
  have hln : l.length ≤ 13 := by rw [hl3]; exact (sqs_len ct b).1
  rw [← hl3] at hrg
  rw [show overOf ct b = overL ct b l by rw [hl3]; rfl]
  obtain ⟨res, hres⟩ : ∃ r, overL ct b l = r := ⟨_, rfl⟩
  rw [hres]
  refine W_seq fun kz1 kq1 => ?_
  refine W_region [1] fun R hR => ?_   -- r0
  simp only [go_sem]
  refine hR _ _ (kq1 _ _ ?_); clear hR R; try clear kq1 kz1
  try simp only [go_sem]
  refine W_seq fun kz2 kq2 => ?_
  refine W_region [1, 3] fun R hR => ?_   -- r1
  simp only [go_sem]
  refine GCall_of (PC.val (v' := .tuple [ints l, I (sqs ct b).2]) (squares_pc Y _ ct b hc hb) (by rw [hl3]; rfl)) ?_   -- t12
  simp only [go_sem]
  refine hR _ _ (kq2 _ _ ?_); clear hR R; try clear kq2 kz2
  try simp only [go_sem]
  refine W_seq fun kz3 kq3 => ?_
  refine W_seq fun kz4 kq4 => ?_
  refine W_region [1, 15, 16, 17] fun R hR => ?_   -- r2
  simp only [go_sem]
  refine hR _ _ (kq4 _ _ ?_); clear hR R; try clear kq4 kz4
  try simp only [go_sem]
  refine W_block ?_
  refine W_loopS (α := Nat) (fun (i : Nat) => [(17, I i)]) (fun (i : Nat) => i ≤ l.length ∧ res = overL ct b (l.drop i)) (fun (i : Nat) => l.length - i) (0) rfl (⟨Nat.zero_le _, hres.symm⟩) ?_
  rintro i ⟨hi, hinv⟩
  refine W_seq fun kz5 kq5 => ?_
  refine W_region [1, 15, 16, 17, 18] fun R hR => ?_   -- r3
  simp only [go_sem]
  refine hR _ _ (kq5 _ _ ?_); clear hR R; try clear kq5 kz5
  try simp only [go_sem]
  refine W_seq fun kz6 kq6 => ?_
  refine W_cond rfl (fun c1 => ?_) (fun c1 => ?_)
  · -- c1 true
    try simp only [nrm] at c1
    have hi' : i < l.length := by first | assumption | omega
    obtain ⟨s, hx⟩ : ∃ s, l[i]? = some s := ⟨l[i], by simp [hi']⟩
    have hdrop : l.drop i = s :: l.drop (i + 1) := by
      rw [List.drop_eq_getElem_cons hi']; congr 1; exact (List.getElem?_eq_some_iff.1 hx).2
    obtain ⟨hs0, hs1⟩ := hrg s (List.mem_of_getElem? hx)
    obtain ⟨r, hr⟩ : ∃ r, ct.town.rooms[s.toNat]? = some r := ⟨_, List.getElem?_eq_getElem (by omega)⟩
    rw [hdrop] at hinv
    simp only [overL, hr, Option.getD_some] at hinv
    refine W_skip (kq6 _ _ ?_)
    refine W_seq fun kz7 kq7 => ?_
    refine W_block ?_
    refine W_seq fun kz8 kq8 => ?_
    refine W_region [1, 6, 15, 16, 17] fun R hR => ?_   -- r4
    simp only [go_sem, hx, hs0, hr]
    refine hR _ _ (kq8 _ _ ?_); clear hR R; try clear kq8 kz8
    try simp only [go_sem, hx, hs0, hr]
    refine W_seq fun kz9 kq9 => ?_
    refine W_draw [1, 15, 16, 17, 31] [0, 1, 2, 3, 4, 5, 6, 7, 8, 9, 10] [] [[], [0], [0, 1], [], [3], [3, 4], [3, 4, 5], [], [3, 4, 5, 6, 7], [3, 4, 5, 6, 7, 8], [0, 1, 2, 3, 4, 5, 6, 7, 8, 9]] mixed (by kernel_rfl) fun R hR => ?_   -- r5
    simp only [go_sem, hx, hs0, hr]
    try refine And.intro (by repeat' (first | refine And.intro ?_ ?_ | exact GOr_right (fun _ => by simp only [go_sem, hx, hs0, hr]))) ?_
    refine hR _ _ (kq9 _ _ ?_); clear hR R; try clear kq9 kz9
    try simp only [go_sem, hx, hs0, hr]
    refine W_cond rfl (fun c2 => ?_) (fun c2 => ?_)
    · -- c2 true
      try simp only [nrm] at c2
      refine W_seq fun kz10 kq10 => ?_
      refine W_region [2] fun R hR => ?_   -- r6
      simp only [go_sem, hx, hs0, hr]
      refine hR _ _ (kq10 _ _ ?_); clear hR R; try clear kq10 kz10
      try simp only [go_sem, hx, hs0, hr]
      refine W_ret ?_
      simp only [go_sem, hx, hs0, hr]
      refine ⟨.inr (by trivial), ?_⟩
      first | refine Fin_same hcl rfl (Wk_eq ?_ (by simp only [go_sem])) | refine Fin_self hcl rfl (Wk_eq ?_ (by simp only [go_sem]))
      try simp only [go_sem]
      all_goals
        rw [hinv, if_pos c2]
    · -- c2 false
      try simp only [nrm] at c2
      refine W_skip (kq7 _ _ ?_)
      refine W_region [1, 15, 16, 17] fun R hR => ?_   -- r7
      simp only [go_sem, hx, hs0, hr]
      try simp (disch := omega) only [wrapI, wrapU]
      refine hR _ _ ?_; clear hR R
      try simp only [go_sem, hx, hs0, hr]
      refine ⟨i + 1, ?_, by (try simp only []); omega, ?_⟩
      · first | exact Weak.refl | exact Weak.eq (by first | rfl | (simp only [go_sem]; done) | (simp only [go_sem]; rfl) | (simp [go_sem]; done) | (simp [go_sem]; omega)) (by first | rfl | (simp only [go_sem]; done) | (simp [go_sem]; done))
      · try dsimp only
        exact ⟨hi', by rw [hinv, if_neg c2]⟩
  · -- c1 false
    try simp only [nrm] at c1
    have hdrop : l.drop i = [] := List.drop_eq_nil_of_le (by omega)
    rw [hdrop] at hinv
    simp only [overL] at hinv
    refine W_exit ?_
    simp only [go_sem]
    refine kq3 _ _ ?_
    refine W_seq fun kz11 kq11 => ?_
    refine W_region [2] fun R hR => ?_   -- r8
    simp only [go_sem]
    refine hR _ _ (kq11 _ _ ?_); clear hR R; try clear kq11 kz11
    try simp only [go_sem]
    refine W_ret ?_
    simp only [go_sem]
    refine ⟨.inr (by trivial), ?_⟩
    first | refine Fin_same hcl rfl (Wk_eq ?_ (by simp only [go_sem])) | refine Fin_self hcl rfl (Wk_eq ?_ (by simp only [go_sem]))
    try simp only [go_sem]
    all_goals
      rw [hinv]
set_option maxHeartbeats 2000000 in
theorem CloneB_pc (Y : YEnv) (σ : Sg) (l : List Band) (hl : l.length ≤ 2 ^ 30) :
    PC Try.prog Y 81 [bands l] σ (.isl (l.map bdPV) (.tok σ.rooms.length l.length 6)) (σ.ext [] [l.length]) := by
  refine PC_of_W Try.func81 rfl (by kernel_rfl) Try.ntmps81 (by simp) fun hcl hca => ?_
  refine W_seq fun kz1 kq1 => ?_
  refine W_region [0] fun R hR => ?_   -- r0
  simp only [go_sem]
  refine hR _ _ (kq1 _ _ ?_); clear hR R; try clear kq1 kz1
  try simp only [go_sem]
  refine W_seq fun kz2 kq2 => ?_
  refine W_seq fun kz3 kq3 => ?_
  refine W_isnil [0, 4] (by decide) (by decide) rfl Try.underlying29 fun bn hbn => ?_   -- r1
  refine kq3 _ _ ?_
  try simp only [go_sem]
  refine W_cond rfl (fun c1 => ?_) (fun c1 => ?_)
  · -- c1 true
    try simp only [nrm] at c1
    refine W_seq fun kz4 kq4 => ?_
    refine W_region [2] fun R hR => ?_   -- r2
    simp only [go_sem]
    refine hR _ _ (kq4 _ _ ?_); clear hR R; try clear kq4 kz4
    try simp only [go_sem]
    refine W_weak (Weak.room (t := 2) (es := 6) rfl (by simp)) ?_
    refine W_ret ?_
    simp only [go_sem]
    refine ⟨.inr (by trivial), ?_⟩
    obtain rfl : l = [] := by simpa using hbn c1
    exact Fin_ext 0 1 hcl rfl (Wk_eq rfl (by simp only [go_sem] <;> omega)) CleanL_nil
    try simp only [go_sem]
    all_goals
      skip
  · -- c1 false
    try simp only [nrm] at c1
    refine W_skip (kq2 _ _ ?_)
    refine W_seq fun kz5 kq5 => ?_
    refine W_region [2] fun R hR => ?_   -- r3
    simp only [go_sem]
    simp (disch := first | omega | (simp only [go_sem] <;> omega)) only [wrapI, wrapU, appX_exact, appX_tok]
    try simp only [go_sem]
    refine hR _ _ (kq5 _ _ ?_); clear hR R; try clear kq5 kz5
    try simp only [go_sem]
    refine W_ret ?_
    simp only [go_sem]
    refine ⟨.inr (by trivial), ?_⟩
    exact Fin_ext 0 1 hcl rfl (Wk_eq (by simp only [go_sem]) (by simp only [go_sem] <;> omega)) CleanL_nil
    try simp only [go_sem]
    all_goals
      skip

end Go.Proofs.Ytnpamcpoaklgeaa

namespace Go.Proofs.Ytnpamcpoaklgeaa
open Go Go.RowKit
set_option maxRecDepth 100000

theorem chkStreets_inv {n : Int} : ∀ {l : List (Int × Int)}, chkStreets n l = 0 → ∀ s, s ∈ l → 0 ≤ s.1 ∧ s.1 < n ∧ 0 ≤ s.2 ∧ s.2 < n ∧ s.1 ≠ s.2 := by
  intro l
  induction l with
  | nil => intro _ s hs; cases hs
  | cons a r ih =>
    intro h s hs
    simp only [chkStreets] at h
    split at h
    · simp at h
    · rename_i h1
      split at h
      · simp at h
      · rename_i h2
        rcases List.mem_cons.1 hs with rfl | hs
        · simp [inR] at h1
          exact ⟨by omega, by omega, by omega, by omega, h2⟩
        · exact ih h s hs
theorem chkTown_streets {t : Town} (h : chkTown t = 0) : chkStreets t.rooms.length t.streets = 0 := by
  unfold chkTown at h
  split at h
  · simp at h
  · split at h
    · simp at h
    · split at h
      · simp at h
      · split at h
        · simp at h
        · split at h
          · rename_i h5; exact absurd h h5
          · rename_i h5; simpa using h5
theorem chkCity_town {c : City} (h : chkCity c = 0) : chkTown c.town = 0 := by
  unfold chkCity at h
  split at h
  · rename_i h1; exact absurd h h1
  · rename_i h1; simpa using h1
theorem walkSq_range {st : List (Int × Int)} {n : Int} (hs : ∀ s, s ∈ st → 0 ≤ s.1 ∧ s.1 < n ∧ 0 ≤ s.2 ∧ s.2 < n ∧ s.1 ≠ s.2) : ∀ (l : List Int) (a : Int) (out : List Int), (∀ x, x ∈ out → 0 ≤ x ∧ x < n) → ∀ x, x ∈ (walkSq st l a out).1 → 0 ≤ x ∧ x < n := by
  intro l
  induction l with
  | nil => intro a out ho x hx; exact ho x hx
  | cons k r ih =>
    intro a out ho x hx
    simp only [walkSq] at hx
    split at hx
    · cases hx
    · split at hx
      · cases hx
      · rename_i s hsk
        have h1 := hs s (List.mem_of_getElem? hsk)
        split at hx
        · refine ih _ _ (fun y hy => ?_) x hx
          rcases List.mem_append.1 hy with hy | hy
          · exact ho y hy
          · simp only [List.mem_singleton] at hy; subst hy; omega
        · split at hx
          · refine ih _ _ (fun y hy => ?_) x hx
            rcases List.mem_append.1 hy with hy | hy
            · exact ho y hy
            · simp only [List.mem_singleton] at hy; subst hy; omega
          · cases hx
theorem sqs_range {c : City} {b : Band} (hk : chkCity c = 0) : ∀ s, s ∈ (sqs c b).1 → 0 ≤ s ∧ s < c.town.rooms.length := by
  intro s hs
  unfold sqs at hs
  split at hs
  · cases hs
  · split at hs
    · cases hs
    · rename_i h1 _
      refine walkSq_range (chkStreets_inv (chkTown_streets (chkCity_town hk))) _ _ _ (fun x hx => ?_) s hs
      simp only [List.mem_singleton] at hx; subst hx
      simp [inR] at h1; omega
def grantL (c : City) : List Band → List Band → List Int
  | _, [] => []
  | w, b :: r => reqOf c w b :: grantL c (if reqOf c w b = 0 then w ++ [b] else w) r
def grantAns (c : City) (l : List Band) : List Int × Int := if chkAll c l ≠ 0 then ([], chkAll c l) else (grantL c [] l, 0)

set_option maxHeartbeats 2000000 in
theorem rawake_pc (Y : YEnv) (σ : Sg) (ct : City) (w : List Band) (b : Band) (hc : ct.Ok) (hl : BandsOk w) (hw : w.length ≤ 1000) (hk : chkCity ct = 0) (hv : ∀ x, x ∈ w → chkBand ct x = 0) (hb : b.path.length < 2 ^ 50) (hbv : chkBand ct b = 0) :
    PC Try.prog Y 110 [reqPV ct w b] σ (I (awkOf ct (w ++ [b]))) (σ) := by
  refine PC_of_W Try.func110 rfl (by kernel_rfl) Try.ntmps110 (by simp) fun hcl hca => ?_
  have hsl := hc.hsl
  have hl2 := hl.2
  have hall : BandsOk (w ++ [b]) := ⟨by simp; omega, fun x hx => by rcases List.mem_append.1 hx with h | h; exact hl2 x h; simp only [List.mem_singleton] at h; subst h; exact hb⟩
  have hval : ∀ x, x ∈ w ++ [b] → chkBand ct x = 0 := fun x hx => by rcases List.mem_append.1 hx with h | h; exact hv x h; simp only [List.mem_singleton] at h; subst h; exact hbv
  rw [show awkOf ct (w ++ [b]) = awkL ct (w ++ [b]) 0 ct.sleep from rfl]
  obtain ⟨res, hres⟩ : ∃ r, awkL ct (w ++ [b]) 0 ct.sleep = r := ⟨_, rfl⟩
  rw [hres]
  refine W_seq fun kz1 kq1 => ?_
  refine W_region [1] fun R hR => ?_   -- r0
  simp only [go_sem]
  refine hR _ _ (kq1 _ _ ?_); clear hR R; try clear kq1 kz1
  try simp only [go_sem]
  refine W_seq fun kz2 kq2 => ?_
  refine W_draw [1, 3] [0, 1, 2, 3, 4, 5, 6, 7] [(3, 2), (4, 2), (5, 2)] [[], [0], [0, 1], [], [3], [3, 4], [0, 1, 2, 3, 4, 5], [0, 1, 2, 3, 4, 5, 6]] mixed (by kernel_rfl) fun R hR => ?_   -- r1
  simp only [go_sem]
  refine GCall_of (CloneB_pc Y _ w (by omega)) ?_   -- t10
  simp only [go_sem]
  simp (disch := first | omega | (simp only [go_sem] <;> omega)) only [wrapI, wrapU, appX_exact, appX_tok]
  try simp only [go_sem]
  try refine And.intro (by repeat' (first | refine And.intro ?_ ?_ | exact GOr_right (fun _ => by simp only [go_sem]))) ?_
  refine hR _ _ (kq2 _ _ ?_); clear hR R; try clear kq2 kz2
  try simp only [go_sem]
  refine W_seq fun kz3 kq3 => ?_
  refine W_seq fun kz4 kq4 => ?_
  refine W_region [1, 3, 17, 18, 19] fun R hR => ?_   -- r2
  simp only [go_sem]
  refine hR _ _ (kq4 _ _ ?_); clear hR R; try clear kq4 kz4
  try simp only [go_sem]
  refine W_block ?_
  refine W_loopS (α := Nat) (fun (i : Nat) => [(19, I i)]) (fun (i : Nat) => i ≤ ct.sleep.length ∧ res = awkL ct (w ++ [b]) i (ct.sleep.drop i)) (fun (i : Nat) => ct.sleep.length - i) (0) rfl (⟨Nat.zero_le _, hres.symm⟩) ?_
  rintro i ⟨hi, hinv⟩
  refine W_seq fun kz5 kq5 => ?_
  refine W_region [1, 3, 17, 18, 19, 20] fun R hR => ?_   -- r3
  simp only [go_sem]
  refine hR _ _ (kq5 _ _ ?_); clear hR R; try clear kq5 kz5
  try simp only [go_sem]
  refine W_seq fun kz6 kq6 => ?_
  refine W_cond rfl (fun c1 => ?_) (fun c1 => ?_)
  · -- c1 true
    try simp only [nrm] at c1
    have hi' : i < ct.sleep.length := by first | assumption | omega
    obtain ⟨owed, hx⟩ : ∃ owed, ct.sleep[i]? = some owed := ⟨ct.sleep[i], by simp [hi']⟩
    have hdrop : ct.sleep.drop i = owed :: ct.sleep.drop (i + 1) := by
      rw [List.drop_eq_getElem_cons hi']; congr 1; exact (List.getElem?_eq_some_iff.1 hx).2
    rw [hdrop] at hinv
    simp only [awkL] at hinv
    refine W_skip (kq6 _ _ ?_)
    refine W_seq fun kz7 kq7 => ?_
    refine W_block ?_
    refine W_seq fun kz8 kq8 => ?_
    refine W_region [1, 3, 4, 5, 17, 18, 19] fun R hR => ?_   -- r4
    simp only [go_sem, hx]
    refine hR _ _ (kq8 _ _ ?_); clear hR R; try clear kq8 kz8
    try simp only [go_sem, hx]
    refine W_seq fun kz9 kq9 => ?_
    refine W_region [1, 3, 5, 7, 17, 18, 19] fun R hR => ?_   -- r5
    simp only [go_sem, hx]
    refine GCall_of (PC.ofRo (bsleep_pc Y _ ct (w ++ [b]) i hc hall hval) (by simp only [go_sem, bands] <;> rfl)) ?_   -- t29
    simp only [go_sem, hx]
    refine hR _ _ (kq9 _ _ ?_); clear hR R; try clear kq9 kz9
    try simp only [go_sem, hx]
    refine W_seq fun kz10 kq10 => ?_
    refine W_region [1, 3, 17, 18, 19, 34] fun R hR => ?_   -- r6
    simp only [go_sem, hx]
    refine hR _ _ (kq10 _ _ ?_); clear hR R; try clear kq10 kz10
    try simp only [go_sem, hx]
    refine W_cond rfl (fun c2 => ?_) (fun c2 => ?_)
    · -- c2 true
      try simp only [nrm] at c2
      refine W_seq fun kz11 kq11 => ?_
      refine W_region [2] fun R hR => ?_   -- r7
      simp only [go_sem, hx]
      refine hR _ _ (kq11 _ _ ?_); clear hR R; try clear kq11 kz11
      try simp only [go_sem, hx]
      refine W_ret ?_
      simp only [go_sem, hx]
      refine ⟨.inr (by trivial), ?_⟩
      first | refine Fin_same hcl rfl (Wk_eq ?_ (by simp only [go_sem])) | refine Fin_self hcl rfl (Wk_eq ?_ (by simp only [go_sem]))
      try simp only [go_sem]
      all_goals
        rw [hinv, if_pos c2]
    · -- c2 false
      try simp only [nrm] at c2
      refine W_skip (kq7 _ _ ?_)
      refine W_region [1, 3, 17, 18, 19] fun R hR => ?_   -- r8
      simp only [go_sem, hx]
      try simp (disch := omega) only [wrapI, wrapU]
      refine hR _ _ ?_; clear hR R
      try simp only [go_sem, hx]
      refine ⟨i + 1, ?_, by (try simp only []); omega, ?_⟩
      · first | exact Weak.refl | exact Weak.eq (by first | rfl | (simp only [go_sem]; done) | (simp only [go_sem]; rfl) | (simp [go_sem]; done) | (simp [go_sem]; omega)) (by first | rfl | (simp only [go_sem]; done) | (simp [go_sem]; done))
      · try dsimp only
        exact ⟨hi', by rw [hinv, if_neg c2]⟩
  · -- c1 false
    try simp only [nrm] at c1
    have hdrop : ct.sleep.drop i = [] := List.drop_eq_nil_of_le (by omega)
    rw [hdrop] at hinv
    simp only [awkL] at hinv
    refine W_exit ?_
    simp only [go_sem]
    refine kq3 _ _ ?_
    refine W_seq fun kz12 kq12 => ?_
    refine W_region [2] fun R hR => ?_   -- r9
    simp only [go_sem]
    refine hR _ _ (kq12 _ _ ?_); clear hR R; try clear kq12 kz12
    try simp only [go_sem]
    refine W_ret ?_
    simp only [go_sem]
    refine ⟨.inr (by trivial), ?_⟩
    first | refine Fin_same hcl rfl (Wk_eq ?_ (by simp only [go_sem])) | refine Fin_self hcl rfl (Wk_eq ?_ (by simp only [go_sem]))
    try simp only [go_sem]
    all_goals
      rw [hinv]
set_option maxHeartbeats 2000000 in
theorem granted_pc (Y : YEnv) (σ : Sg) (ct : City) (w : List Band) (b : Band) (hc : ct.Ok) (hl : BandsOk w) (hw : w.length ≤ 1000) (hk : chkCity ct = 0) (hv : ∀ x, x ∈ w → chkBand ct x = 0) (hb : b.path.length < 2 ^ 50) (hbv : chkBand ct b = 0) :
    PC Try.prog Y 74 [reqPV ct w b] σ (I (reqOf ct w b)) (σ) := by
  refine PC_of_W Try.func74 rfl (by kernel_rfl) Try.ntmps74 (by simp) fun hcl hca => ?_
  refine W_seq fun kz1 kq1 => ?_
  refine W_region [1] fun R hR => ?_   -- r0
  simp only [go_sem]
  refine hR _ _ (kq1 _ _ ?_); clear hR R; try clear kq1 kz1
  try simp only [go_sem]
  refine W_seq fun kz2 kq2 => ?_
  refine W_region [2] fun R hR => ?_   -- r1
  simp only [go_sem]
  refine GCall_of (first_pc Y _ [(108, clashOf ct b w), (109, overOf ct b), (110, awkOf ct (w ++ [b]))] (reqPV ct w b) (by simp) (fun p hp σ => by
      simp only [List.mem_cons, List.not_mem_nil, or_false] at hp
      rcases hp with rfl | rfl | rfl
      · exact clash_pc Y σ ct w b hc hl hw hk hv hb hbv
      · exact over_pc Y σ ct w b hc hl hw hk hv hb hbv (sqs_range hk)
      · exact rawake_pc Y σ ct w b hc hl hw hk hv hb hbv)) ?_   -- t10
  simp only [go_sem]
  refine hR _ _ (kq2 _ _ ?_); clear hR R; try clear kq2 kz2
  try simp only [go_sem]
  refine W_ret ?_
  simp only [go_sem]
  refine ⟨.inr (by trivial), ?_⟩
  first | refine Fin_same hcl rfl (Wk_eq ?_ (by simp only [go_sem])) | refine Fin_self hcl rfl (Wk_eq ?_ (by simp only [go_sem]))
  try simp only [go_sem]
  all_goals
    simp only [reqOf, List.map]
set_option maxHeartbeats 2000000 in
theorem Grant_pc (Y : YEnv) (σ : Sg) (ct : City) (l : List Band) (hc : ct.Ok) (hl : BandsOk l) :
    PC Try.prog Y 30 [ctPV ct, bands l] σ (.tuple [ints (grantAns ct l).1, I (grantAns ct l).2]) (σ) := by
  refine PC_of_W Try.func30 rfl (by kernel_rfl) Try.ntmps30 (by simp) fun hcl hca => ?_
  have hl1 := hl.1
  have hl2 := hl.2
  obtain ⟨res, hres⟩ : ∃ r, grantAns ct l = r := ⟨_, rfl⟩
  rw [hres]
  refine W_seq fun kz1 kq1 => ?_
  refine W_region [1, 2] fun R hR => ?_   -- r0
  simp only [go_sem]
  refine hR _ _ (kq1 _ _ ?_); clear hR R; try clear kq1 kz1
  try simp only [go_sem]
  refine W_seq fun kz2 kq2 => ?_
  refine W_seq fun kz3 kq3 => ?_
  refine W_region [1, 2, 6] fun R hR => ?_   -- r1
  simp only [go_sem]
  refine GCall_of (checkBands_pc Y _ ct l hc hl) ?_   -- t14
  simp only [go_sem]
  refine hR _ _ (kq3 _ _ ?_); clear hR R; try clear kq3 kz3
  try simp only [go_sem]
  refine W_seq fun kz4 kq4 => ?_
  refine W_region [1, 2, 6, 16] fun R hR => ?_   -- r2
  simp only [go_sem]
  refine hR _ _ (kq4 _ _ ?_); clear hR R; try clear kq4 kz4
  try simp only [go_sem]
  refine W_cond rfl (fun c1 => ?_) (fun c1 => ?_)
  · -- c1 true
    try simp only [nrm] at c1
    refine W_seq fun kz5 kq5 => ?_
    refine W_region [4, 5] fun R hR => ?_   -- r3
    simp only [go_sem]
    refine hR _ _ (kq5 _ _ ?_); clear hR R; try clear kq5 kz5
    try simp only [go_sem]
    refine W_ret ?_
    simp only [go_sem]
    refine ⟨.inr (by trivial), ?_⟩
    refine Fin_same hcl rfl (Wk.ro (by simp only [go_sem]) ?_)
    try simp only [go_sem]
    all_goals
      rw [← hres]; simp [grantAns, c1]
  · -- c1 false
    try simp only [nrm] at c1
    obtain ⟨hk, hlen, hcb⟩ := chkAll_ok c1
    have hv := chkBands_ok hcb
    have hq : res = (grantL ct [] l, 0) := by rw [← hres]; simp [grantAns, c1]
    refine W_skip (kq2 _ _ ?_)
    refine W_seq fun kz6 kq6 => ?_
    refine W_region [1, 2, 7] fun R hR => ?_   -- r4
    simp only [go_sem]
    refine hR _ _ (kq6 _ _ ?_); clear hR R; try clear kq6 kz6
    try simp only [go_sem]
    refine W_seq fun kz7 kq7 => ?_
    refine W_region [1, 2, 7, 8] fun R hR => ?_   -- r5
    simp only [go_sem]
    refine hR _ _ (kq7 _ _ ?_); clear hR R; try clear kq7 kz7
    try simp only [go_sem]
    refine W_seq fun kz8 kq8 => ?_
    refine W_seq fun kz9 kq9 => ?_
    refine W_region [2, 7, 8, 18, 19, 20] fun R hR => ?_   -- r6
    simp only [go_sem]
    refine hR _ _ (kq9 _ _ ?_); clear hR R; try clear kq9 kz9
    try simp only [go_sem]
    refine W_block ?_
    refine W_weak (Weak.room (t := 7) (es := 6) rfl (by simp)) ?_
    refine W_weak (Weak.keep [2, 7, 8, 18, 19, 20]) ?_
    simp only [go_sem]
    refine W_weak (Weak.room (t := 8) (es := 1) rfl (by simp)) ?_
    refine W_weak (Weak.keep [2, 7, 8, 18, 19, 20]) ?_
    simp only [go_sem]
    refine W_loopT (α := Nat × (List Band) × (List Int)) (fun ⟨i, w, out⟩ => [(7, .isl (w.map bdPV) (.tok σ.rooms.length w.length 6)), (8, .isl (out.map I) (.tok (σ.rooms.length + 1) out.length 1)), (20, I i)]) (fun ⟨i, w, out⟩ => σ.ext [some (ctCells ct)] [w.length, out.length]) (fun ⟨i, w, out⟩ => i ≤ l.length ∧ w.length ≤ i ∧ out.length = i ∧ (∀ x, x ∈ w → x ∈ l) ∧ res = (out ++ grantL ct w (l.drop i), 0)) (fun ⟨i, w, out⟩ => l.length - i) ((0, [], [])) (by simp only [go_sem, List.map]) (by first | rfl | (simp only [go_sem]; done) | (simp only [go_sem]; rfl)) (⟨Nat.zero_le _, Nat.le_refl _, rfl, (fun x hx => by cases hx), hq⟩) ?_
    rintro ⟨i, w, out⟩ ⟨hi, hwl, hol, hsub, hinv⟩
    refine W_seq fun kz10 kq10 => ?_
    refine W_region [2, 7, 8, 18, 19, 20, 21] fun R hR => ?_   -- r7
    simp only [go_sem]
    refine hR _ _ (kq10 _ _ ?_); clear hR R; try clear kq10 kz10
    try simp only [go_sem]
    refine W_seq fun kz11 kq11 => ?_
    refine W_cond rfl (fun c2 => ?_) (fun c2 => ?_)
    · -- c2 true
      try simp only [nrm] at c2
      have hi' : i < l.length := by first | assumption | omega
      obtain ⟨b, hx⟩ : ∃ b, l[i]? = some b := ⟨l[i], by simp [hi']⟩
      have hdrop : l.drop i = b :: l.drop (i + 1) := by
        rw [List.drop_eq_getElem_cons hi']; congr 1; exact (List.getElem?_eq_some_iff.1 hx).2
      have hbl := List.mem_of_getElem? hx
      rw [hdrop] at hinv
      simp only [grantL] at hinv
      refine W_skip (kq11 _ _ ?_)
      refine W_seq fun kz12 kq12 => ?_
      refine W_block ?_
      refine W_seq fun kz13 kq13 => ?_
      refine W_region [2, 7, 8, 10, 18, 19, 20] fun R hR => ?_   -- r8
      simp only [go_sem, hx]
      refine hR _ _ (kq13 _ _ ?_); clear hR R; try clear kq13 kz13
      try simp only [go_sem, hx]
      refine W_seq fun kz14 kq14 => ?_
      refine W_region [2, 7, 8, 10, 11, 18, 19, 20] fun R hR => ?_   -- r9
      simp only [go_sem, hx]
      refine GCall_of (PC.ofRo (granted_pc Y _ ct w b hc ⟨by omega, fun x hx => hl2 x (hsub x hx)⟩ (by omega) hk (fun x hx => hv x (hsub x hx)) (hl2 b hbl) (hv b hbl)) (by simp only [go_sem, bands] <;> rfl)) ?_   -- t28
      simp only [go_sem, hx]
      refine hR _ _ (kq14 _ _ ?_); clear hR R; try clear kq14 kz14
      try simp only [go_sem, hx]
      refine W_seq fun kz15 kq15 => ?_
      refine W_seq fun kz16 kq16 => ?_
      refine W_region [2, 7, 8, 10, 11, 18, 19, 20, 30] fun R hR => ?_   -- r10
      simp only [go_sem, hx]
      refine hR _ _ (kq16 _ _ ?_); clear hR R; try clear kq16 kz16
      try simp only [go_sem, hx]
      refine W_cond rfl (fun c3 => ?_) (fun c3 => ?_)
      · -- c3 true
        try simp only [nrm] at c3
        refine W_region [2, 7, 8, 11, 18, 19, 20] fun R hR => ?_   -- r11
        simp only [go_sem, hx]
        simp (disch := first | omega | (simp only [go_sem] <;> omega)) only [wrapI, wrapU, appX_exact, appX_tok]
        try simp only [go_sem, hx]
        refine hR _ _ (kq15 _ _ ?_); clear hR R; try clear kq15 kz15
        try simp only [go_sem, hx]
        refine W_region [2, 7, 8, 18, 19, 20] fun R hR => ?_   -- r12
        simp only [go_sem, hx]
        simp (disch := first | omega | (simp only [go_sem] <;> omega)) only [wrapI, wrapU, appX_exact, appX_tok]
        try simp only [go_sem, hx]
        refine hR _ _ (kq12 _ _ ?_); clear hR R; try clear kq12 kz12
        try simp only [go_sem, hx]
        refine W_region [2, 7, 8, 18, 19, 20] fun R hR => ?_   -- r13
        simp only [go_sem, hx]
        try simp (disch := omega) only [wrapI, wrapU]
        refine hR _ _ ?_; clear hR R
        try simp only [go_sem, hx]
        refine ⟨(i + 1, w ++ [b], out ++ [reqOf ct w b]), ?_, by (try simp only []); omega, ?_⟩
        · refine Weak.trans (Weak.cutX 1 2 (by omega) (by omega) hcl (by simp only [go_sem] <;> omega) (by simp only [go_sem] <;> omega)) ?_
          simp only [go_sem]
          exact Weak.eq (by first | rfl | (simp only [go_sem]; done) | (simp only [go_sem]; rfl) | (simp [go_sem]; done) | (simp [go_sem]; omega)) (by first | rfl | (simp only [go_sem]; done) | (simp [go_sem]; done))
        · try dsimp only
          refine ⟨hi', by (try simp); omega, by simp; omega, fun x hx => ?_, ?_⟩
          · first | exact hsub x hx | (rcases List.mem_append.1 hx with h | h; exact hsub x h; simp only [List.mem_singleton] at h; subst h; exact hbl)
          · rw [hinv]; simp [c3]
      · -- c3 false
        try simp only [nrm] at c3
        refine W_skip (kq15 _ _ ?_)
        refine W_region [2, 7, 8, 18, 19, 20] fun R hR => ?_   -- r12
        simp only [go_sem, hx]
        simp (disch := first | omega | (simp only [go_sem] <;> omega)) only [wrapI, wrapU, appX_exact, appX_tok]
        try simp only [go_sem, hx]
        refine hR _ _ (kq12 _ _ ?_); clear hR R; try clear kq12 kz12
        try simp only [go_sem, hx]
        refine W_region [2, 7, 8, 18, 19, 20] fun R hR => ?_   -- r13
        simp only [go_sem, hx]
        try simp (disch := omega) only [wrapI, wrapU]
        refine hR _ _ ?_; clear hR R
        try simp only [go_sem, hx]
        refine ⟨(i + 1, w, out ++ [reqOf ct w b]), ?_, by (try simp only []); omega, ?_⟩
        · refine Weak.trans (Weak.cutX 1 2 (by omega) (by omega) hcl (by simp only [go_sem] <;> omega) (by simp only [go_sem] <;> omega)) ?_
          simp only [go_sem]
          exact Weak.eq (by first | rfl | (simp only [go_sem]; done) | (simp only [go_sem]; rfl) | (simp [go_sem]; done) | (simp [go_sem]; omega)) (by first | rfl | (simp only [go_sem]; done) | (simp [go_sem]; done))
        · try dsimp only
          refine ⟨hi', by (try simp); omega, by simp; omega, fun x hx => ?_, ?_⟩
          · first | exact hsub x hx | (rcases List.mem_append.1 hx with h | h; exact hsub x h; simp only [List.mem_singleton] at h; subst h; exact hbl)
          · rw [hinv]; simp [c3]
    · -- c2 false
      try simp only [nrm] at c2
      have hdrop : l.drop i = [] := List.drop_eq_nil_of_le (by omega)
      rw [hdrop] at hinv
      simp only [grantL, List.append_nil] at hinv
      refine W_exit ?_
      simp only [go_sem]
      refine kq8 _ _ ?_
      refine W_seq fun kz17 kq17 => ?_
      refine W_region [4, 5] fun R hR => ?_   -- r14
      simp only [go_sem]
      refine hR _ _ (kq17 _ _ ?_); clear hR R; try clear kq17 kz17
      try simp only [go_sem]
      refine W_ret ?_
      simp only [go_sem]
      refine ⟨.inr (by trivial), ?_⟩
      refine Fin_same hcl rfl (Wk.ro (by simp only [go_sem]) ?_)
      try simp only [go_sem]
      all_goals
        rw [hinv]
set_option maxHeartbeats 2000000 in
theorem EqErrors_pc (Y : YEnv) (σ : Sg) (xs ys : List Int) (o o2 : Own) (hx : xs.length < 2 ^ 50) :
    PC Try.prog Y 31 [.isl (xs.map I) o, .isl (ys.map I) o2] σ (.bool (decide (xs = ys))) (σ) := by
  refine PC_of_W Try.func31 rfl (by kernel_rfl) Try.ntmps31 (by simp) fun hcl hca => ?_
  refine W_seq fun kz1 kq1 => ?_
  refine W_region [0, 1] fun R hR => ?_   -- r0
  simp only [go_sem]
  refine hR _ _ (kq1 _ _ ?_); clear hR R; try clear kq1 kz1
  try simp only [go_sem]
  refine W_seq fun kz2 kq2 => ?_
  refine W_seq fun kz3 kq3 => ?_
  refine W_region [0, 1, 10] fun R hR => ?_   -- r1
  simp only [go_sem]
  refine hR _ _ (kq3 _ _ ?_); clear hR R; try clear kq3 kz3
  try simp only [go_sem]
  refine W_cond rfl (fun c1 => ?_) (fun c1 => ?_)
  · -- c1 true
    try simp only [nrm] at c1
    refine W_seq fun kz4 kq4 => ?_
    refine W_region [4] fun R hR => ?_   -- r2
    simp only [go_sem]
    refine hR _ _ (kq4 _ _ ?_); clear hR R; try clear kq4 kz4
    try simp only [go_sem]
    refine W_ret ?_
    simp only [go_sem]
    refine ⟨.inr (by trivial), ?_⟩
    first | refine Fin_same hcl rfl (Wk_eq ?_ (by simp only [go_sem])) | refine Fin_self hcl rfl (Wk_eq ?_ (by simp only [go_sem]))
    try simp only [go_sem]
    all_goals
      simp; intro h; subst h; exact c1 rfl
  · -- c1 false
    try simp only [nrm] at c1
    refine W_skip (kq2 _ _ ?_)
    refine W_seq fun kz5 kq5 => ?_
    refine W_seq fun kz6 kq6 => ?_
    refine W_region [0, 1, 5] fun R hR => ?_   -- r3
    simp only [go_sem]
    refine hR _ _ (kq6 _ _ ?_); clear hR R; try clear kq6 kz6
    try simp only [go_sem]
    refine W_block ?_
    refine W_loopS (α := Nat) (fun (i : Nat) => [(5, I i)]) (fun (i : Nat) => i ≤ xs.length ∧ xs.take i = ys.take i) (fun (i : Nat) => xs.length - i) (0) rfl (⟨Nat.zero_le _, rfl⟩) ?_
    rintro i ⟨hi, ht⟩
    refine W_seq fun kz7 kq7 => ?_
    refine W_seq fun kz8 kq8 => ?_
    refine W_region [0, 1, 5, 14] fun R hR => ?_   -- r4
    simp only [go_sem]
    refine hR _ _ (kq8 _ _ ?_); clear hR R; try clear kq8 kz8
    try simp only [go_sem]
    refine W_cond rfl (fun c2 => ?_) (fun c2 => ?_)
    · -- c2 true
      try simp only [nrm] at c2
      have hi' : i < xs.length := by first | assumption | omega
      obtain ⟨x, hxi⟩ : ∃ x, xs[i]? = some x := ⟨xs[i], by simp⟩
      obtain ⟨y, hyi⟩ : ∃ y, ys[i]? = some y := ⟨ys[i]'(by omega), by simp⟩
      refine W_skip (kq7 _ _ ?_)
      refine W_seq fun kz9 kq9 => ?_
      refine W_block ?_
      refine W_seq fun kz10 kq10 => ?_
      refine W_draw [0, 1, 5, 25] [0, 1, 2, 3, 4, 5, 6, 7, 8] [] [[], [], [0, 1], [0, 1, 2], [], [], [4, 5], [4, 5, 6], [0, 1, 2, 3, 4, 5, 6, 7]] mixed (by kernel_rfl) fun R hR => ?_   -- r6
      simp only [go_sem, hxi, hyi]
      try refine And.intro (by repeat' (first | refine And.intro ?_ ?_ | exact GOr_right (fun _ => by simp only [go_sem, hxi, hyi]))) ?_
      refine hR _ _ (kq10 _ _ ?_); clear hR R; try clear kq10 kz10
      try simp only [go_sem, hxi, hyi]
      refine W_cond rfl (fun c3 => ?_) (fun c3 => ?_)
      · -- c3 true
        try simp only [nrm] at c3
        refine W_seq fun kz11 kq11 => ?_
        refine W_region [4] fun R hR => ?_   -- r7
        simp only [go_sem, hxi, hyi]
        refine hR _ _ (kq11 _ _ ?_); clear hR R; try clear kq11 kz11
        try simp only [go_sem, hxi, hyi]
        refine W_ret ?_
        simp only [go_sem, hxi, hyi]
        refine ⟨.inr (by trivial), ?_⟩
        first | refine Fin_same hcl rfl (Wk_eq ?_ (by simp only [go_sem])) | refine Fin_self hcl rfl (Wk_eq ?_ (by simp only [go_sem]))
        try simp only [go_sem]
        all_goals
          simp; intro h; subst h; rw [hxi] at hyi; injection hyi with h; exact c3 h
      · -- c3 false
        try simp only [nrm] at c3
        refine W_skip (kq9 _ _ ?_)
        refine W_region [0, 1, 5] fun R hR => ?_   -- r5
        simp only [go_sem, hxi, hyi]
        try simp (disch := omega) only [wrapI, wrapU]
        refine hR _ _ ?_; clear hR R
        try simp only [go_sem, hxi, hyi]
        refine ⟨i + 1, ?_, by (try simp only []); omega, ?_⟩
        · first | exact Weak.refl | exact Weak.eq (by first | rfl | (simp only [go_sem]; done) | (simp only [go_sem]; rfl) | (simp [go_sem]; done) | (simp [go_sem]; omega)) (by first | rfl | (simp only [go_sem]; done) | (simp [go_sem]; done))
        · try dsimp only
          exact ⟨hi', by rw [List.take_add_one, List.take_add_one, ht, hxi, hyi, c3]⟩
    · -- c2 false
      try simp only [nrm] at c2
      have hie : i = xs.length := by omega
      subst hie
      have hxy : xs = ys := by rw [List.take_length] at ht; rw [c1, List.take_length] at ht; exact ht
      refine W_exit ?_
      simp only [go_sem]
      refine kq5 _ _ ?_
      refine W_seq fun kz12 kq12 => ?_
      refine W_region [4] fun R hR => ?_   -- r8
      simp only [go_sem]
      refine hR _ _ (kq12 _ _ ?_); clear hR R; try clear kq12 kz12
      try simp only [go_sem]
      refine W_ret ?_
      simp only [go_sem]
      refine ⟨.inr (by trivial), ?_⟩
      first | refine Fin_same hcl rfl (Wk_eq ?_ (by simp only [go_sem])) | refine Fin_self hcl rfl (Wk_eq ?_ (by simp only [go_sem]))
      try simp only [go_sem]
      all_goals
        simp [hxy]

end Go.Proofs.Ytnpamcpoaklgeaa

namespace Go.Proofs.Ytnpamcpoaklgeaa
open Go Go.RowKit
set_option maxRecDepth 100000

def quarterC : City := ⟨⟨[110, 80, 50], [(0, 1), (1, 2), (0, 2)], [], 6⟩, 5, [590, 500, 0]⟩
def bandsQ : List Band := [⟨0, [0, 1], 100, 110, 20, 50⟩, ⟨2, [1], 120, 120, 30, 40⟩, ⟨1, [], 300, 300, 10, 90⟩, ⟨0, [], 650, 650, 10, 1⟩]
def laterQ (s : Int) : Band := ⟨2, [1], s, s, 30, 40⟩
theorem quarter_ok : quarterC.Ok := ⟨by decide, by decide, by decide, (fun g hg => by cases hg), by decide⟩
theorem bandsQ_ok : BandsOk bandsQ := ⟨by decide, fun b hb => by simp only [bandsQ, List.mem_cons, List.not_mem_nil, or_false] at hb; rcases hb with rfl | rfl | rfl | rfl <;> decide⟩
theorem ex_grant : grantAns quarterC bandsQ = ([0, 10, 13, 11], 0) := by decide +kernel
theorem ex_cross : crossAns quarterC ⟨0, [0, 1], 100, 110, 20, 50⟩ (laterQ 60) = (3, 0) := by decide +kernel
theorem ex_sleep : sleepAns quarterC (bandsQ.take 1) 0 = (130, 590, 0) := by decide +kernel

set_option maxHeartbeats 2000000 in
theorem quarter_pc (Y : YEnv) (σ : Sg)  :
    PC Try.prog Y 58 [] σ (ctPV quarterC) (σ) := by
  refine PC_of_W Try.func58 rfl (by kernel_rfl) Try.ntmps58 (by simp) fun hcl hca => ?_
  refine W_seq fun kz1 kq1 => ?_
  refine W_region [0] fun R hR => ?_   -- r0
  simp only [go_sem]
  refine hR _ _ (kq1 _ _ ?_); clear hR R; try clear kq1 kz1
  try simp only [go_sem]
  refine W_seq fun kz2 kq2 => ?_
  refine W_region [0] fun R hR => ?_   -- r1
  simp only [go_sem]
  refine hR _ _ (kq2 _ _ ?_); clear hR R; try clear kq2 kz2
  try simp only [go_sem]
  refine W_ret ?_
  simp only [go_sem]
  refine ⟨.inr (by trivial), ?_⟩
  refine Fin_same hcl (by show resPV Try.prog _ _ [.cell 0 28] = some _; simp only [resPV, go_sem]; rfl) (Wk.ro (by simp only [go_sem]) ?_)
  try simp only [go_sem]
  all_goals
    rfl
set_option maxHeartbeats 2000000 in
theorem span_pc (Y : YEnv) (σ : Sg) (lo hi : Int) :
    PC Try.prog Y 101 [I lo, I hi] σ (.agg [I lo, I hi]) (σ) := by
  refine PC_of_W Try.func101 rfl (by kernel_rfl) Try.ntmps101 (by simp) fun hcl hca => ?_
  refine W_seq fun kz1 kq1 => ?_
  refine W_region [0, 1, 4] fun R hR => ?_   -- r0
  simp only [go_sem]
  refine hR _ _ (kq1 _ _ ?_); clear hR R; try clear kq1 kz1
  try simp only [go_sem]
  refine W_seq fun kz2 kq2 => ?_
  refine W_region [4] fun R hR => ?_   -- r1
  simp only [go_sem]
  refine hR _ _ (kq2 _ _ ?_); clear hR R; try clear kq2 kz2
  try simp only [go_sem]
  refine W_ret ?_
  simp only [go_sem]
  refine ⟨.inr (by trivial), ?_⟩
  first | refine Fin_same hcl (by show resPV Try.prog _ _ [.cell 4 31] = some _; simp only [resPV, go_sem]; rfl) (Wk_eq ?_ (by simp only [go_sem])) | refine Fin_same hcl rfl (Wk_eq ?_ (by simp only [go_sem]))
  try simp only [go_sem]
  all_goals
    first | rfl | (simp_all; done) | (simp_all; omega)
set_option maxHeartbeats 2000000 in
theorem bandsQ_pc (Y : YEnv) (σ : Sg)  :
    PC Try.prog Y 59 [] σ (bands bandsQ) (σ) := by
  refine PC_of_W Try.func59 rfl (by kernel_rfl) Try.ntmps59 (by simp) fun hcl hca => ?_
  refine W_seq fun kz1 kq1 => ?_
  refine W_region [] fun R hR => ?_   -- r0
  simp only [go_sem]
  refine hR _ _ (kq1 _ _ ?_); clear hR R; try clear kq1 kz1
  try simp only [go_sem]
  refine W_seq fun kz2 kq2 => ?_
  refine W_region [0] fun R hR => ?_   -- r1
  simp only [go_sem]
  refine GCall_of (span_pc Y _ 100 110) ?_   -- t2
  simp only [go_sem]
  refine GCall_of (span_pc Y _ 120 120) ?_   -- t5
  simp only [go_sem]
  refine GCall_of (span_pc Y _ 300 300) ?_   -- t7
  simp only [go_sem]
  refine GCall_of (span_pc Y _ 650 650) ?_   -- t9
  simp only [go_sem]
  refine hR _ _ (kq2 _ _ ?_); clear hR R; try clear kq2 kz2
  try simp only [go_sem]
  refine W_ret ?_
  simp only [go_sem]
  refine ⟨.inr (by trivial), ?_⟩
  first | refine Fin_same hcl rfl (Wk.ro (by simp only [go_sem]) ?_) | refine Fin_self hcl rfl (Wk.ro (by simp only [go_sem]) ?_)
  try simp only [go_sem]
  all_goals
    rfl
set_option maxHeartbeats 2000000 in
theorem later_pc (Y : YEnv) (σ : Sg) (s : Int) :
    PC Try.prog Y 60 [I s] σ (bdPV (laterQ s)) (σ) := by
  refine PC_of_W Try.func60 rfl (by kernel_rfl) Try.ntmps60 (by simp) fun hcl hca => ?_
  have q0 : (0 : Int) ≤ 1 := by decide
  have q1 : (1 : Int).toNat = 1 := rfl
  have q2 : bandsQ[1]? = some ⟨2, [1], 120, 120, 30, 40⟩ := rfl
  refine W_seq fun kz1 kq1 => ?_
  refine W_region [0, 2] fun R hR => ?_   -- r0
  simp only [go_sem, q0, q1, q2]
  refine hR _ _ (kq1 _ _ ?_); clear hR R; try clear kq1 kz1
  try simp only [go_sem, q0, q1, q2]
  refine W_seq fun kz2 kq2 => ?_
  refine W_region [0, 2, 3] fun R hR => ?_   -- r1
  simp only [go_sem, q0, q1, q2]
  refine GCall_of (bandsQ_pc Y _) ?_   -- t4
  simp only [go_sem, q0, q1, q2]
  refine hR _ _ (kq2 _ _ ?_); clear hR R; try clear kq2 kz2
  try simp only [go_sem, q0, q1, q2]
  refine W_seq fun kz3 kq3 => ?_
  refine W_region [2, 3] fun R hR => ?_   -- r2
  simp only [go_sem, q0, q1, q2]
  refine GCall_of (span_pc Y _ s s) ?_   -- t9
  simp only [go_sem, q0, q1, q2]
  refine hR _ _ (kq3 _ _ ?_); clear hR R; try clear kq3 kz3
  try simp only [go_sem, q0, q1, q2]
  refine W_seq fun kz4 kq4 => ?_
  refine W_region [2] fun R hR => ?_   -- r3
  simp only [go_sem, q0, q1, q2]
  refine hR _ _ (kq4 _ _ ?_); clear hR R; try clear kq4 kz4
  try simp only [go_sem, q0, q1, q2]
  refine W_ret ?_
  simp only [go_sem, q0, q1, q2]
  refine ⟨.inr (by trivial), ?_⟩
  refine Fin_same hcl (by show resPV Try.prog _ _ [.cell 2 33] = some _; simp only [resPV, go_sem]; rfl) (Wk.ro (by simp only [go_sem]) ?_)
  try simp only [go_sem]
  all_goals
    rfl
set_option maxHeartbeats 2000000 in
theorem lawake_pc (Y : YEnv) (σ : Sg)  :
    PC Try.prog Y 17 [] σ (.bool true) (σ) := by
  refine PC_of_W Try.func17 rfl (by kernel_rfl) Try.ntmps17 (by simp) fun hcl hca => ?_
  have q0 : (0 : Int) ≤ 0 := by decide
  have q1 : (0 : Int).toNat = 0 := rfl
  have q2 : bandsQ[0]? = some ⟨0, [0, 1], 100, 110, 20, 50⟩ := rfl
  have q3 : (0 : Int) ≤ 1 := by decide
  have q4 : (1 : Int).toNat = 1 := rfl
  have q5 : 1 ≤ bandsQ.length := by decide
  refine W_seq fun kz1 kq1 => ?_
  refine W_region [] fun R hR => ?_   -- r0
  simp only [go_sem, q0, q1, q2, q3, q4, q5]
  refine hR _ _ (kq1 _ _ ?_); clear hR R; try clear kq1 kz1
  try simp only [go_sem, q0, q1, q2, q3, q4, q5]
  refine W_seq fun kz2 kq2 => ?_
  refine W_region [1, 2] fun R hR => ?_   -- r1
  simp only [go_sem, q0, q1, q2, q3, q4, q5]
  refine GCall_of (quarter_pc Y _) ?_   -- t9
  simp only [go_sem, q0, q1, q2, q3, q4, q5]
  refine GCall_of (bandsQ_pc Y _) ?_   -- t10
  simp only [go_sem, q0, q1, q2, q3, q4, q5]
  refine GCall_of (PC.val (v' := .tuple [ints [0, 10, 13, 11], I 0]) (Grant_pc Y _ quarterC bandsQ quarter_ok bandsQ_ok) (by rw [ex_grant])) ?_   -- t11
  simp only [go_sem, q0, q1, q2, q3, q4, q5]
  refine hR _ _ (kq2 _ _ ?_); clear hR R; try clear kq2 kz2
  try simp only [go_sem, q0, q1, q2, q3, q4, q5]
  refine W_seq fun kz3 kq3 => ?_
  refine W_draw [1, 2, 3, 4] [0, 1, 2, 3, 4, 5, 6, 7, 8, 9, 10] [(2, 5), (3, 5)] [[], [0], [0, 1], [0, 1, 2], [0, 1], [0, 1, 2, 3, 4], [0, 1, 2, 3, 4, 5], [0, 1, 2, 3, 4, 5, 6], [0, 1, 2, 3, 4, 5, 6], [0, 1, 2, 3, 4, 5, 6, 7], [0, 1, 2, 3, 4, 5, 6, 7, 8, 9]] mixed (by kernel_rfl) fun R hR => ?_   -- r2
  simp only [go_sem, q0, q1, q2, q3, q4, q5]
  refine GCall_of (quarter_pc Y _) ?_   -- t15
  simp only [go_sem, q0, q1, q2, q3, q4, q5]
  refine GCall_of (bandsQ_pc Y _) ?_   -- t16
  simp only [go_sem, q0, q1, q2, q3, q4, q5]
  refine GCall_of (later_pc Y _ 60) ?_   -- t19
  simp only [go_sem, q0, q1, q2, q3, q4, q5]
  refine GCall_of (PC.val (v' := .tuple [I 3, I 0]) (bCross_pc Y _ quarterC ⟨0, [0, 1], 100, 110, 20, 50⟩ (laterQ 60) quarter_ok (by decide) (by decide)) (by rw [ex_cross])) ?_   -- t20
  simp only [go_sem, q0, q1, q2, q3, q4, q5]
  try refine And.intro (by repeat' (first | refine And.intro ?_ ?_ | exact GOr_right (fun _ => by simp only [go_sem, q0, q1, q2, q3, q4, q5]))) ?_
  refine hR _ _ (kq3 _ _ ?_); clear hR R; try clear kq3 kz3
  try simp only [go_sem, q0, q1, q2, q3, q4, q5]
  refine W_seq fun kz4 kq4 => ?_
  refine W_region [1, 2, 3, 4, 5, 6, 7] fun R hR => ?_   -- r3
  simp only [go_sem, q0, q1, q2, q3, q4, q5]
  refine GCall_of (quarter_pc Y _) ?_   -- t24
  simp only [go_sem, q0, q1, q2, q3, q4, q5]
  refine GCall_of (bandsQ_pc Y _) ?_   -- t25
  simp only [go_sem, q0, q1, q2, q3, q4, q5]
  refine GCall_of (PC.val (v' := .tuple [I 130, I 590, I 0]) (bSleep_pc Y _ quarterC (bandsQ.take 1) 0 quarter_ok ⟨by decide, fun b hb => bandsQ_ok.2 b (List.mem_of_mem_take hb)⟩) (by rw [ex_sleep])) ?_   -- t27
  simp only [go_sem, q0, q1, q2, q3, q4, q5]
  refine hR _ _ (kq4 _ _ ?_); clear hR R; try clear kq4 kz4
  try simp only [go_sem, q0, q1, q2, q3, q4, q5]
  refine W_seq fun kz5 kq5 => ?_
  refine W_region [0] fun R hR => ?_   -- r4
  simp only [go_sem, q0, q1, q2, q3, q4, q5]
  refine GCall_of (PC.val (v' := .bool true) (EqErrors_pc Y _ [0, 10, 13, 11] [0, 10, 13, 11] .ro .exact (by decide)) (by simp)) ?_   -- t44
  simp only [go_sem, q0, q1, q2, q3, q4, q5]
  refine hR _ _ (kq5 _ _ ?_); clear hR R; try clear kq5 kz5
  try simp only [go_sem, q0, q1, q2, q3, q4, q5]
  refine W_ret ?_
  simp only [go_sem, q0, q1, q2, q3, q4, q5]
  refine ⟨.inr (by trivial), ?_⟩
  first | refine Fin_same hcl rfl (Wk_eq ?_ (by simp only [go_sem])) | refine Fin_self hcl rfl (Wk_eq ?_ (by simp only [go_sem]))
  try simp only [go_sem]
  all_goals
    first | rfl | (simp_all; done) | (simp_all; omega)

end Go.Proofs.Ytnpamcpoaklgeaa

namespace Go.Proofs.Ytnpamcpoaklgeaa
open Go Go.RowKit

structure CityV (c : City) : Prop where
  tv : TownV 4 5 1 c.town
  b0 : 0 ≤ c.brk
  b1 : c.brk ≤ 60
  sl : c.sleep.length = c.town.rooms.length
  sv : ∀ n, n ∈ c.sleep → 0 ≤ n ∧ n ≤ 720
theorem cityA_ok {t : Town} {brk : Int} (ht : TownV 4 5 1 t) (h0 : 0 ≤ brk) (h1 : brk ≤ 60) : ∀ (k : Nat) (acc : List Int), acc.length + k = t.rooms.length → (∀ n, n ∈ acc → 0 ≤ n ∧ n ≤ 720) → Holds (cityA t brk k acc) CityV := by
  intro k
  induction k with
  | zero => intro acc hl ha; exact .ret ⟨ht, h0, h1, by simpa using hl, ha⟩
  | succ k ih =>
    intro acc hl ha
    refine (roll_bd 721).bind fun x hx => (mid_bd 300 600 (by omega)).bind fun y hy => (anyOf_mem [0, x, y] (by simp)).bind fun z hz => ih _ (by simp; omega) fun n hn => ?_
    have hz := mem3 hz
    rcases List.mem_append.1 hn with hn | hn
    · exact ha n hn
    · simp only [List.mem_singleton] at hn; subst hn; omega
theorem cityD_ok : Holds cityD CityV := by
  unfold cityD
  refine Holds.bind (R := TownV 4 5 1) townD451 fun t ht => (roll_bd 10).bind fun x hx => (roll_bd 60).bind fun y hy => (anyOf_mem [0, 1, x, y] (by simp)).bind fun brk hb => ?_
  have hb := mem4 hb
  exact cityA_ok ht (by omega) (by omega) _ [] (by simp) (fun n hn => by cases hn)
theorem CityV.chk {c : City} (h : CityV c) : chkCity c = 0 := by
  have := h.b0; have := h.b1
  unfold chkCity
  rw [if_neg (by rw [h.tv.ok (by omega) (by omega) (by omega)]; simp), if_neg (by simp [inR]; omega), if_neg (by simp [h.sl]), if_neg]
  intro hh
  rw [List.any_eq_true] at hh
  obtain ⟨n, hn, hh⟩ := hh
  have := h.sv n hn
  simp [inR] at hh; omega
theorem CityV.okc {c : City} (h : CityV c) : c.Ok := by
  have := h.tv.r1; have := h.tv.s1; have := h.tv.g1; have := h.sl
  exact ⟨by omega, by omega, by omega, fun g hg => by have := (h.tv.g2 g hg).p1; omega, by omega⟩
theorem CityV.small {c : City} (h : CityV c) : c.Small := by
  have := h.tv.r1; have := h.tv.s1; have := h.tv.g1; have := h.sl
  exact ⟨by omega, by omega, by omega, fun g hg => by have := (h.tv.g2 g hg).p1; omega, by omega⟩

structure BandV (c : City) (b : Band) : Prop where
  f0 : 0 ≤ b.first
  f1 : b.first < c.town.rooms.length
  p1 : b.path.length ≤ 4
  p2 : chkPath c.town.streets b.path b.first = 0
  l0 : 0 ≤ b.lo
  l1 : b.lo ≤ b.hi
  l2 : b.hi ≤ b.lo + 4
  s0 : 1 ≤ b.stay
  s1 : b.stay ≤ 20
  q0 : 0 ≤ b.people
  q1 : b.people ≤ 600
  e1 : b.hi + b.stay * ((b.path.length : Int) + 1) ≤ 720
theorem bandP_ok {c : City} {first stay people : Int} (hf0 : 0 ≤ first) (hf1 : first < c.town.rooms.length) (hs0 : 1 ≤ stay) (hs1 : stay ≤ 20) (hp0 : 0 ≤ people) (hp1 : people ≤ 600) : ∀ (k : Nat) (a : Int) (acc : List Int), (k ≠ 0 → 0 < c.town.streets.length) → acc.length + k ≤ 4 →
    chkPath c.town.streets acc first = 0 → pathEnd c.town.streets acc first = a → Holds (bandP c.town.streets first stay people k a acc) (BandV c) := by
  intro k
  induction k with
  | zero =>
    intro a acc _ hl hc _
    have hm := mul_bd (a := stay) (b := (acc.length : Int) + 1) (A := 20) (B := 5) (by omega) hs1 (by omega) (by omega)
    refine (anyOf_mem [60, 200, 720 - stay * ((acc.length : Int) + 1) - 4] (by simp)).bind fun m hm' => (roll_bd m).bind fun st hst => (roll_bd 5).bind fun z hz => (anyOf_mem [0, 0, z] (by simp)).bind fun more hmo => ?_
    have hm' := mem3 hm'
    have hmo := mem3 hmo
    exact .ret ⟨hf0, hf1, by simpa using hl, hc, by (try dsimp only); omega, by (try dsimp only); omega, by (try dsimp only); omega, hs0, hs1, hp0, hp1, by (try dsimp only); omega⟩
  | succ k ih =>
    intro a acc h0 hl hc he
    have hs := h0 (by omega)
    refine (roll_bd c.town.streets.length).bind fun s hsb => ?_
    split
    · rename_i ho
      obtain ⟨q1, q2⟩ := chkPath_snoc (s := s) (by omega) (by omega) acc first hc (by rw [he]; exact ho)
      exact ih _ _ (fun _ => hs) (by simp; omega) q1 (by rw [q2, he])
    · exact ih _ _ (fun _ => hs) (by omega) hc he
theorem bandD_ok {c : City} (hc : CityV c) : Holds (bandD c) (BandV c) := by
  have := hc.tv.r0
  unfold bandD
  refine (roll_bd c.town.rooms.length).bind fun f hf => (anyOf_mem [6, 20] (by simp)).bind fun q hq => ?_
  have hq := mem2 hq
  refine (mid_bd 1 q (by omega)).bind fun st hst => (roll_bd 60).bind fun x hx => (roll_bd 600).bind fun y hy => (anyOf_mem [0, x, y] (by simp)).bind fun p hp => (roll_bd 5).bind fun k hk => ?_
  have hp := mem3 hp
  refine bandP_ok (by omega) (by omega) (by omega) (by omega) (by omega) (by omega) _ _ [] (fun h => ?_) ?_ rfl rfl
  · split at h
    · assumption
    · exact absurd rfl h
  · split <;> simp <;> omega
theorem bandsA_ok {c : City} (hc : CityV c) : ∀ (k : Nat) (acc : List Band) (n : Nat), acc.length + k ≤ n → (∀ b, b ∈ acc → BandV c b) → Holds (bandsA c k acc) fun l => l.length ≤ n ∧ ∀ b, b ∈ l → BandV c b := by
  intro k
  induction k with
  | zero => intro acc n hl ha; exact .ret ⟨by simpa using hl, ha⟩
  | succ k ih =>
    intro acc n hl ha
    refine (bandD_ok hc).bind fun x hx => ih _ n (by simp; omega) fun b hb => ?_
    rcases List.mem_append.1 hb with hb | hb
    · exact ha b hb
    · simp only [List.mem_singleton] at hb; subst hb; exact hx
theorem bandsD_ok {c : City} (hc : CityV c) (most : Nat) : Holds (bandsD c most) fun l => l.length ≤ most ∧ ∀ b, b ∈ l → BandV c b := by
  unfold bandsD
  refine (roll_bd (most + 1)).bind fun k hk => bandsA_ok hc _ [] most (by simp; omega) (fun b hb => by cases hb)
theorem other_of {x : Int × Int} {n a : Int} (h : 0 ≤ x.1 ∧ x.1 < n ∧ 0 ≤ x.2 ∧ x.2 < n ∧ x.1 ≠ x.2) (ho : ¬ other x a < 0) : (a = x.1 ∧ other x a = x.2) ∨ (a ≠ x.1 ∧ a = x.2 ∧ other x a = x.1) := by
  unfold other at ho ⊢
  split at ho
  · rename_i e; exact .inl ⟨e, by rw [if_pos e]⟩
  · rename_i e
    split at ho
    · rename_i e2; exact .inr ⟨e, e2, by rw [if_neg e, if_pos e2]⟩
    · omega
theorem walkSq_of_path {st : List (Int × Int)} {n : Int} (hs : ∀ s, s ∈ st → 0 ≤ s.1 ∧ s.1 < n ∧ 0 ≤ s.2 ∧ s.2 < n ∧ s.1 ≠ s.2) : ∀ (p : List Int) (a : Int) (out : List Int), chkPath st p a = 0 → (walkSq st p a out).2 = 0 := by
  intro p
  induction p with
  | nil => intro a out _; rfl
  | cons k r ih =>
    intro a out h
    simp only [chkPath] at h
    simp only [walkSq]
    split at h
    · cases h
    · rename_i h1
      rw [if_neg h1]
      split at h
      · cases h
      · rename_i x hx
        split at h
        · cases h
        · rename_i ho
          rcases other_of (hs x (List.mem_of_getElem? hx)) ho with ⟨e, e2⟩ | ⟨e, e2, e3⟩
          · (try rw [hx]); (try dsimp only); rw [if_pos e]; rw [e2] at h; exact ih _ _ h
          · (try rw [hx]); (try dsimp only); rw [if_neg e, if_pos e2]; rw [e3] at h; exact ih _ _ h
theorem BandV.chk {c : City} (hc : CityV c) {b : Band} (h : BandV c b) : chkBand c b = 0 := by
  have e : (sqs c b).2 = 0 := by
    have := h.f0; have := h.f1; have := h.p1
    unfold sqs
    rw [if_neg (by simp [inR]; omega), if_neg (by omega)]
    exact walkSq_of_path (chkStreets_inv (chkTown_streets (chkCity_town hc.chk))) _ _ _ h.p2
  have := h.l0; have := h.l1; have := h.l2; have := h.s0; have := h.s1; have := h.q0; have := h.q1; have := h.e1
  have hm := mul_bd (a := b.stay) (b := (b.path.length : Int) + 1) (A := 20) (B := 5) (by omega) (by omega) (by omega) (by have := h.p1; omega)
  have hm2 : b.stay ≤ b.stay * ((b.path.length : Int) + 1) := by
    have := Int.mul_le_mul_of_nonneg_left (show (1 : Int) ≤ (b.path.length : Int) + 1 by omega) (show 0 ≤ b.stay by omega)
    simpa using this
  unfold chkBand
  rw [if_neg (by rw [e]; simp)]
  unfold timesOf
  rw [if_neg (by simp [inR]; omega), if_neg (by simp [inR]; omega), if_neg (by omega), if_neg (by omega), if_neg (by simp [inR]; omega), if_neg (by simp [inR]; omega), if_neg (by omega)]
end Go.Proofs.Ytnpamcpoaklgeaa
