/-
  Plain law: two bands cross, minute by minute.
  Walk: two bands, minute by minute (baterialaw07.crossed).
  The law BandMeets, walked: all true starts of two bands, minute by minute.
  The law BandMeets: whatever comes in, it answers true and leaves what came in as it was.
-/
import Derived.Test.YtnpamcpoaklgeaaPj
import Derived.Test.YtnpamcpoaklgeaaPd
import Derived.JoinedOf
set_option linter.unusedSimpArgs false
set_option linter.unusedVariables false
namespace Go.Proofs.Ytnpamcpoaklgeaa
open Go Go.RowKit

theorem div_idx {d s : Int} (hs : 1 ≤ s) (hd : 0 ≤ d) : ∃ i : Nat, d.tdiv s = (i : Int) ∧ (i : Int) * s ≤ d ∧ d < (i : Int) * s + s := by
  have h0 : 0 ≤ d.tdiv s := Int.tdiv_nonneg hd (by omega)
  refine ⟨(d.tdiv s).toNat, by omega, ?_, ?_⟩
  · rw [Int.toNat_of_nonneg h0, Int.tdiv_eq_ediv_of_nonneg hd]
    exact Int.ediv_mul_le d (by omega)
  · rw [Int.toNat_of_nonneg h0, Int.tdiv_eq_ediv_of_nonneg hd]
    have := Int.lt_ediv_add_one_mul_self d (show 0 < s by omega)
    rw [Int.add_mul, Int.one_mul] at this
    exact this
theorem idx_uniq {d s : Int} {i j : Nat} (hs : 1 ≤ s) (h1 : (i : Int) * s ≤ d) (h2 : d < (i : Int) * s + s) (h3 : (j : Int) * s ≤ d) (h4 : d < (j : Int) * s + s) : i = j := by
  rcases Nat.lt_trichotomy i j with h | h | h
  · have := Int.mul_le_mul_of_nonneg_right (show (i : Int) + 1 ≤ (j : Int) by omega) (show 0 ≤ s by omega)
    rw [Int.add_mul, Int.one_mul] at this
    omega
  · exact h
  · have := Int.mul_le_mul_of_nonneg_right (show (j : Int) + 1 ≤ (i : Int) by omega) (show 0 ≤ s by omega)
    rw [Int.add_mul, Int.one_mul] at this
    omega
theorem mod_idx {d s : Int} {i : Nat} (hs : 1 ≤ s) (hd : 0 ≤ d) (h1 : (i : Int) * s ≤ d) (h2 : d < (i : Int) * s + s) : (d.tmod s = 0) = (d = (i : Int) * s) := by
  have e : d.tmod s = d - (i : Int) * s := by
    rw [Int.tmod_eq_emod_of_nonneg hd]
    obtain ⟨j, hj1, hj2, hj3⟩ := div_idx hs hd
    obtain rfl := idx_uniq hs h1 h2 hj2 hj3
    rw [Int.tdiv_eq_ediv_of_nonneg hd] at hj1
    have := Int.emod_def d s
    rw [hj1, Int.mul_comm] at this
    exact this
  rw [e]
  exact propext ⟨fun h => by omega, fun h => by omega⟩
theorem quo_bd {d s : Int} (hs : 1 ≤ s) (h1 : -100000 ≤ d) (h2 : d ≤ 100000) : -100000 ≤ d.tdiv s ∧ d.tdiv s ≤ 100000 := by
  have := Int.natAbs_tdiv_le_natAbs d s
  omega
theorem rem_bd {d s : Int} (h1 : -100000 ≤ d) (h2 : d ≤ 100000) : -100000 ≤ d.tmod s ∧ d.tmod s ≤ 100000 := by
  have e := Int.tmod_def d s
  have : (d.tmod s).natAbs ≤ d.natAbs := by
    rw [Int.natAbs_tmod]
    exact Nat.mod_le _ _
  omega

/-- The bands are in one square, fewer minutes apart than have to be; they go along a street in one minute. -/
def HitA (brk : Int) (a b : Band) (p q : List Int) (m n t o : Int) (i k : Nat) : Prop :=
  m + (i : Int) * a.stay ≤ t ∧ t < m + (i : Int) * a.stay + a.stay ∧ i < p.length ∧ t - brk ≤ o ∧ o ≤ t + brk ∧ 0 ≤ o ∧ n + (k : Int) * b.stay ≤ o ∧ o < n + (k : Int) * b.stay + b.stay ∧ k < q.length ∧ p[i]? = q[k]?
def HitB (a b : Band) (p q : List Int) (m n t : Int) (i k : Nat) : Prop :=
  t = m + (i : Int) * a.stay ∧ t = n + (k : Int) * b.stay ∧ 0 < i ∧ 0 < k ∧ i < p.length ∧ k < q.length ∧ a.path[i - 1]? = b.path[k - 1]?
def Hit (brk : Int) (a b : Band) (p q : List Int) (m n t : Int) : Prop := ∃ i k, (∃ o, HitA brk a b p q m n t o i k) ∨ HitB a b p q m n t i k
theorem hit_meet {c : City} {a b : Band} {m n t : Int} (ha : (sqs c a).2 = 0) (hb : (sqs c b).2 = 0) (h : Hit c.brk a b (sqs c a).1 (sqs c b).1 m n t) : meetB c a b m n = true := by
  have la := sqs_ok ha
  have lb := sqs_ok hb
  rw [meetB_iff]
  obtain ⟨i, k, ⟨o, h1, h2, h3, h4, h5, h6, h7, h8, h9, h10⟩ | ⟨h1, h2, h3, h4, h5, h6, h7⟩⟩ := h
  · refine ⟨i, k, h3, h9, ?_⟩
    simp only [mtT, mtA, Bool.or_eq_true, Bool.and_eq_true, decide_eq_true_eq]
    exact .inl ⟨⟨h10, by omega⟩, by omega⟩
  · refine ⟨i - 1, k - 1, by omega, by omega, ?_⟩
    have e1 := step_mul i a.stay h3
    have e2 := step_mul k b.stay h4
    simp only [mtT, mtB, Bool.or_eq_true, Bool.and_eq_true, decide_eq_true_eq]
    exact .inr ⟨⟨⟨by omega, by omega⟩, h7⟩, by omega⟩
theorem idx_end {i l : Nat} {s : Int} (hs : 1 ≤ s) (h : i < l) : (i : Int) * s + s ≤ s * (l : Int) := by
  have := Int.mul_le_mul_of_nonneg_right (show (i : Int) + 1 ≤ (l : Int) by omega) (show 0 ≤ s by omega)
  rw [Int.add_mul, Int.one_mul, Int.mul_comm (l : Int)] at this
  exact this
theorem meet_hit {c : City} {a b : Band} {m n : Int} (ha : (sqs c a).2 = 0) (hb : (sqs c b).2 = 0) (hbrk : 0 ≤ c.brk) (sa : 1 ≤ a.stay) (sb : 1 ≤ b.stay) (hm : 0 ≤ m) (hn : 0 ≤ n) (hm2 : m + a.stay * ((a.path.length : Int) + 1) ≤ 720)
    (h : meetB c a b m n = true) : ∃ t : Nat, t < 720 ∧ Hit c.brk a b (sqs c a).1 (sqs c b).1 m n t := by
  have la := sqs_ok ha
  have lb := sqs_ok hb
  rw [meetB_iff] at h
  obtain ⟨i, k, hi, hk, h⟩ := h
  have hX : 0 ≤ (i : Int) * a.stay := Int.mul_nonneg (by omega) (by omega)
  have hY : 0 ≤ (k : Int) * b.stay := Int.mul_nonneg (by omega) (by omega)
  have hE := idx_end sa hi
  rw [la] at hE
  have e0 : ((a.path.length + 1 : Nat) : Int) = (a.path.length : Int) + 1 := by omega
  rw [e0] at hE
  generalize hXe : (i : Int) * a.stay = X at hX hE
  generalize hYe : (k : Int) * b.stay = Y at hY
  simp only [mtT, mtA, mtB, Bool.or_eq_true, Bool.and_eq_true, decide_eq_true_eq, hXe, hYe] at h
  rcases h with ⟨⟨h1, h2⟩, h3⟩ | ⟨⟨⟨h1, h2⟩, h3⟩, h4⟩
  · by_cases hle : m + X ≤ n + Y
    · refine ⟨(min (m + X + a.stay - 1) (n + Y)).toNat, by omega, i, k, .inl ⟨n + Y, ?_⟩⟩
      unfold HitA
      rw [hXe, hYe]
      exact ⟨by omega, by omega, hi, by omega, by omega, by omega, by omega, by omega, hk, h1⟩
    · refine ⟨(m + X).toNat, by omega, i, k, .inl ⟨min (n + Y + b.stay - 1) (m + X), ?_⟩⟩
      unfold HitA
      rw [hXe, hYe]
      exact ⟨by omega, by omega, hi, by omega, by omega, by omega, by omega, by omega, hk, h1⟩
  · refine ⟨(m + X + a.stay).toNat, ?_, i + 1, k + 1, .inr ?_⟩
    · have hE2 := idx_end sa (show i + 1 < (sqs c a).1.length by omega)
      rw [la, e0] at hE2
      have : ((i + 1 : Nat) : Int) * a.stay = X + a.stay := by rw [← hXe]; rw [show ((i + 1 : Nat) : Int) = (i : Int) + 1 by omega, Int.add_mul, Int.one_mul]
      omega
    · unfold HitB
      have e1 : ((i + 1 : Nat) : Int) * a.stay = X + a.stay := by rw [← hXe]; rw [show ((i + 1 : Nat) : Int) = (i : Int) + 1 by omega, Int.add_mul, Int.one_mul]
      have e2 : ((k + 1 : Nat) : Int) * b.stay = Y + b.stay := by rw [← hYe]; rw [show ((k + 1 : Nat) : Int) = (k : Int) + 1 by omega, Int.add_mul, Int.one_mul]
      rw [e1, e2]
      exact ⟨by omega, by omega, by omega, by omega, by omega, by omega, by simpa using h3⟩
theorem meet_none {c : City} {a b : Band} {m n : Int} (ha : (sqs c a).2 = 0) (hb : (sqs c b).2 = 0) (hbrk : 0 ≤ c.brk) (sa : 1 ≤ a.stay) (sb : 1 ≤ b.stay) (hm : 0 ≤ m) (hn : 0 ≤ n) (hm2 : m + a.stay * ((a.path.length : Int) + 1) ≤ 720)
    (h : ∀ t : Nat, t < 720 → ¬ Hit c.brk a b (sqs c a).1 (sqs c b).1 m n t) : meetB c a b m n = false := by
  rw [Bool.eq_false_iff]
  intro hh
  obtain ⟨t, h1, h2⟩ := meet_hit ha hb hbrk sa sb hm hn hm2 hh
  exact h t h1 h2
theorem tdiv_idx {d s : Int} {i : Nat} (hs : 1 ≤ s) (h1 : (i : Int) * s ≤ d) (h2 : d < (i : Int) * s + s) : d.tdiv s = (i : Int) := by
  have hd : 0 ≤ d := by have := Int.mul_nonneg (show (0 : Int) ≤ i by omega) (show 0 ≤ s by omega); omega
  obtain ⟨j, hj1, hj2, hj3⟩ := div_idx hs hd
  rw [hj1, idx_uniq hs hj2 hj3 h1 h2]
theorem hitA_facts {brk : Int} {a b : Band} {p q : List Int} {m n t o : Int} {i k : Nat} (sa : 1 ≤ a.stay) (sb : 1 ≤ b.stay) (h : HitA brk a b p q m n t o i k) :
    m ≤ t ∧ (t - m).tdiv a.stay = (i : Int) ∧ i < p.length ∧ n ≤ o ∧ (o - n).tdiv b.stay = (k : Int) ∧ k < q.length ∧ t - brk ≤ o ∧ o ≤ t + brk ∧ 0 ≤ o ∧ p[i]? = q[k]? := by
  obtain ⟨h1, h2, h3, h4, h5, h6, h7, h8, h9, h10⟩ := h
  have := Int.mul_nonneg (show (0 : Int) ≤ i by omega) (show 0 ≤ a.stay by omega)
  have := Int.mul_nonneg (show (0 : Int) ≤ k by omega) (show 0 ≤ b.stay by omega)
  exact ⟨by omega, tdiv_idx sa (by omega) (by omega), h3, by omega, tdiv_idx sb (by omega) (by omega), h9, h4, h5, h6, h10⟩
theorem pos_mul {i : Nat} {s : Int} (hi : 0 < i) (hs : 1 ≤ s) : 0 < (i : Int) * s := Int.mul_pos (by omega) (by omega)
theorem hitB_facts {a b : Band} {p q : List Int} {m n t : Int} {i k : Nat} (sa : 1 ≤ a.stay) (sb : 1 ≤ b.stay) (h : HitB a b p q m n t i k) :
    m < t ∧ (t - m).tmod a.stay = 0 ∧ n < t ∧ (t - n).tmod b.stay = 0 ∧ (t - m).tdiv a.stay = (i : Int) ∧ (t - n).tdiv b.stay = (k : Int) ∧ i < p.length ∧ k < q.length ∧ a.path[i - 1]? = b.path[k - 1]? := by
  obtain ⟨h1, h2, h3, h4, h5, h6, h7⟩ := h
  have p1 := pos_mul h3 sa
  have p2 := pos_mul h4 sb
  refine ⟨by omega, ?_, by omega, ?_, tdiv_idx sa (by omega) (by omega), tdiv_idx sb (by omega) (by omega), h5, h6, h7⟩
  · rw [mod_idx (i := i) sa (by omega) (by omega) (by omega)]; omega
  · rw [mod_idx (i := k) sb (by omega) (by omega) (by omega)]; omega
/-- Both come along a street at the end of it. -/
theorem hitB_of {a b : Band} {m n t : Int} {i k : Nat} (sa : 1 ≤ a.stay) (sb : 1 ≤ b.stay) (h1 : m < t) (h2 : (t - m).tmod a.stay = 0) (h3 : n < t) (h4 : (t - n).tmod b.stay = 0)
    (h5 : (i : Int) * a.stay ≤ t - m) (h5' : t - m < (i : Int) * a.stay + a.stay) (h6 : (k : Int) * b.stay ≤ t - n) (h6' : t - n < (k : Int) * b.stay + b.stay) : t = m + (i : Int) * a.stay ∧ t = n + (k : Int) * b.stay ∧ 0 < i ∧ 0 < k := by
  rw [mod_idx (i := i) sa (by omega) h5 h5'] at h2
  rw [mod_idx (i := k) sb (by omega) h6 h6'] at h4
  refine ⟨by omega, by omega, ?_, ?_⟩
  · rcases Nat.eq_zero_or_pos i with e | e
    · subst e; simp at h2; omega
    · exact e
  · rcases Nat.eq_zero_or_pos k with e | e
    · subst e; simp at h4; omega
    · exact e
end Go.Proofs.Ytnpamcpoaklgeaa

namespace Go.Proofs.Ytnpamcpoaklgeaa
open Go Go.RowKit
set_option maxRecDepth 100000

set_option maxHeartbeats 8000000 in
theorem crossed_pc (Y : YEnv) (σ : Sg) (ct : City) (a b : Band) (m n : Int) (hc : ct.Ok) (hk : chkCity ct = 0) (va : chkBand ct a = 0) (vb : chkBand ct b = 0) (ha : a.path.length < 2 ^ 50) (hb : b.path.length < 2 ^ 50) (m1 : a.lo ≤ m) (m2 : m ≤ a.hi) (n1 : b.lo ≤ n) (n2 : n ≤ b.hi) :
    PC Try.prog Y 34 [ctPV ct, bdPV a, bdPV b, I m, I n] σ (.bool (meetB ct a b m n)) (σ) := by
  refine PC_of_W Try.func34 rfl (by kernel_rfl) Try.ntmps34 (by simp) fun hcl hca => ?_
  obtain ⟨hbr0, hbr1⟩ := chkCity_brk hk
  obtain ⟨sqa, tma⟩ := chkBand_ok va
  obtain ⟨sqb, tmb⟩ := chkBand_ok vb
  obtain ⟨a1, a2, a3, a4, sa, a6, a7, a8, a9⟩ := timesOf_ok tma
  obtain ⟨b1, b2, b3, b4, sb, b6, b7, b8, b9⟩ := timesOf_ok tmb
  have la := sqs_ok sqa
  have lb := sqs_ok sqb
  have la13 := (sqs_len ct a).1
  have lb13 := (sqs_len ct b).1
  have hmt : ∀ t, Hit ct.brk a b (sqs ct a).1 (sqs ct b).1 m n t → meetB ct a b m n = true := fun t h => hit_meet sqa sqb h
  have hmn := meet_none (c := ct) (m := m) (n := n) sqa sqb hbr0 sa sb (by omega) (by omega) (by omega)
  obtain ⟨p, hp⟩ : ∃ z, (sqs ct a).1 = z := ⟨_, rfl⟩
  obtain ⟨q, hq⟩ : ∃ z, (sqs ct b).1 = z := ⟨_, rfl⟩
  rw [hp] at la la13 hmt hmn
  rw [hq] at lb lb13 hmt hmn
  have sa0 : (a.stay = 0) = False := eq_false (by omega)
  have sb0 : (b.stay = 0) = False := eq_false (by omega)
  obtain ⟨res, hres⟩ : ∃ r, meetB ct a b m n = r := ⟨_, rfl⟩
  rw [hres]
  refine W_seq fun kz1 kq1 => ?_
  refine W_region [3, 4, 5, 6, 7] fun R hR => ?_   -- r0
  simp only [go_sem, sa0, sb0]
  refine hR _ _ (kq1 _ _ ?_); clear hR R; try clear kq1 kz1
  try simp only [go_sem, sa0, sb0]
  refine W_seq fun kz2 kq2 => ?_
  refine W_region [3, 4, 5, 6, 7, 11] fun R hR => ?_   -- r1
  simp only [go_sem, sa0, sb0]
  refine GCall_of (PC.val (v' := .tuple [ints p, I 0]) (bSquares_pc Y _ ct a hc ha) (by rw [squaresAns_of hk va, hp]; rfl)) ?_   -- t22
  simp only [go_sem, sa0, sb0]
  refine hR _ _ (kq2 _ _ ?_); clear hR R; try clear kq2 kz2
  try simp only [go_sem, sa0, sb0]
  refine W_seq fun kz3 kq3 => ?_
  refine W_region [3, 4, 5, 6, 7, 11, 13] fun R hR => ?_   -- r2
  simp only [go_sem, sa0, sb0]
  refine GCall_of (PC.val (v' := .tuple [ints q, I 0]) (bSquares_pc Y _ ct b hc hb) (by rw [squaresAns_of hk vb, hq]; rfl)) ?_   -- t28
  simp only [go_sem, sa0, sb0]
  refine hR _ _ (kq3 _ _ ?_); clear hR R; try clear kq3 kz3
  try simp only [go_sem, sa0, sb0]
  refine W_seq fun kz4 kq4 => ?_
  refine W_seq fun kz5 kq5 => ?_
  refine W_region [3, 4, 5, 6, 7, 11, 13, 15] fun R hR => ?_   -- r3
  simp only [go_sem, sa0, sb0]
  refine hR _ _ (kq5 _ _ ?_); clear hR R; try clear kq5 kz5
  try simp only [go_sem, sa0, sb0]
  refine W_block ?_
  refine W_loopS (α := Nat) (fun (t : Nat) => [(15, I t)]) (fun (t : Nat) => t ≤ 720 ∧ ∀ t' : Nat, t' < t → ¬ Hit ct.brk a b p q m n t') (fun (t : Nat) => 720 - t) (0) rfl (⟨Nat.zero_le _, fun t' h => (by omega)⟩) ?_
  rintro t ⟨ht, hinv⟩
  refine W_seq fun kz6 kq6 => ?_
  refine W_seq fun kz7 kq7 => ?_
  refine W_region [3, 4, 5, 6, 7, 11, 13, 15, 32] fun R hR => ?_   -- r4
  simp only [go_sem, sa0, sb0]
  refine hR _ _ (kq7 _ _ ?_); clear hR R; try clear kq7 kz7
  try simp only [go_sem, sa0, sb0]
  refine W_cond rfl (fun c1 => ?_) (fun c1 => ?_)
  · -- c1 true
    try simp only [nrm] at c1
    obtain ⟨iq, hiq⟩ : ∃ z, ((t : Int) - m).tdiv a.stay = z := ⟨_, rfl⟩
    obtain ⟨kq, hkq⟩ : ∃ z, ((t : Int) - n).tdiv b.stay = z := ⟨_, rfl⟩
    have hib := quo_bd (d := (t : Int) - m) sa (by omega) (by omega)
    have hkb := quo_bd (d := (t : Int) - n) sb (by omega) (by omega)
    rw [hiq] at hib
    rw [hkq] at hkb
    refine W_skip (kq6 _ _ ?_)
    refine W_seq fun kz8 kq8 => ?_
    refine W_block ?_
    refine W_seq fun kz9 kq9 => ?_
    refine W_region [3, 4, 5, 6, 7, 11, 13, 15, 16] fun R hR => ?_   -- r6
    simp only [go_sem, sa0, sb0, hiq, hkq]
    try simp (disch := omega) only [wrapI, wrapU]
    refine hR _ _ (kq9 _ _ ?_); clear hR R; try clear kq9 kz9
    try simp only [go_sem, sa0, sb0, hiq, hkq]
    refine W_seq fun kz10 kq10 => ?_
    refine W_seq fun kz11 kq11 => ?_
    refine W_region [3, 4, 5, 6, 7, 11, 13, 15, 16, 49] fun R hR => ?_   -- r7
    simp only [go_sem, sa0, sb0, hiq, hkq]
    refine GWant_split (fun g1 => ?_) (fun g1 => ?_)
    · try simp only [Bool.not_eq_true', Bool.not_eq_false'] at g1
      have n1 := g1; try simp only [nrm] at n1
      obtain ⟨i, hi1, hi2, hi3⟩ := div_idx sa (show 0 ≤ (t : Int) - m by omega)
      rw [hiq] at hi1
      subst hi1
      simp only [go_sem, sa0, sb0, hiq, hkq, g1]
      refine hR _ _ (kq11 _ _ ?_); clear hR R; try clear kq11 kz11
      try simp only [go_sem, sa0, sb0, hiq, hkq]
      refine W_cond rfl (fun c2 => ?_) (fun c2 => ?_)
      · -- c2 true
        try simp only [nrm] at c2
        have hno : ¬ Hit ct.brk a b p q m n t := fun ⟨i', k', hh⟩ => by
          rcases hh with ⟨o', hh⟩ | hh
          · obtain ⟨_, f2, f3, _⟩ := hitA_facts sa sb hh
            rw [hiq] at f2; omega
          · obtain ⟨_, _, _, _, f5, _, f7, _⟩ := hitB_facts sa sb hh
            rw [hiq] at f5; omega
        refine W_exit ?_
        simp only [go_sem, sa0, sb0, hiq, hkq]
        refine kq8 _ _ ?_
        refine W_region [3, 4, 5, 6, 7, 11, 13, 15] fun R hR => ?_   -- r5
        simp only [go_sem, sa0, sb0, hiq, hkq]
        try simp (disch := omega) only [wrapI, wrapU]
        refine hR _ _ ?_; clear hR R
        try simp only [go_sem, sa0, sb0, hiq, hkq]
        refine ⟨t + 1, ?_, by (try simp only []); omega, ?_⟩
        · first | exact Weak.refl | exact Weak.eq (by first | rfl | (simp only [go_sem]; done) | (simp only [go_sem]; rfl) | (simp [go_sem]; done) | (simp [go_sem]; omega)) (by first | rfl | (simp only [go_sem]; done) | (simp [go_sem]; done))
        · try dsimp only
          refine ⟨by omega, fun t' h => ?_⟩
          by_cases e : t' = t
          · subst e; exact hno
          · exact hinv t' (by omega)
      · -- c2 false
        try simp only [nrm] at c2
        refine W_skip (kq10 _ _ ?_)
        refine W_seq fun kz12 kq12 => ?_
        refine W_seq fun kz13 kq13 => ?_
        refine W_region [3, 4, 5, 6, 7, 11, 13, 15, 16, 18] fun R hR => ?_   -- r8
        simp only [go_sem, sa0, sb0, hiq, hkq]
        try simp (disch := omega) only [wrapI, wrapU]
        refine hR _ _ (kq13 _ _ ?_); clear hR R; try clear kq13 kz13
        try simp only [go_sem, sa0, sb0, hiq, hkq]
        refine W_block ?_
        refine W_loopS (α := Int) (fun (o : Int) => [(18, I o)]) (fun (o : Int) => (max 0 ((t : Int) - ct.brk) ≤ o ∧ o ≤ (t : Int) + ct.brk + 1) ∧ ∀ o', o' < o → ∀ i' k', ¬ HitA ct.brk a b p q m n t o' i' k') (fun (o : Int) => ((t : Int) + ct.brk + 1 - o).toNat) ((max 0 ((t : Int) - ct.brk))) rfl (⟨⟨Int.le_refl _, by omega⟩, fun o' h i' k' hh => by obtain ⟨_, _, _, _, _, _, f7, _, f9, _⟩ := hitA_facts sa sb hh; omega⟩) ?_
        rintro o ⟨⟨ho1, ho2⟩, hin⟩
        refine W_seq fun kz14 kq14 => ?_
        refine W_seq fun kz15 kq15 => ?_
        refine W_region [3, 4, 5, 6, 7, 11, 13, 15, 16, 18, 60] fun R hR => ?_   -- r9
        simp only [go_sem, sa0, sb0, hiq, hkq]
        try simp (disch := omega) only [wrapI, wrapU]
        refine hR _ _ (kq15 _ _ ?_); clear hR R; try clear kq15 kz15
        try simp only [go_sem, sa0, sb0, hiq, hkq]
        refine W_cond rfl (fun c3 => ?_) (fun c3 => ?_)
        · -- c3 true
          try simp only [nrm] at c3
          obtain ⟨jq, hjq⟩ : ∃ z, (o - n).tdiv b.stay = z := ⟨_, rfl⟩
          have hjb := quo_bd (d := o - n) sb (by omega) (by omega)
          rw [hjq] at hjb
          refine W_skip (kq14 _ _ ?_)
          refine W_seq fun kz16 kq16 => ?_
          refine W_block ?_
          refine W_seq fun kz17 kq17 => ?_
          refine W_region [3, 4, 5, 6, 7, 11, 13, 15, 16, 17, 18] fun R hR => ?_   -- r11
          simp only [go_sem, sa0, sb0, hiq, hkq, hjq]
          try simp (disch := omega) only [wrapI, wrapU]
          refine hR _ _ (kq17 _ _ ?_); clear hR R; try clear kq17 kz17
          try simp only [go_sem, sa0, sb0, hiq, hkq, hjq]
          refine W_seq fun kz18 kq18 => ?_
          refine W_draw [3, 4, 5, 6, 7, 11, 13, 15, 16, 18, 88] [0, 1, 2, 3, 4, 5, 6, 7, 8, 9, 10, 11, 12, 13, 14, 15, 16, 17, 18, 19] [] [[], [], [0, 1], [0, 1, 2], [0, 1, 2, 3], [0, 1, 2, 3], [0, 1, 2, 3, 5], [0, 1, 2, 3, 4, 5, 6], [0, 1, 2, 3, 4, 5, 6, 7], [0, 1, 2, 3, 4, 5, 6, 7, 8], [0, 1, 2, 3, 4, 5, 6, 7, 8, 9], [0, 1, 2, 3, 4, 5, 6, 7, 8, 9], [0, 1, 2, 3, 4, 5, 6, 7, 8, 9, 10, 11], [0, 1, 2, 3, 4, 5, 6, 7, 8, 9, 10, 11, 12], [0, 1, 2, 3, 4, 5, 6, 7, 8, 9], [0, 1, 2, 3, 4, 5, 6, 7, 8, 9], [0, 1, 2, 3, 4, 5, 6, 7, 8, 9, 14, 15], [0, 1, 2, 3, 4, 5, 6, 7, 8, 9, 14, 15, 16], [0, 1, 2, 3, 4, 5, 6, 7, 8, 9, 10, 11, 12, 13, 14, 15, 16, 17], [0, 1, 2, 3, 4, 5, 6, 7, 8, 9, 10, 11, 12, 13, 14, 15, 16, 17, 18]] mixed (by kernel_rfl) fun R hR => ?_   -- r12
          simp only [go_sem, sa0, sb0, hiq, hkq, hjq]
          refine GWant_split (fun g2 => ?_) (fun g2 => ?_)
          · try simp only [Bool.not_eq_true', Bool.not_eq_false'] at g2
            have n2 := g2; try simp only [nrm] at n2
            obtain ⟨k, hk1, hk2, hk3⟩ := div_idx sb (show 0 ≤ o - n by omega)
            rw [hjq] at hk1
            subst hk1
            simp only [go_sem, sa0, sb0, hiq, hkq, hjq, g2]
            refine GWant_split (fun g3 => ?_) (fun g3 => ?_)
            · try simp only [Bool.not_eq_true', Bool.not_eq_false'] at g3
              have n3 := g3; try simp only [nrm] at n3
              have hkl : k < q.length := by omega
              have hil : i < p.length := by omega
              obtain ⟨x, hx⟩ : ∃ x, p[i]? = some x := ⟨p[i], by simp [hil]⟩
              obtain ⟨y, hy⟩ : ∃ y, q[k]? = some y := ⟨q[k], by simp [hkl]⟩
              simp only [go_sem, sa0, sb0, hiq, hkq, hjq, hx, hy, g2, g3]
              try refine And.intro (by repeat' (first | refine And.intro ?_ ?_ | exact GOr_right (fun _ => by simp only [go_sem, sa0, sb0, hiq, hkq, hjq, hx, hy]))) ?_
              refine hR _ _ (kq18 _ _ ?_); clear hR R; try clear kq18 kz18
              try simp only [go_sem, sa0, sb0, hiq, hkq, hjq, hx, hy]
              refine W_cond rfl (fun c4 => ?_) (fun c4 => ?_)
              · -- c4 true
                try simp only [nrm] at c4
                have hres2 : res = true := by
                  rw [← hres]
                  exact hmt t ⟨i, k, .inl ⟨o, by omega, by omega, hil, by omega, by omega, by omega, by omega, by omega, hkl, by rw [hx, hy, c4]⟩⟩
                refine W_seq fun kz19 kq19 => ?_
                refine W_region [10] fun R hR => ?_   -- r13
                simp only [go_sem, sa0, sb0, hiq, hkq, hjq, hx, hy]
                refine hR _ _ (kq19 _ _ ?_); clear hR R; try clear kq19 kz19
                try simp only [go_sem, sa0, sb0, hiq, hkq, hjq, hx, hy]
                refine W_ret ?_
                simp only [go_sem, sa0, sb0, hiq, hkq, hjq, hx, hy]
                refine ⟨.inr (by trivial), ?_⟩
                first | refine Fin_same hcl rfl (Wk_eq ?_ (by simp only [go_sem])) | refine Fin_self hcl rfl (Wk_eq ?_ (by simp only [go_sem]))
                try simp only [go_sem]
                all_goals
                  rw [hres2]
              · -- c4 false
                try simp only [nrm] at c4
                have hnO : ∀ i' k', ¬ HitA ct.brk a b p q m n t o i' k' := fun i' k' hh => by
                  obtain ⟨_, f2, _, _, f5, _, _, _, _, f10⟩ := hitA_facts sa sb hh
                  rw [hiq] at f2
                  rw [hjq] at f5
                  obtain rfl : i' = i := by omega
                  obtain rfl : k' = k := by omega
                  rw [hx, hy] at f10
                  exact c4 (Option.some.inj f10)
                refine W_skip (kq16 _ _ ?_)
                refine W_region [3, 4, 5, 6, 7, 11, 13, 15, 16, 18] fun R hR => ?_   -- r10
                simp only [go_sem, sa0, sb0, hiq, hkq, hjq, hx, hy]
                try simp (disch := omega) only [wrapI, wrapU]
                refine hR _ _ ?_; clear hR R
                try simp only [go_sem, sa0, sb0, hiq, hkq, hjq, hx, hy]
                refine ⟨o + 1, ?_, by (try simp only []); omega, ?_⟩
                · first | exact Weak.refl | exact Weak.eq (by first | rfl | (simp only [go_sem]; done) | (simp only [go_sem]; rfl) | (simp [go_sem]; done) | (simp [go_sem]; omega)) (by first | rfl | (simp only [go_sem]; done) | (simp [go_sem]; done))
                · try dsimp only
                  refine ⟨⟨by omega, by omega⟩, fun o' h => ?_⟩
                  by_cases e : o' = o
                  · subst e; exact hnO
                  · exact hin o' (by omega)
            · try simp only [Bool.not_eq_true', Bool.not_eq_false'] at g3
              have n3 := g3; try simp only [nrm] at n3
              have hnO : ∀ i' k', ¬ HitA ct.brk a b p q m n t o i' k' := fun i' k' hh => by
                obtain ⟨_, _, _, _, f5, f6, _⟩ := hitA_facts sa sb hh
                rw [hjq] at f5; omega
              simp only [go_sem, sa0, sb0, hiq, hkq, hjq, g2, g3]
              try refine And.intro (by repeat' (first | refine And.intro ?_ ?_ | exact GOr_right (fun _ => by simp only [go_sem, sa0, sb0, hiq, hkq, hjq]))) ?_
              refine hR _ _ (kq18 _ _ ?_); clear hR R; try clear kq18 kz18
              try simp only [go_sem, sa0, sb0, hiq, hkq, hjq]
              refine W_cond_false rfl ?_
              refine W_skip (kq16 _ _ ?_)
              refine W_region [3, 4, 5, 6, 7, 11, 13, 15, 16, 18] fun R hR => ?_   -- r10
              simp only [go_sem, sa0, sb0, hiq, hkq, hjq]
              try simp (disch := omega) only [wrapI, wrapU]
              refine hR _ _ ?_; clear hR R
              try simp only [go_sem, sa0, sb0, hiq, hkq, hjq]
              refine ⟨o + 1, ?_, by (try simp only []); omega, ?_⟩
              · first | exact Weak.refl | exact Weak.eq (by first | rfl | (simp only [go_sem]; done) | (simp only [go_sem]; rfl) | (simp [go_sem]; done) | (simp [go_sem]; omega)) (by first | rfl | (simp only [go_sem]; done) | (simp [go_sem]; done))
              · try dsimp only
                refine ⟨⟨by omega, by omega⟩, fun o' h => ?_⟩
                by_cases e : o' = o
                · subst e; exact hnO
                · exact hin o' (by omega)
          · try simp only [Bool.not_eq_true', Bool.not_eq_false'] at g2
            have n2 := g2; try simp only [nrm] at n2
            have hnO : ∀ i' k', ¬ HitA ct.brk a b p q m n t o i' k' := fun i' k' hh => by
              obtain ⟨_, _, _, f4, _⟩ := hitA_facts sa sb hh; omega
            simp only [go_sem, sa0, sb0, hiq, hkq, hjq, g2]
            try refine And.intro (by repeat' (first | refine And.intro ?_ ?_ | exact GOr_right (fun _ => by simp only [go_sem, sa0, sb0, hiq, hkq, hjq]))) ?_
            refine hR _ _ (kq18 _ _ ?_); clear hR R; try clear kq18 kz18
            try simp only [go_sem, sa0, sb0, hiq, hkq, hjq]
            refine W_cond_false rfl ?_
            refine W_skip (kq16 _ _ ?_)
            refine W_region [3, 4, 5, 6, 7, 11, 13, 15, 16, 18] fun R hR => ?_   -- r10
            simp only [go_sem, sa0, sb0, hiq, hkq, hjq]
            try simp (disch := omega) only [wrapI, wrapU]
            refine hR _ _ ?_; clear hR R
            try simp only [go_sem, sa0, sb0, hiq, hkq, hjq]
            refine ⟨o + 1, ?_, by (try simp only []); omega, ?_⟩
            · first | exact Weak.refl | exact Weak.eq (by first | rfl | (simp only [go_sem]; done) | (simp only [go_sem]; rfl) | (simp [go_sem]; done) | (simp [go_sem]; omega)) (by first | rfl | (simp only [go_sem]; done) | (simp [go_sem]; done))
            · try dsimp only
              refine ⟨⟨by omega, by omega⟩, fun o' h => ?_⟩
              by_cases e : o' = o
              · subst e; exact hnO
              · exact hin o' (by omega)
        · -- c3 false
          try simp only [nrm] at c3
          have hnA : ∀ o' i' k', ¬ HitA ct.brk a b p q m n t o' i' k' := fun o' i' k' hh => by
            obtain ⟨_, _, _, _, _, _, _, f8, _, _⟩ := hitA_facts sa sb hh
            exact hin o' (by omega) i' k' hh
          refine W_exit ?_
          simp only [go_sem, sa0, sb0, hiq, hkq]
          refine kq12 _ _ ?_
          refine W_seq fun kz20 kq20 => ?_
          refine W_region [3, 4, 5, 6, 7, 11, 13, 15, 16, 17] fun R hR => ?_   -- r14
          simp only [go_sem, sa0, sb0, hiq, hkq]
          try simp (disch := omega) only [wrapI, wrapU]
          refine hR _ _ (kq20 _ _ ?_); clear hR R; try clear kq20 kz20
          try simp only [go_sem, sa0, sb0, hiq, hkq]
          refine W_seq fun kz21 kq21 => ?_
          refine W_draw [3, 4, 5, 6, 7, 11, 13, 15, 141] [0, 1, 2, 3, 4, 5, 6, 7, 8, 9, 10, 11, 12, 13, 14, 15, 16, 17, 18, 19, 20, 21, 22, 23, 24, 25, 26, 27, 28, 29, 30, 31, 32, 33, 34, 35, 36, 37, 38, 39, 40, 41, 42, 43, 44, 45, 46] [] [[], [], [0, 1], [0, 1, 2], [0, 1, 2, 3], [0, 1, 2, 3], [0, 1, 2, 3, 4, 5], [0, 1, 2, 3], [0, 1, 2, 3, 7], [0, 1, 2, 3, 4, 5, 6, 7, 8], [0, 1, 2, 3, 4, 5, 6, 7, 8, 9], [0, 1, 2, 3, 4, 5, 6, 7, 8, 9, 10], [0, 1, 2, 3, 4, 5, 6, 7, 8, 9, 10, 11], [0, 1, 2, 3, 4, 5, 6, 7, 8, 9, 10, 11, 12], [0, 1, 2, 3, 4, 5, 6, 7, 8, 9, 10, 11, 12], [0, 1, 2, 3, 4, 5, 6, 7, 8, 9, 10, 11, 12, 13, 14], [0, 1, 2, 3, 4, 5, 6, 7, 8, 9, 10, 11, 12, 13, 14, 15], [0, 1, 2, 3, 4, 5, 6, 7, 8, 9, 10, 11, 12, 13, 14, 15, 16], [0, 1, 2, 3, 4, 5, 6, 7, 8, 9, 10, 11, 12, 13, 14, 15, 16, 17], [0, 1, 2, 3, 4, 5, 6, 7, 8, 9, 10, 11, 12, 13, 14, 15, 16, 17], [0, 1, 2, 3, 4, 5, 6, 7, 8, 9, 10, 11, 12, 13, 14, 15, 16, 17, 18, 19], [0, 1, 2, 3, 4, 5, 6, 7, 8, 9, 10, 11, 12, 13, 14, 15, 16, 17], [0, 1, 2, 3, 4, 5, 6, 7, 8, 9, 10, 11, 12, 13, 14, 15, 16, 17, 21], [0, 1, 2, 3, 4, 5, 6, 7, 8, 9, 10, 11, 12, 13, 14, 15, 16, 17, 18, 19, 20, 21, 22], [0, 1, 2, 3, 4, 5, 6, 7, 8, 9, 10, 11, 12, 13, 14, 15, 16, 17, 18, 19, 20, 21, 22, 23], [0, 1, 2, 3, 4, 5, 6, 7, 8, 9, 10, 11, 12, 13, 14, 15, 16, 17, 18, 19, 20, 21, 22, 23, 24], [0, 1, 2, 3, 4, 5, 6, 7, 8, 9, 10, 11, 12, 13, 14, 15, 16, 17, 18, 19, 20, 21, 22, 23, 24, 25], [0, 1, 2, 3, 4, 5, 6, 7, 8, 9, 10, 11, 12, 13, 14, 15, 16, 17, 18, 19, 20, 21, 22, 23, 24, 25, 26], [0, 1, 2, 3, 4, 5, 6, 7, 8, 9, 10, 11, 12, 13, 14, 15, 16, 17, 18, 19, 20, 21, 22, 23, 24, 25, 26], [0, 1, 2, 3, 4, 5, 6, 7, 8, 9, 10, 11, 12, 13, 14, 15, 16, 17, 18, 19, 20, 21, 22, 23, 24, 25, 26, 28], [0, 1, 2, 3, 4, 5, 6, 7, 8, 9, 10, 11, 12, 13, 14, 15, 16, 17, 18, 19, 20, 21, 22, 23, 24, 25, 26, 27, 28, 29], [0, 1, 2, 3, 4, 5, 6, 7, 8, 9, 10, 11, 12, 13, 14, 15, 16, 17, 18, 19, 20, 21, 22, 23, 24, 25, 26, 27, 28, 29, 30], [0, 1, 2, 3, 4, 5, 6, 7, 8, 9, 10, 11, 12, 13, 14, 15, 16, 17, 18, 19, 20, 21, 22, 23, 24, 25, 26, 27, 28, 29, 30, 31], [0, 1, 2, 3, 4, 5, 6, 7, 8, 9, 10, 11, 12, 13, 14, 15, 16, 17, 18, 19, 20, 21, 22, 23, 24, 25, 26, 27, 28, 29, 30, 31, 32], [0, 1, 2, 3, 4, 5, 6, 7, 8, 9, 10, 11, 12, 13, 14, 15, 16, 17, 18, 19, 20, 21, 22, 23, 24, 25, 26, 27, 28, 29, 30, 31, 32, 33], [0, 1, 2, 3, 4, 5, 6, 7, 8, 9, 10, 11, 12, 13, 14, 15, 16, 17, 18, 19, 20, 21, 22, 23, 24, 25, 26, 27, 28, 29, 30, 31, 32], [0, 1, 2, 3, 4, 5, 6, 7, 8, 9, 10, 11, 12, 13, 14, 15, 16, 17, 18, 19, 20, 21, 22, 23, 24, 25, 26, 27, 28, 29, 30, 31, 32, 35], [0, 1, 2, 3, 4, 5, 6, 7, 8, 9, 10, 11, 12, 13, 14, 15, 16, 17, 18, 19, 20, 21, 22, 23, 24, 25, 26, 27, 28, 29, 30, 31, 32, 33, 34, 35, 36], [0, 1, 2, 3, 4, 5, 6, 7, 8, 9, 10, 11, 12, 13, 14, 15, 16, 17, 18, 19, 20, 21, 22, 23, 24, 25, 26, 27, 28, 29, 30, 31, 32, 33, 34, 35, 36, 37], [0, 1, 2, 3, 4, 5, 6, 7, 8, 9, 10, 11, 12, 13, 14, 15, 16, 17, 18, 19, 20, 21, 22, 23, 24, 25, 26, 27, 28, 29, 30, 31, 32], [0, 1, 2, 3, 4, 5, 6, 7, 8, 9, 10, 11, 12, 13, 14, 15, 16, 17, 18, 19, 20, 21, 22, 23, 24, 25, 26, 27, 28, 29, 30, 31, 32, 39], [0, 1, 2, 3, 4, 5, 6, 7, 8, 9, 10, 11, 12, 13, 14, 15, 16, 17, 18, 19, 20, 21, 22, 23, 24, 25, 26, 27, 28, 29, 30, 31, 32], [0, 1, 2, 3, 4, 5, 6, 7, 8, 9, 10, 11, 12, 13, 14, 15, 16, 17, 18, 19, 20, 21, 22, 23, 24, 25, 26, 27, 28, 29, 30, 31, 32, 41], [0, 1, 2, 3, 4, 5, 6, 7, 8, 9, 10, 11, 12, 13, 14, 15, 16, 17, 18, 19, 20, 21, 22, 23, 24, 25, 26, 27, 28, 29, 30, 31, 32, 39, 40, 41, 42], [0, 1, 2, 3, 4, 5, 6, 7, 8, 9, 10, 11, 12, 13, 14, 15, 16, 17, 18, 19, 20, 21, 22, 23, 24, 25, 26, 27, 28, 29, 30, 31, 32, 39, 40, 41, 42, 43], [0, 1, 2, 3, 4, 5, 6, 7, 8, 9, 10, 11, 12, 13, 14, 15, 16, 17, 18, 19, 20, 21, 22, 23, 24, 25, 26, 27, 28, 29, 30, 31, 32, 33, 34, 35, 36, 37, 38, 39, 40, 41, 42, 43, 44], [0, 1, 2, 3, 4, 5, 6, 7, 8, 9, 10, 11, 12, 13, 14, 15, 16, 17, 18, 19, 20, 21, 22, 23, 24, 25, 26, 27, 28, 29, 30, 31, 32, 33, 34, 35, 36, 37, 38, 39, 40, 41, 42, 43, 44, 45]] mixed (by kernel_rfl) fun R hR => ?_   -- r15
          simp only [go_sem, sa0, sb0, hiq, hkq]
          refine GWant_split (fun g4 => ?_) (fun g4 => ?_)
          · try simp only [Bool.not_eq_true', Bool.not_eq_false'] at g4
            have n4 := g4; try simp only [nrm] at n4
            simp only [go_sem, sa0, sb0, hiq, hkq, g4]
            refine GWant_split (fun g5 => ?_) (fun g5 => ?_)
            · try simp only [Bool.not_eq_true', Bool.not_eq_false'] at g5
              have n5 := g5; try simp only [nrm] at n5
              try simp (disch := omega) only [wrapI, wrapU] at n5
              simp only [go_sem, sa0, sb0, hiq, hkq, g4, g5]
              refine GWant_split (fun g6 => ?_) (fun g6 => ?_)
              · try simp only [Bool.not_eq_true', Bool.not_eq_false'] at g6
                have n6 := g6; try simp only [nrm] at n6
                try simp (disch := omega) only [wrapI, wrapU] at n6
                simp only [go_sem, sa0, sb0, hiq, hkq, g4, g5, g6]
                refine GWant_split (fun g7 => ?_) (fun g7 => ?_)
                · try simp only [Bool.not_eq_true', Bool.not_eq_false'] at g7
                  have n7 := g7; try simp only [nrm] at n7
                  try simp (disch := omega) only [wrapI, wrapU] at n7
                  simp only [go_sem, sa0, sb0, hiq, hkq, g4, g5, g6, g7]
                  refine GWant_split (fun g8 => ?_) (fun g8 => ?_)
                  · try simp only [Bool.not_eq_true', Bool.not_eq_false'] at g8
                    have n8 := g8; try simp only [nrm] at n8
                    try simp (disch := omega) only [wrapI, wrapU] at n8
                    have n4' : m < (t : Int) := by omega
                    obtain ⟨k, hk1, hk2, hk3⟩ := div_idx sb (show 0 ≤ (t : Int) - n by omega)
                    rw [hkq] at hk1
                    subst hk1
                    obtain ⟨e1, e2, e3, e4⟩ := hitB_of sa sb n4' n5 (by omega) n7 hi2 hi3 hk2 hk3
                    have hil : i < p.length := by omega
                    have hkl : k < q.length := by omega
                    obtain ⟨x, hx⟩ : ∃ x, a.path[i - 1]? = some x := ⟨a.path[i - 1]'(by omega), by simp⟩
                    obtain ⟨y, hy⟩ : ∃ y, b.path[k - 1]? = some y := ⟨b.path[k - 1]'(by omega), by simp⟩
                    have ii0 : 0 ≤ (i : Int) - 1 := by omega
                    have kk0 : 0 ≤ (k : Int) - 1 := by omega
                    have ii1 : ((i : Int) - 1).toNat = i - 1 := by omega
                    have kk1 : ((k : Int) - 1).toNat = k - 1 := by omega
                    have iw : IntKind.i64.wrap ((i : Int) - 1) = (i : Int) - 1 := wrapI (by omega) (by omega)
                    have kw : IntKind.i64.wrap ((k : Int) - 1) = (k : Int) - 1 := wrapI (by omega) (by omega)
                    simp only [go_sem, sa0, sb0, hiq, hkq, hx, hy, ii0, kk0, ii1, kk1, iw, kw, g4, g5, g6, g7, g8]
                    try simp (disch := omega) only [wrapI, wrapU]
                    try refine And.intro (by repeat' (first | refine And.intro ?_ ?_ | exact GOr_right (fun _ => by simp only [go_sem, sa0, sb0, hiq, hkq, hx, hy, ii0, kk0, ii1, kk1, iw, kw]))) ?_
                    refine hR _ _ (kq21 _ _ ?_); clear hR R; try clear kq21 kz21
                    try simp only [go_sem, sa0, sb0, hiq, hkq, hx, hy, ii0, kk0, ii1, kk1, iw, kw]
                    refine W_cond rfl (fun c5 => ?_) (fun c5 => ?_)
                    · -- c5 true
                      try simp only [nrm] at c5
                      have hres2 : res = true := by
                        rw [← hres]
                        exact hmt t ⟨i, k, .inr ⟨e1, e2, e3, e4, hil, hkl, by rw [hx, hy, c5]⟩⟩
                      refine W_seq fun kz22 kq22 => ?_
                      refine W_region [10] fun R hR => ?_   -- r16
                      simp only [go_sem, sa0, sb0, hiq, hkq, hx, hy, ii0, kk0, ii1, kk1, iw, kw]
                      refine hR _ _ (kq22 _ _ ?_); clear hR R; try clear kq22 kz22
                      try simp only [go_sem, sa0, sb0, hiq, hkq, hx, hy, ii0, kk0, ii1, kk1, iw, kw]
                      refine W_ret ?_
                      simp only [go_sem, sa0, sb0, hiq, hkq, hx, hy, ii0, kk0, ii1, kk1, iw, kw]
                      refine ⟨.inr (by trivial), ?_⟩
                      first | refine Fin_same hcl rfl (Wk_eq ?_ (by simp only [go_sem])) | refine Fin_self hcl rfl (Wk_eq ?_ (by simp only [go_sem]))
                      try simp only [go_sem]
                      all_goals
                        rw [hres2]
                    · -- c5 false
                      try simp only [nrm] at c5
                      have hno : ¬ Hit ct.brk a b p q m n t := fun ⟨i', k', hh⟩ => by
                        rcases hh with ⟨o', hh⟩ | hh
                        · exact hnA o' i' k' hh
                        · obtain ⟨_, _, _, _, f5, f6, _, _, f9⟩ := hitB_facts sa sb hh
                          rw [hiq] at f5
                          rw [hkq] at f6
                          obtain rfl : i' = i := by omega
                          obtain rfl : k' = k := by omega
                          rw [hx, hy] at f9
                          exact c5 (Option.some.inj f9)
                      refine W_skip (kq8 _ _ ?_)
                      refine W_region [3, 4, 5, 6, 7, 11, 13, 15] fun R hR => ?_   -- r5
                      simp only [go_sem, sa0, sb0, hiq, hkq, hx, hy, ii0, kk0, ii1, kk1, iw, kw]
                      try simp (disch := omega) only [wrapI, wrapU]
                      refine hR _ _ ?_; clear hR R
                      try simp only [go_sem, sa0, sb0, hiq, hkq, hx, hy, ii0, kk0, ii1, kk1, iw, kw]
                      refine ⟨t + 1, ?_, by (try simp only []); omega, ?_⟩
                      · first | exact Weak.refl | exact Weak.eq (by first | rfl | (simp only [go_sem]; done) | (simp only [go_sem]; rfl) | (simp [go_sem]; done) | (simp [go_sem]; omega)) (by first | rfl | (simp only [go_sem]; done) | (simp [go_sem]; done))
                      · try dsimp only
                        refine ⟨by omega, fun t' h => ?_⟩
                        by_cases e : t' = t
                        · subst e; exact hno
                        · exact hinv t' (by omega)
                  · try simp only [Bool.not_eq_true', Bool.not_eq_false'] at g8
                    have n8 := g8; try simp only [nrm] at n8
                    try simp (disch := omega) only [wrapI, wrapU] at n8
                    have hno : ¬ Hit ct.brk a b p q m n t := fun ⟨i', k', hh⟩ => by
                      rcases hh with ⟨o', hh⟩ | hh
                      · exact hnA o' i' k' hh
                      · obtain ⟨f1, f2, f3, f4, f5, f6, f7, f8, f9⟩ := hitB_facts sa sb hh
                        rw [hkq] at f6
                        first | omega | exact n8 f2 | exact n8 f4
                    simp only [go_sem, sa0, sb0, hiq, hkq, g4, g5, g6, g7, g8]
                    try simp (disch := omega) only [wrapI, wrapU]
                    try refine And.intro (by repeat' (first | refine And.intro ?_ ?_ | exact GOr_right (fun _ => by simp only [go_sem, sa0, sb0, hiq, hkq]))) ?_
                    refine hR _ _ (kq21 _ _ ?_); clear hR R; try clear kq21 kz21
                    try simp only [go_sem, sa0, sb0, hiq, hkq]
                    refine W_cond_false rfl ?_
                    refine W_skip (kq8 _ _ ?_)
                    refine W_region [3, 4, 5, 6, 7, 11, 13, 15] fun R hR => ?_   -- r5
                    simp only [go_sem, sa0, sb0, hiq, hkq]
                    try simp (disch := omega) only [wrapI, wrapU]
                    refine hR _ _ ?_; clear hR R
                    try simp only [go_sem, sa0, sb0, hiq, hkq]
                    refine ⟨t + 1, ?_, by (try simp only []); omega, ?_⟩
                    · first | exact Weak.refl | exact Weak.eq (by first | rfl | (simp only [go_sem]; done) | (simp only [go_sem]; rfl) | (simp [go_sem]; done) | (simp [go_sem]; omega)) (by first | rfl | (simp only [go_sem]; done) | (simp [go_sem]; done))
                    · try dsimp only
                      refine ⟨by omega, fun t' h => ?_⟩
                      by_cases e : t' = t
                      · subst e; exact hno
                      · exact hinv t' (by omega)
                · try simp only [Bool.not_eq_true', Bool.not_eq_false'] at g7
                  have n7 := g7; try simp only [nrm] at n7
                  try simp (disch := omega) only [wrapI, wrapU] at n7
                  have hno : ¬ Hit ct.brk a b p q m n t := fun ⟨i', k', hh⟩ => by
                    rcases hh with ⟨o', hh⟩ | hh
                    · exact hnA o' i' k' hh
                    · obtain ⟨f1, f2, f3, f4, f5, f6, f7, f8, f9⟩ := hitB_facts sa sb hh
                      rw [hkq] at f6
                      first | omega | exact n7 f2 | exact n7 f4
                  simp only [go_sem, sa0, sb0, hiq, hkq, g4, g5, g6, g7]
                  try simp (disch := omega) only [wrapI, wrapU]
                  try refine And.intro (by repeat' (first | refine And.intro ?_ ?_ | exact GOr_right (fun _ => by simp only [go_sem, sa0, sb0, hiq, hkq]))) ?_
                  refine hR _ _ (kq21 _ _ ?_); clear hR R; try clear kq21 kz21
                  try simp only [go_sem, sa0, sb0, hiq, hkq]
                  refine W_cond_false rfl ?_
                  refine W_skip (kq8 _ _ ?_)
                  refine W_region [3, 4, 5, 6, 7, 11, 13, 15] fun R hR => ?_   -- r5
                  simp only [go_sem, sa0, sb0, hiq, hkq]
                  try simp (disch := omega) only [wrapI, wrapU]
                  refine hR _ _ ?_; clear hR R
                  try simp only [go_sem, sa0, sb0, hiq, hkq]
                  refine ⟨t + 1, ?_, by (try simp only []); omega, ?_⟩
                  · first | exact Weak.refl | exact Weak.eq (by first | rfl | (simp only [go_sem]; done) | (simp only [go_sem]; rfl) | (simp [go_sem]; done) | (simp [go_sem]; omega)) (by first | rfl | (simp only [go_sem]; done) | (simp [go_sem]; done))
                  · try dsimp only
                    refine ⟨by omega, fun t' h => ?_⟩
                    by_cases e : t' = t
                    · subst e; exact hno
                    · exact hinv t' (by omega)
              · try simp only [Bool.not_eq_true', Bool.not_eq_false'] at g6
                have n6 := g6; try simp only [nrm] at n6
                try simp (disch := omega) only [wrapI, wrapU] at n6
                have hno : ¬ Hit ct.brk a b p q m n t := fun ⟨i', k', hh⟩ => by
                  rcases hh with ⟨o', hh⟩ | hh
                  · exact hnA o' i' k' hh
                  · obtain ⟨f1, f2, f3, f4, f5, f6, f7, f8, f9⟩ := hitB_facts sa sb hh
                    rw [hkq] at f6
                    first | omega | exact n6 f2 | exact n6 f4
                simp only [go_sem, sa0, sb0, hiq, hkq, g4, g5, g6]
                try simp (disch := omega) only [wrapI, wrapU]
                try refine And.intro (by repeat' (first | refine And.intro ?_ ?_ | exact GOr_right (fun _ => by simp only [go_sem, sa0, sb0, hiq, hkq]))) ?_
                refine hR _ _ (kq21 _ _ ?_); clear hR R; try clear kq21 kz21
                try simp only [go_sem, sa0, sb0, hiq, hkq]
                refine W_cond_false rfl ?_
                refine W_skip (kq8 _ _ ?_)
                refine W_region [3, 4, 5, 6, 7, 11, 13, 15] fun R hR => ?_   -- r5
                simp only [go_sem, sa0, sb0, hiq, hkq]
                try simp (disch := omega) only [wrapI, wrapU]
                refine hR _ _ ?_; clear hR R
                try simp only [go_sem, sa0, sb0, hiq, hkq]
                refine ⟨t + 1, ?_, by (try simp only []); omega, ?_⟩
                · first | exact Weak.refl | exact Weak.eq (by first | rfl | (simp only [go_sem]; done) | (simp only [go_sem]; rfl) | (simp [go_sem]; done) | (simp [go_sem]; omega)) (by first | rfl | (simp only [go_sem]; done) | (simp [go_sem]; done))
                · try dsimp only
                  refine ⟨by omega, fun t' h => ?_⟩
                  by_cases e : t' = t
                  · subst e; exact hno
                  · exact hinv t' (by omega)
            · try simp only [Bool.not_eq_true', Bool.not_eq_false'] at g5
              have n5 := g5; try simp only [nrm] at n5
              try simp (disch := omega) only [wrapI, wrapU] at n5
              have hno : ¬ Hit ct.brk a b p q m n t := fun ⟨i', k', hh⟩ => by
                rcases hh with ⟨o', hh⟩ | hh
                · exact hnA o' i' k' hh
                · obtain ⟨f1, f2, f3, f4, f5, f6, f7, f8, f9⟩ := hitB_facts sa sb hh
                  rw [hkq] at f6
                  first | omega | exact n5 f2 | exact n5 f4
              simp only [go_sem, sa0, sb0, hiq, hkq, g4, g5]
              try simp (disch := omega) only [wrapI, wrapU]
              try refine And.intro (by repeat' (first | refine And.intro ?_ ?_ | exact GOr_right (fun _ => by simp only [go_sem, sa0, sb0, hiq, hkq]))) ?_
              refine hR _ _ (kq21 _ _ ?_); clear hR R; try clear kq21 kz21
              try simp only [go_sem, sa0, sb0, hiq, hkq]
              refine W_cond_false rfl ?_
              refine W_skip (kq8 _ _ ?_)
              refine W_region [3, 4, 5, 6, 7, 11, 13, 15] fun R hR => ?_   -- r5
              simp only [go_sem, sa0, sb0, hiq, hkq]
              try simp (disch := omega) only [wrapI, wrapU]
              refine hR _ _ ?_; clear hR R
              try simp only [go_sem, sa0, sb0, hiq, hkq]
              refine ⟨t + 1, ?_, by (try simp only []); omega, ?_⟩
              · first | exact Weak.refl | exact Weak.eq (by first | rfl | (simp only [go_sem]; done) | (simp only [go_sem]; rfl) | (simp [go_sem]; done) | (simp [go_sem]; omega)) (by first | rfl | (simp only [go_sem]; done) | (simp [go_sem]; done))
              · try dsimp only
                refine ⟨by omega, fun t' h => ?_⟩
                by_cases e : t' = t
                · subst e; exact hno
                · exact hinv t' (by omega)
          · try simp only [Bool.not_eq_true', Bool.not_eq_false'] at g4
            have n4 := g4; try simp only [nrm] at n4
            have hno : ¬ Hit ct.brk a b p q m n t := fun ⟨i', k', hh⟩ => by
              rcases hh with ⟨o', hh⟩ | hh
              · exact hnA o' i' k' hh
              · obtain ⟨f1, f2, f3, f4, f5, f6, f7, f8, f9⟩ := hitB_facts sa sb hh
                rw [hkq] at f6
                first | omega | exact n4 f2 | exact n4 f4
            simp only [go_sem, sa0, sb0, hiq, hkq, g4]
            try simp (disch := omega) only [wrapI, wrapU]
            try refine And.intro (by repeat' (first | refine And.intro ?_ ?_ | exact GOr_right (fun _ => by simp only [go_sem, sa0, sb0, hiq, hkq]))) ?_
            refine hR _ _ (kq21 _ _ ?_); clear hR R; try clear kq21 kz21
            try simp only [go_sem, sa0, sb0, hiq, hkq]
            refine W_cond_false rfl ?_
            refine W_skip (kq8 _ _ ?_)
            refine W_region [3, 4, 5, 6, 7, 11, 13, 15] fun R hR => ?_   -- r5
            simp only [go_sem, sa0, sb0, hiq, hkq]
            try simp (disch := omega) only [wrapI, wrapU]
            refine hR _ _ ?_; clear hR R
            try simp only [go_sem, sa0, sb0, hiq, hkq]
            refine ⟨t + 1, ?_, by (try simp only []); omega, ?_⟩
            · first | exact Weak.refl | exact Weak.eq (by first | rfl | (simp only [go_sem]; done) | (simp only [go_sem]; rfl) | (simp [go_sem]; done) | (simp [go_sem]; omega)) (by first | rfl | (simp only [go_sem]; done) | (simp [go_sem]; done))
            · try dsimp only
              refine ⟨by omega, fun t' h => ?_⟩
              by_cases e : t' = t
              · subst e; exact hno
              · exact hinv t' (by omega)
    · try simp only [Bool.not_eq_true', Bool.not_eq_false'] at g1
      have n1 := g1; try simp only [nrm] at n1
      have hno : ¬ Hit ct.brk a b p q m n t := fun ⟨i', k', hh⟩ => by
        rcases hh with ⟨o', hh⟩ | hh
        · have := (hitA_facts sa sb hh).1; omega
        · have := (hitB_facts sa sb hh).1; omega
      simp only [go_sem, sa0, sb0, hiq, hkq, g1]
      refine hR _ _ (kq11 _ _ ?_); clear hR R; try clear kq11 kz11
      try simp only [go_sem, sa0, sb0, hiq, hkq]
      refine W_cond_true rfl ?_
      refine W_exit ?_
      simp only [go_sem, sa0, sb0, hiq, hkq]
      refine kq8 _ _ ?_
      refine W_region [3, 4, 5, 6, 7, 11, 13, 15] fun R hR => ?_   -- r5
      simp only [go_sem, sa0, sb0, hiq, hkq]
      try simp (disch := omega) only [wrapI, wrapU]
      refine hR _ _ ?_; clear hR R
      try simp only [go_sem, sa0, sb0, hiq, hkq]
      refine ⟨t + 1, ?_, by (try simp only []); omega, ?_⟩
      · first | exact Weak.refl | exact Weak.eq (by first | rfl | (simp only [go_sem]; done) | (simp only [go_sem]; rfl) | (simp [go_sem]; done) | (simp [go_sem]; omega)) (by first | rfl | (simp only [go_sem]; done) | (simp [go_sem]; done))
      · try dsimp only
        refine ⟨by omega, fun t' h => ?_⟩
        by_cases e : t' = t
        · subst e; exact hno
        · exact hinv t' (by omega)
  · -- c1 false
    try simp only [nrm] at c1
    have hres2 : res = false := by rw [← hres]; exact hmn fun t' h => hinv t' (by omega)
    refine W_exit ?_
    simp only [go_sem, sa0, sb0]
    refine kq4 _ _ ?_
    refine W_seq fun kz23 kq23 => ?_
    refine W_region [10] fun R hR => ?_   -- r17
    simp only [go_sem, sa0, sb0]
    refine hR _ _ (kq23 _ _ ?_); clear hR R; try clear kq23 kz23
    try simp only [go_sem, sa0, sb0]
    refine W_ret ?_
    simp only [go_sem, sa0, sb0]
    refine ⟨.inr (by trivial), ?_⟩
    first | refine Fin_same hcl rfl (Wk_eq ?_ (by simp only [go_sem])) | refine Fin_self hcl rfl (Wk_eq ?_ (by simp only [go_sem]))
    try simp only [go_sem]
    all_goals
      rw [hres2]

end Go.Proofs.Ytnpamcpoaklgeaa

namespace Go.Proofs.Ytnpamcpoaklgeaa
open Go Go.RowKit
set_option maxRecDepth 100000

theorem eqb4 {a b : Bool} : eqPV Try.prog 4 (.bool a) (.bool b) = some (a == b) := by kernel_rfl
attribute [go_sem] eqb4
def City.brk8 (c : City) : City := { c with brk := min c.brk 8 }
theorem CityV.brk8 {c : City} (h : CityV c) : CityV c.brk8 :=
  ⟨h.tv, by have := h.b0; show 0 ≤ min c.brk 8; omega, by have := h.b1; show min c.brk 8 ≤ 60; omega, h.sl, h.sv⟩
theorem BandV.at {c : City} {b : Band} {x y : Int} (h : BandV c b) (h1 : b.lo ≤ x) (h2 : x ≤ y) (h3 : y ≤ b.hi) : BandV c (b.At x y) :=
  ⟨h.f0, h.f1, h.p1, h.p2, by have := h.l0; show 0 ≤ x; omega, h2, by have := h.l2; show y ≤ x + 4; omega, h.s0, h.s1, h.q0, h.q1, by have := h.e1; show y + b.stay * ((b.path.length : Int) + 1) ≤ 720; omega⟩
def Band.few (b : Band) : Band := b.At b.lo (min b.hi (b.lo + 2))

set_option maxHeartbeats 8000000 in
theorem BandMeets_pc (Y : YEnv) (σ : Sg) (nums : List Int) (hn : nums.length < 2 ^ 60) :
    PC Try.prog Y 6 [ints nums] σ (.bool true) (σ) := by
  refine PC_of_W Try.func6 rfl (by kernel_rfl) Try.ntmps6 (by simp) fun hcl hca => ?_
  obtain ⟨b0, hb0⟩ : ∃ z, drumB nums 2685821657736338717 = z := ⟨_, rfl⟩
  obtain ⟨made, hmade⟩ : ∃ zz, (cityD b0).1 = zz := ⟨_, rfl⟩
  obtain ⟨b1, hb1⟩ : ∃ zz, (cityD b0).2 = zz := ⟨_, rfl⟩
  obtain ⟨a, ha⟩ : ∃ zz, (bandD made.brk8 b1).1 = zz := ⟨_, rfl⟩
  obtain ⟨b2, hb2⟩ : ∃ zz, (bandD made.brk8 b1).2 = zz := ⟨_, rfl⟩
  obtain ⟨b, hb⟩ : ∃ zz, (bandD made.brk8 b2).1 = zz := ⟨_, rfl⟩
  obtain ⟨b3, hb3⟩ : ∃ zz, (bandD made.brk8 b2).2 = zz := ⟨_, rfl⟩
  have vmade0 : CityV made := by rw [← hmade]; exact cityD_ok b0
  have vmade : CityV made.brk8 := vmade0.brk8
  have va0 : BandV made.brk8 a := by rw [← ha]; exact bandD_ok vmade b1
  have vb0 : BandV made.brk8 b := by rw [← hb]; exact bandD_ok vmade b2
  have ga := va0.seq
  have gb := vb0.seq
  have va : BandV made.brk8 a.few := va0.at (by omega) (by omega) (by omega)
  have vb : BandV made.brk8 b.few := vb0.at (by omega) (by omega) (by omega)
  have ka := va.chk vmade
  have kb := vb.chk vmade
  have vck := vmade.chk
  have pa := va0.p1
  have pb := vb0.p1
  have la : (a.few).lo = a.lo := rfl
  have lb : (b.few).lo = b.lo := rfl
  have lha : (a.few).hi = min a.hi (a.lo + 2) := rfl
  have lhb : (b.few).hi = min b.hi (b.lo + 2) := rfl
  obtain ⟨v, hv⟩ : ∃ z, crossVal made.brk8 a.few b.few = z := ⟨_, rfl⟩
  refine W_seq fun kz1 kq1 => ?_
  refine W_region [0] fun R hR => ?_   -- r0
  simp only [go_sem, hb0, hmade, hb1, ha, hb2, hb, hb3]
  refine hR _ _ (kq1 _ _ ?_); clear hR R; try clear kq1 kz1
  try simp only [go_sem, hb0, hmade, hb1, ha, hb2, hb, hb3]
  refine W_seq fun kz2 kq2 => ?_
  refine W_region [3] fun R hR => ?_   -- r1
  simp only [go_sem, hb0, hmade, hb1, ha, hb2, hb, hb3]
  refine GCall_of (DrumOf_pc Y _ nums hn) ?_   -- t17
  simp only [go_sem, hb0, hmade, hb1, ha, hb2, hb, hb3]
  refine hR _ _ (kq2 _ _ ?_); clear hR R; try clear kq2 kz2
  try simp only [go_sem, hb0, hmade, hb1, ha, hb2, hb, hb3]
  refine W_seq fun kz3 kq3 => ?_
  refine W_region [3, 4] fun R hR => ?_   -- r2
  simp only [go_sem, hb0, hmade, hb1, ha, hb2, hb, hb3]
  refine GCall_of (CityOf_pc Y _ _ _ (Sg.get_ext0 _ _ _ _)) ?_   -- t19
  simp only [go_sem, hb0, hmade, hb1, ha, hb2, hb, hb3]
  refine hR _ _ (kq3 _ _ ?_); clear hR R; try clear kq3 kz3
  try simp only [go_sem, hb0, hmade, hb1, ha, hb2, hb, hb3]
  refine W_seq fun kz4 kq4 => ?_
  refine W_region [3, 4] fun R hR => ?_   -- r3
  simp only [go_sem, hb0, hmade, hb1, ha, hb2, hb, hb3]
  refine hR _ _ (kq4 _ _ ?_); clear hR R; try clear kq4 kz4
  try simp only [go_sem, hb0, hmade, hb1, ha, hb2, hb, hb3]
  refine W_seq fun kz5 kq5 => ?_
  refine W_draw [4, 5, 6] [0, 1, 2, 3, 4, 5, 6, 7, 8, 9] [(3, 2), (4, 2)] [[], [], [0, 1], [], [], [0, 1, 2, 3, 4], [], [], [0, 1, 2, 3, 4, 5, 6, 7], [0, 1, 2, 3, 4, 5, 6, 7, 8]] mixed (by kernel_rfl) fun R hR => ?_   -- r4
  simp only [go_sem, hb0, hmade, hb1, ha, hb2, hb, hb3]
  refine GCall_of (BandOf_pc Y _ _ _ (Sg.get_ext0 _ _ _ _) made.brk8 vmade.small.hr vmade.small.hs) ?_   -- t26
  simp only [go_sem, hb0, hmade, hb1, ha, hb2, hb, hb3]
  refine GCall_of (BandOf_pc Y _ _ _ (Sg.get_ext0 _ _ _ _) made.brk8 vmade.small.hr vmade.small.hs) ?_   -- t29
  simp only [go_sem, hb0, hmade, hb1, ha, hb2, hb, hb3]
  try refine And.intro (by repeat' (first | refine And.intro ?_ ?_ | exact GOr_right (fun _ => by simp only [go_sem, hb0, hmade, hb1, ha, hb2, hb, hb3]))) ?_
  refine hR _ _ (kq5 _ _ ?_); clear hR R; try clear kq5 kz5
  try simp only [go_sem, hb0, hmade, hb1, ha, hb2, hb, hb3]
  refine W_seq fun kz6 kq6 => ?_
  refine W_draw [4, 5, 6] [0, 1, 2, 3, 4, 5, 6, 7, 8, 9, 10, 11, 12, 13, 14, 15, 16, 17, 18, 19, 20, 21] [(8, 21), (9, 21), (10, 21), (11, 21), (12, 21), (13, 21), (14, 21), (15, 21)] [[], [0], [0, 1], [], [3], [3, 4], [3, 4, 5], [0, 1, 2, 3, 4, 5, 6], [], [8], [8, 9], [], [11], [11, 12], [11, 12, 13], [8, 9, 10, 11, 12, 13, 14], [0, 1, 2, 3, 4, 5, 6, 7], [0, 1, 2, 3, 4, 5, 6, 7, 16], [0, 1, 2, 3, 4, 5, 6, 7, 16, 17], [0, 1, 2, 3, 4, 5, 6, 7, 8, 9, 10, 11, 12, 13, 14, 15, 16, 17, 18], [0, 1, 2, 3, 4, 5, 6, 7, 8, 9, 10, 11, 12, 13, 14, 15, 16, 17, 18, 19], [0, 1, 2, 3, 4, 5, 6, 7, 8, 9, 10, 11, 12, 13, 14, 15, 16, 17, 18, 19, 20]] mixed (by kernel_rfl) fun R hR => ?_   -- r5
  simp only [go_sem, hb0, hmade, hb1, ha, hb2, hb, hb3]
  try simp (disch := omega) only [wrapI, wrapU]
  try refine And.intro (by repeat' (first | refine And.intro ?_ ?_ | exact GOr_right (fun _ => by simp only [go_sem, hb0, hmade, hb1, ha, hb2, hb, hb3]))) ?_
  refine hR _ _ (kq6 _ _ ?_); clear hR R; try clear kq6 kz6
  try simp only [go_sem, hb0, hmade, hb1, ha, hb2, hb, hb3]
  refine W_seq fun kz7 kq7 => ?_
  refine W_region [4, 5, 6, 7, 8] fun R hR => ?_   -- r6
  simp only [go_sem, hb0, hmade, hb1, ha, hb2, hb, hb3]
  refine GCall_of (PC.val (v' := .tuple [I v, I 0]) (bCross_pc Y _ made.brk8 a.few b.few vmade.okc (by show a.path.length < _; omega) (by show b.path.length < _; omega)) (by rw [crossAns_of vck ka kb, hv])) ?_   -- t54
  simp only [go_sem, hb0, hmade, hb1, ha, hb2, hb, hb3]
  refine hR _ _ (kq7 _ _ ?_); clear hR R; try clear kq7 kz7
  try simp only [go_sem, hb0, hmade, hb1, ha, hb2, hb, hb3]
  refine W_seq fun kz8 kq8 => ?_
  refine W_region [4, 5, 6, 7, 8, 9, 10] fun R hR => ?_   -- r7
  simp only [go_sem, hb0, hmade, hb1, ha, hb2, hb, hb3]
  refine GCall_of (PC.val (v' := .tuple [I v, I 0]) (bCross_pc Y _ made.brk8 b.few a.few vmade.okc (by show b.path.length < _; omega) (by show a.path.length < _; omega)) (by rw [crossAns_of vck kb ka, crossVal_symm vck kb ka, hv])) ?_   -- t61
  simp only [go_sem, hb0, hmade, hb1, ha, hb2, hb, hb3]
  refine hR _ _ (kq8 _ _ ?_); clear hR R; try clear kq8 kz8
  try simp only [go_sem, hb0, hmade, hb1, ha, hb2, hb, hb3]
  refine W_seq fun kz9 kq9 => ?_
  refine W_seq fun kz10 kq10 => ?_
  refine W_region [4, 5, 6, 7, 74] fun R hR => ?_   -- r8
  simp only [go_sem, hb0, hmade, hb1, ha, hb2, hb, hb3]
  refine hR _ _ (kq10 _ _ ?_); clear hR R; try clear kq10 kz10
  try simp only [go_sem, hb0, hmade, hb1, ha, hb2, hb, hb3]
  refine W_cond rfl (fun c1 => ?_) (fun c1 => ?_)
  · -- c1 true
    try simp only [nrm] at c1
    exfalso
    simp at c1
  · -- c1 false
    try simp only [nrm] at c1
    refine W_skip (kq9 _ _ ?_)
    refine W_seq fun kz11 kq11 => ?_
    refine W_region [4, 5, 6, 7, 11, 12] fun R hR => ?_   -- r10
    simp only [go_sem, hb0, hmade, hb1, ha, hb2, hb, hb3]
    refine hR _ _ (kq11 _ _ ?_); clear hR R; try clear kq11 kz11
    try simp only [go_sem, hb0, hmade, hb1, ha, hb2, hb, hb3]
    refine W_seq fun kz12 kq12 => ?_
    refine W_seq fun kz13 kq13 => ?_
    refine W_region [4, 5, 6, 7, 11, 12, 13] fun R hR => ?_   -- r11
    simp only [go_sem, hb0, hmade, hb1, ha, hb2, hb, hb3]
    refine hR _ _ (kq13 _ _ ?_); clear hR R; try clear kq13 kz13
    try simp only [go_sem, hb0, hmade, hb1, ha, hb2, hb, hb3]
    refine W_block ?_
    refine W_loopS (α := Int × Bool × Bool) (fun ⟨m, sm, all⟩ => [(11, .bool sm), (12, .bool all), (13, I m)]) (fun ⟨m, sm, all⟩ => (a.lo ≤ m ∧ m ≤ min a.hi (a.lo + 2) + 1) ∧ (sm, all) = upTo (crRow (meetB made.brk8 a.few b.few) b.lo (min b.hi (b.lo + 2))) a.lo m (false, true)) (fun ⟨m, sm, all⟩ => (min a.hi (a.lo + 2) + 1 - m).toNat) ((a.lo, false, true)) rfl (⟨⟨Int.le_refl _, by omega⟩, (upTo_start ..).symm⟩) ?_
    rintro ⟨m, sm, all⟩ ⟨⟨hm1, hm2⟩, hsa⟩
    refine W_seq fun kz14 kq14 => ?_
    refine W_seq fun kz15 kq15 => ?_
    refine W_region [4, 5, 6, 7, 11, 12, 13, 82] fun R hR => ?_   -- r12
    simp only [go_sem, hb0, hmade, hb1, ha, hb2, hb, hb3]
    refine hR _ _ (kq15 _ _ ?_); clear hR R; try clear kq15 kz15
    try simp only [go_sem, hb0, hmade, hb1, ha, hb2, hb, hb3]
    refine W_cond rfl (fun c2 => ?_) (fun c2 => ?_)
    · -- c2 true
      try simp only [nrm] at c2
      refine W_skip (kq14 _ _ ?_)
      refine W_seq fun kz16 kq16 => ?_
      refine W_block ?_
      refine W_seq fun kz17 kq17 => ?_
      refine W_region [4, 5, 6, 7, 11, 12, 13, 14] fun R hR => ?_   -- r14
      simp only [go_sem, hb0, hmade, hb1, ha, hb2, hb, hb3]
      refine hR _ _ (kq17 _ _ ?_); clear hR R; try clear kq17 kz17
      try simp only [go_sem, hb0, hmade, hb1, ha, hb2, hb, hb3]
      refine W_block ?_
      obtain ⟨sm0, hs0⟩ : ∃ z, z = sm := ⟨_, rfl⟩
      obtain ⟨all0, hl0⟩ : ∃ z, z = all := ⟨_, rfl⟩
      have hsa0 := hsa
      rw [← hs0, ← hl0] at hsa0 ⊢
      clear hs0 hl0 hsa
      refine W_loopS (α := Int × Bool × Bool) (fun ⟨n, sm, all⟩ => [(11, .bool sm), (12, .bool all), (14, I n)]) (fun ⟨n, sm, all⟩ => (b.lo ≤ n ∧ n ≤ min b.hi (b.lo + 2) + 1) ∧ (sm, all) = upTo (crStep (meetB made.brk8 a.few b.few) m) b.lo n (sm0, all0)) (fun ⟨n, sm, all⟩ => (min b.hi (b.lo + 2) + 1 - n).toNat) ((b.lo, sm0, all0)) rfl (⟨⟨Int.le_refl _, by omega⟩, (upTo_start ..).symm⟩) ?_
      rintro ⟨n, sm, all⟩ ⟨⟨hn1, hn2⟩, hsb⟩
      refine W_seq fun kz18 kq18 => ?_
      refine W_seq fun kz19 kq19 => ?_
      refine W_region [4, 5, 6, 7, 11, 12, 13, 14, 92] fun R hR => ?_   -- r15
      simp only [go_sem, hb0, hmade, hb1, ha, hb2, hb, hb3]
      refine hR _ _ (kq19 _ _ ?_); clear hR R; try clear kq19 kz19
      try simp only [go_sem, hb0, hmade, hb1, ha, hb2, hb, hb3]
      refine W_cond rfl (fun c3 => ?_) (fun c3 => ?_)
      · -- c3 true
        try simp only [nrm] at c3
        obtain ⟨x, hx⟩ : ∃ x, meetB made.brk8 a.few b.few m n = x := ⟨_, rfl⟩
        refine W_skip (kq18 _ _ ?_)
        refine W_seq fun kz20 kq20 => ?_
        refine W_block ?_
        refine W_seq fun kz21 kq21 => ?_
        refine W_region [4, 5, 6, 7, 11, 12, 13, 14, 15] fun R hR => ?_   -- r17
        simp only [go_sem, hb0, hmade, hb1, ha, hb2, hb, hb3]
        refine GCall_of (PC.val (v' := .bool x) (crossed_pc Y _ made.brk8 a.few b.few m n vmade.okc vck ka kb (by show a.path.length < _; omega) (by show b.path.length < _; omega) (by omega) (by omega) (by omega) (by omega)) (by rw [hx])) ?_   -- t100
        simp only [go_sem, hb0, hmade, hb1, ha, hb2, hb, hb3]
        refine hR _ _ (kq21 _ _ ?_); clear hR R; try clear kq21 kz21
        try simp only [go_sem, hb0, hmade, hb1, ha, hb2, hb, hb3]
        refine W_regionJ [4, 5, 6, 7, 11, 12, 13, 14] [(11, .bool (sm || x)), (12, .bool (all && x))] ?_ fun R hR => ?_   -- r18
        · refine kq20 _ _ ?_
          simp only [go_sem, hb0, hmade, hb1, ha, hb2, hb, hb3]
          refine W_region [4, 5, 6, 7, 11, 12, 13, 14] fun R hR => ?_   -- r16
          simp only [go_sem, hb0, hmade, hb1, ha, hb2, hb, hb3]
          try simp (disch := omega) only [wrapI, wrapU]
          refine hR _ _ ?_; clear hR R
          try simp only [go_sem, hb0, hmade, hb1, ha, hb2, hb, hb3]
          refine ⟨(n + 1, sm || x, all && x), ?_, by (try simp only []); omega, ?_⟩
          · first | exact Weak.refl | exact Weak.eq (by first | rfl | (simp only [go_sem]; done) | (simp only [go_sem]; rfl) | (simp [go_sem]; done) | (simp [go_sem]; omega)) (by first | rfl | (simp only [go_sem]; done) | (simp [go_sem]; done))
          · try dsimp only
            refine ⟨⟨by omega, by omega⟩, ?_⟩
            rw [upTo_step _ (by omega), ← hsb]
            simp only [crStep, hx]
        · simp only [go_sem, hb0, hmade, hb1, ha, hb2, hb, hb3]
          refine GWant_split (fun g1 => ?_) (fun g1 => ?_)
          · try simp only [Bool.not_eq_true', Bool.not_eq_false'] at g1
            have n1 := g1; try simp only [nrm] at n1
            simp only [go_sem, hb0, hmade, hb1, ha, hb2, hb, hb3, g1]
            refine GWant_split (fun g2 => ?_) (fun g2 => ?_)
            · try simp only [Bool.not_eq_true', Bool.not_eq_false'] at g2
              have n2 := g2; try simp only [nrm] at n2
              simp only [go_sem, hb0, hmade, hb1, ha, hb2, hb, hb3, g1, g2]
              refine hR _ ?_
              try simp only [go_sem, hb0, hmade, hb1, ha, hb2, hb, hb3]
              all_goals
                first | (simp [g1, g2]; done) | (simp [g1, g3]; done)
            · try simp only [Bool.not_eq_true', Bool.not_eq_false'] at g2
              have n2 := g2; try simp only [nrm] at n2
              simp only [go_sem, hb0, hmade, hb1, ha, hb2, hb, hb3, g1, g2]
              refine hR _ ?_
              try simp only [go_sem, hb0, hmade, hb1, ha, hb2, hb, hb3]
              all_goals
                first | (simp [g1, g2]; done) | (simp [g1, g3]; done)
          · try simp only [Bool.not_eq_true', Bool.not_eq_false'] at g1
            have n1 := g1; try simp only [nrm] at n1
            simp only [go_sem, hb0, hmade, hb1, ha, hb2, hb, hb3, g1]
            refine GWant_split (fun g3 => ?_) (fun g3 => ?_)
            · try simp only [Bool.not_eq_true', Bool.not_eq_false'] at g3
              have n3 := g3; try simp only [nrm] at n3
              simp only [go_sem, hb0, hmade, hb1, ha, hb2, hb, hb3, g1, g3]
              refine hR _ ?_
              try simp only [go_sem, hb0, hmade, hb1, ha, hb2, hb, hb3]
              all_goals
                first | (simp [g1, g2]; done) | (simp [g1, g3]; done)
            · try simp only [Bool.not_eq_true', Bool.not_eq_false'] at g3
              have n3 := g3; try simp only [nrm] at n3
              simp only [go_sem, hb0, hmade, hb1, ha, hb2, hb, hb3, g1, g3]
              refine hR _ ?_
              try simp only [go_sem, hb0, hmade, hb1, ha, hb2, hb, hb3]
              all_goals
                first | (simp [g1, g2]; done) | (simp [g1, g3]; done)
      · -- c3 false
        try simp only [nrm] at c3
        obtain rfl : n = min b.hi (b.lo + 2) + 1 := by omega
        refine W_exit ?_
        simp only [go_sem, hb0, hmade, hb1, ha, hb2, hb, hb3]
        refine kq16 _ _ ?_
        refine W_region [4, 5, 6, 7, 11, 12, 13] fun R hR => ?_   -- r13
        simp only [go_sem, hb0, hmade, hb1, ha, hb2, hb, hb3]
        try simp (disch := omega) only [wrapI, wrapU]
        refine hR _ _ ?_; clear hR R
        try simp only [go_sem, hb0, hmade, hb1, ha, hb2, hb, hb3]
        refine ⟨(m + 1, sm, all), ?_, by (try simp only []); omega, ?_⟩
        · first | exact Weak.refl | exact Weak.eq (by first | rfl | (simp only [go_sem]; done) | (simp only [go_sem]; rfl) | (simp [go_sem]; done) | (simp [go_sem]; omega)) (by first | rfl | (simp only [go_sem]; done) | (simp [go_sem]; done))
        · try dsimp only
          refine ⟨⟨by omega, by omega⟩, ?_⟩
          rw [upTo_step _ (by omega), ← hsa0]
          exact hsb
    · -- c2 false
      try simp only [nrm] at c2
      obtain rfl : m = min a.hi (a.lo + 2) + 1 := by omega
      have hcr : crossOf (meetB made.brk8 a.few b.few) a.lo (min a.hi (a.lo + 2)) b.lo (min b.hi (b.lo + 2)) = v := by rw [← hv, crossVal_meet vck ka kb]; rfl
      have hca' : crAll (meetB made.brk8 a.few b.few) a.lo (min a.hi (a.lo + 2)) b.lo (min b.hi (b.lo + 2)) = (sm, all) := hsa.symm
      obtain ⟨q1, q2⟩ := crAll_iff (meetB made.brk8 a.few b.few) a.lo (min a.hi (a.lo + 2)) b.lo (min b.hi (b.lo + 2)) (by omega) (by omega)
      rw [hca'] at q1 q2
      have q3 : all = true → sm = true := fun h => q1.2 ⟨a.lo, b.lo, by omega, by omega, by omega, by omega, q2.1 h _ _ (by omega) (by omega) (by omega) (by omega)⟩
      have hvv : v = if all then 1 else if sm then 3 else 2 := by rw [← hcr]; unfold crossOf; rw [hca']
      have hv1 : (v == (1 : Int)) = all := by rw [hvv]; cases all <;> cases sm <;> first | rfl | (have := q3 rfl; cases this)
      have hv2 : (v == (2 : Int)) = !sm := by rw [hvv]; cases all <;> cases sm <;> first | rfl | (have := q3 rfl; cases this)
      refine W_exit ?_
      simp only [go_sem, hb0, hmade, hb1, ha, hb2, hb, hb3]
      refine kq12 _ _ ?_
      refine W_seq fun kz22 kq22 => ?_
      refine W_region [2] fun R hR => ?_   -- r19
      simp only [go_sem, hb0, hmade, hb1, ha, hb2, hb, hb3, hv1, hv2, beq_self_eq_true]
      refine GCall_of (lawake_pc Y _) ?_   -- t121
      simp only [go_sem, hb0, hmade, hb1, ha, hb2, hb, hb3, hv1, hv2, beq_self_eq_true]
      refine hR _ _ (kq22 _ _ ?_); clear hR R; try clear kq22 kz22
      try simp only [go_sem, hb0, hmade, hb1, ha, hb2, hb, hb3]
      refine W_ret ?_
      simp only [go_sem, hb0, hmade, hb1, ha, hb2, hb, hb3]
      refine ⟨.inr (by trivial), ?_⟩
      first | refine Fin_same hcl rfl (Wk_eq ?_ (by simp only [go_sem])) | refine Fin_self hcl rfl (Wk_eq ?_ (by simp only [go_sem]))
      try simp only [go_sem]
      all_goals
        first | rfl | (simp_all; done) | (simp_all; omega)

end Go.Proofs.Ytnpamcpoaklgeaa

namespace Go.Proofs.Ytnpamcpoaklgeaa
open Go Go.RowKit

theorem rdBandMeetsArgs : All2 (fun t R => Rd Try.prog t R) Try.f6.params.toList [fun p => ∃ xs : List Int, p = ints xs ∧ xs.length * 8 ≤ 140737488351232] :=
  .cons rdInts .nil
set_option maxHeartbeats 4000000 in
theorem BandMeets_walk : ∀ qs, AllR [fun p => ∃ xs : List Int, p = ints xs ∧ xs.length * 8 ≤ 140737488351232] qs → ∃ σ', PC Try.prog noY 6 qs Sg.zero (.bool true) σ' := by
  intro qs hq
  obtain ⟨px0, qs, rfl, ⟨x0, hx0, sx0⟩, hq⟩ := allR_cons hq
  obtain rfl := allR_nil hq
  subst hx0
  exact ⟨_, BandMeets_pc noY _ x0 (by omega)⟩
theorem BandMeets_lifted (os : Os) (started : os.Started) (H : Type) (enc : TypeId × Value → H) :
    ReturnsInHanded {} Try.checked os 6 .any (Rows.bandMeetsSpec.pre6 enc Try.prog Try.f6 Rows.bandMeetsRow.domain false) (Rows.bandMeetsSpec.post enc Try.prog Try.f6 false true false false) :=
  law_lifted (C := Try.checked) own started (by kernel_rfl) Try.func6 rfl laidOut (by kernel_rfl) rdBandMeetsArgs rfl Try.underlying4
    (fun ds h => match ds, h with | [_], _ => rfl)
    (ChangeSpec.witness6 (enc := enc) (C := Try.checked) false ⟨#[], #[.slice none 0 0], []⟩ 8 (by kernel_rfl) (by kernel_rfl) (by kernel_rfl) (by kernel_rfl))
    BandMeets_walk
theorem BandMeets_holds : Rows.BandMeetsSaid :=
  OpenClaim.holds_of_wide 6 Try.f6 rfl rfl rfl rfl rfl rfl rfl ⟨rfl, rfl, rfl, rfl, rfl⟩ rfl rfl rfl rfl rfl (by kernel_rfl) Try.func6 (by kernel_rfl)
    (of_decide_eq_true (by kernel_rfl)) (by unfold Func.isWrapper; first | (rw [if_pos (by decide +kernel)]; kernel_rfl) | (rw [if_neg (by decide +kernel)]; exact ⟨rfl, rfl⟩))
    (fun os started H enc _ => BandMeets_lifted os started H enc)
end Go.Proofs.Ytnpamcpoaklgeaa
