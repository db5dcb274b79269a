/-
  The law BandAsleep: whatever comes in, it answers true and leaves what came in as it was.
  The law BandAsleep, walked: the city sleeps as long as it is owed.
  Walk: where a band is (bateriaref07.At).
  Where a band may be, and how long a square sleeps: the plain law.
  Walks: a number in a list; streets that are closed.
  Plain law: two bands cross, minute by minute.
  Plain law: two searches for the best choice of bands find the same.
  Plain law: choices of bands: lists of numbers in order, sets as numbers, what is better.
  Walks: the reference's requests, permits, choices (bateriaref07).
  Plain law: what is said to requests.
  Walks: who is granted; true starts; squares; the laws' data.
-/
import Derived.Test.YtnpamcpoaklgeaaPe
import Derived.CallsIn
import Derived.RangeFuncLeaves
import Derived.RangeFuncRecord
import Derived.OrdersIn
import Derived.Below
import Derived.Laws.World
import Derived.Laws.StructEq
import Derived.Laws.Append
import Derived.MapKept
import Derived.ProofKit
import Derived.Carry
import Derived.Handed
import Derived.ChangeCalls
import Derived.RangeFuncIn
import Derived.RangeFuncNested
import Derived.Test.YtnpamcpoaklgeaaProg
import Derived.KernelRfl
import Derived.IntWalk
import Derived.Test.YtnpamcpoaklgeaaRows
import Derived.Sort.OwnSortedInts
import Derived.Lib.SlicesCompact
import Derived.Shelf.Sort.Plain
import Derived.Shelf.Slices.In.SortNone
import Derived.Shelf.Slices.CompactI
import Derived.JoinedOf
set_option linter.unusedSimpArgs false
set_option linter.unusedVariables false
namespace Go.Proofs.Ytnpamcpoaklgeaa
open Go Go.RowKit
set_option maxRecDepth 100000
def grantedOf : List Band → List Int → List Band
  | b :: l, e :: es => if e = 0 then b :: grantedOf l es else grantedOf l es
  | _, _ => []
theorem grantedOf_mem : ∀ {l : List Band} {es : List Int} {b : Band}, b ∈ grantedOf l es → b ∈ l := by
  intro l
  induction l with
  | nil => intro es b h; cases es <;> exact absurd h (by simp [grantedOf])
  | cons a l ih =>
    intro es b h
    cases es with
    | nil => simp [grantedOf] at h
    | cons e es =>
      simp only [grantedOf] at h
      split at h
      · rcases List.mem_cons.1 h with rfl | h
        · simp
        · simp [ih h]
      · simp [ih h]
theorem grantedOf_len : ∀ (l : List Band) (es : List Int), (grantedOf l es).length ≤ l.length := by
  intro l
  induction l with
  | nil => intro es; cases es <;> simp [grantedOf]
  | cons a l ih =>
    intro es
    cases es with
    | nil => simp [grantedOf]
    | cons e es =>
      simp only [grantedOf]
      split <;> simp <;> have := ih es <;> omega
theorem grantL_len (c : City) : ∀ (l w : List Band), (grantL c w l).length = l.length := by
  intro l
  induction l with
  | nil => intro w; rfl
  | cons b l ih => intro w; simp [grantL, ih]
theorem chkBands_of {c : City} : ∀ {l : List Band}, (∀ b, b ∈ l → chkBand c b = 0) → chkBands c l = 0 := by
  intro l
  induction l with
  | nil => intro _; rfl
  | cons b l ih =>
    intro h
    simp only [chkBands]
    rw [if_neg (by rw [h b (by simp)]; simp)]
    exact ih fun x hx => h x (by simp [hx])
theorem chkAll_of {c : City} {l : List Band} (h1 : chkCity c = 0) (h2 : l.length ≤ 10) (h3 : ∀ b, b ∈ l → chkBand c b = 0) : chkAll c l = 0 := by
  unfold chkAll
  rw [if_neg (by rw [h1]; simp), if_neg (by omega), chkBands_of h3]
theorem grantAns_of {c : City} {l : List Band} (h1 : chkCity c = 0) (h2 : l.length ≤ 10) (h3 : ∀ b, b ∈ l → chkBand c b = 0) : grantAns c l = (grantL c [] l, 0) := by
  unfold grantAns
  rw [if_neg (by rw [chkAll_of h1 h2 h3]; simp)]
theorem BandV.okl {c : City} {l : List Band} (h : ∀ b, b ∈ l → BandV c b) (hl : l.length ≤ 10) : BandsOk l := ⟨by omega, fun b hb => by have := (h b hb).p1; omega⟩
theorem BandV.seq {c : City} {b : Band} (h : BandV c b) : 0 ≤ b.lo ∧ b.lo ≤ b.hi ∧ b.hi ≤ 720 ∧ 1 ≤ b.stay ∧ b.stay ≤ 20 := by
  have := h.l0; have := h.l1; have := h.l2; have := h.s0; have := h.s1; have := h.e1
  have hm : 0 ≤ b.stay * ((b.path.length : Int) + 1) := Int.mul_nonneg (by omega) (by omega)
  omega
def ofD (lo hi : Int) : D Int := dbind (roll 4) fun k => if k = 0 then dret lo else if k = 1 then dret hi else mid lo hi
theorem ofD_bd {lo hi : Int} (h : lo ≤ hi) : Holds (ofD lo hi) fun r => lo ≤ r ∧ r ≤ hi := by
  unfold ofD
  refine (roll_bd 4).bind fun k _ => ?_
  split
  · exact .ret ⟨by omega, by omega⟩
  · split
    · exact .ret ⟨by omega, by omega⟩
    · exact mid_bd lo hi h
set_option maxHeartbeats 2000000 in
theorem lgranted_pc (Y : YEnv) (σ : Sg) (l : List Band) (es : List Int) (hl : l.length ≤ 2 ^ 30) (he : l.length ≤ es.length) :
    PC Try.prog Y 32 [bands l, ints es] σ (bands (grantedOf l es)) (σ) := by
  refine PC_of_W Try.func32 rfl (by kernel_rfl) Try.ntmps32 (by simp) fun hcl hca => ?_
  refine W_seq fun kz1 kq1 => ?_
  refine W_region [0, 1] fun R hR => ?_   -- r0
  simp only [go_sem]
  refine hR _ _ (kq1 _ _ ?_); clear hR R; try clear kq1 kz1
  try simp only [go_sem]
  refine W_seq fun kz2 kq2 => ?_
  refine W_region [0, 1, 5] fun R hR => ?_   -- r1
  simp only [go_sem]
  refine hR _ _ (kq2 _ _ ?_); clear hR R; try clear kq2 kz2
  try simp only [go_sem]
  refine W_seq fun kz3 kq3 => ?_
  refine W_seq fun kz4 kq4 => ?_
  refine W_region [0, 1, 5, 6] fun R hR => ?_   -- r2
  simp only [go_sem]
  refine hR _ _ (kq4 _ _ ?_); clear hR R; try clear kq4 kz4
  try simp only [go_sem]
  refine W_block ?_
  refine W_weak (Weak.room (t := 5) (es := 6) rfl (by simp)) ?_
  refine W_weak (Weak.keep [0, 1, 5, 6]) ?_
  simp only [go_sem]
  refine W_loopT (α := Nat × (List Band)) (fun ⟨i, out⟩ => [(5, .isl (out.map bdPV) (.tok σ.rooms.length out.length 6)), (6, I i)]) (fun ⟨i, out⟩ => σ.ext [] [out.length]) (fun ⟨i, out⟩ => i ≤ l.length ∧ out.length ≤ i ∧ grantedOf l es = out ++ grantedOf (l.drop i) (es.drop i)) (fun ⟨i, out⟩ => l.length - i) ((0, [])) rfl (by first | rfl | (simp only [go_sem]; done) | (simp only [go_sem]; rfl)) (⟨Nat.zero_le _, Nat.le_refl _, rfl⟩) ?_
  rintro ⟨i, out⟩ ⟨hi, ho, hinv⟩
  refine W_seq fun kz5 kq5 => ?_
  refine W_seq fun kz6 kq6 => ?_
  refine W_regionJ [0, 1, 5, 6, 16] [(16, .bool (decide (i < l.length)))] ?_ fun R hR => ?_   -- r3
  · refine kq6 _ _ ?_
    simp only [go_sem]
    refine W_cond rfl (fun c1 => ?_) (fun c1 => ?_)
    · -- c1 true
      try simp only [nrm] at c1
      have hi' : i < l.length := by first | assumption | omega
      obtain ⟨b, hx⟩ : ∃ b, l[i]? = some b := ⟨l[i], by simp [hi']⟩
      have hdrop : l.drop i = b :: l.drop (i + 1) := by
        rw [List.drop_eq_getElem_cons hi']; congr 1; exact (List.getElem?_eq_some_iff.1 hx).2
      obtain ⟨e, hy⟩ : ∃ e, es[i]? = some e := ⟨es[i]'(by omega), by simp⟩
      have hdrop2 : es.drop i = e :: es.drop (i + 1) := by
        rw [List.drop_eq_getElem_cons (by omega)]; congr 1; exact (List.getElem?_eq_some_iff.1 hy).2
      rw [hdrop, hdrop2] at hinv
      simp only [grantedOf] at hinv
      refine W_skip (kq5 _ _ ?_)
      refine W_seq fun kz7 kq7 => ?_
      refine W_block ?_
      refine W_seq fun kz8 kq8 => ?_
      refine W_region [0, 1, 5, 6, 23] fun R hR => ?_   -- r5
      simp only [go_sem, hx, hy]
      refine hR _ _ (kq8 _ _ ?_); clear hR R; try clear kq8 kz8
      try simp only [go_sem, hx, hy]
      refine W_cond rfl (fun c2 => ?_) (fun c2 => ?_)
      · -- c2 true
        try simp only [nrm] at c2
        refine W_region [0, 1, 5, 6] fun R hR => ?_   -- r6
        simp only [go_sem, hx, hy]
        simp (disch := first | omega | (simp only [go_sem] <;> omega)) only [wrapI, wrapU, appX_exact, appX_tok]
        try simp only [go_sem, hx, hy]
        refine hR _ _ (kq7 _ _ ?_); clear hR R; try clear kq7 kz7
        try simp only [go_sem, hx, hy]
        refine W_region [0, 1, 5, 6] fun R hR => ?_   -- r4
        simp only [go_sem, hx, hy]
        try simp (disch := omega) only [wrapI, wrapU]
        refine hR _ _ ?_; clear hR R
        try simp only [go_sem, hx, hy]
        refine ⟨(i + 1, out ++ [b]), ?_, by (try simp only []); omega, ?_⟩
        · first | exact Weak.refl | exact Weak.eq (by first | rfl | (simp only [go_sem]; done) | (simp only [go_sem]; rfl) | (simp [go_sem]; done) | (simp [go_sem]; omega)) (by first | rfl | (simp only [go_sem]; done) | (simp [go_sem]; done))
        · try dsimp only
          exact ⟨hi', by (try simp); omega, by rw [hinv]; simp [c2]⟩
      · -- c2 false
        try simp only [nrm] at c2
        refine W_skip (kq7 _ _ ?_)
        refine W_region [0, 1, 5, 6] fun R hR => ?_   -- r4
        simp only [go_sem, hx, hy]
        try simp (disch := omega) only [wrapI, wrapU]
        refine hR _ _ ?_; clear hR R
        try simp only [go_sem, hx, hy]
        refine ⟨(i + 1, out), ?_, by (try simp only []); omega, ?_⟩
        · first | exact Weak.refl | exact Weak.eq (by first | rfl | (simp only [go_sem]; done) | (simp only [go_sem]; rfl) | (simp [go_sem]; done) | (simp [go_sem]; omega)) (by first | rfl | (simp only [go_sem]; done) | (simp [go_sem]; done))
        · try dsimp only
          exact ⟨hi', by (try simp); omega, by rw [hinv]; simp [c2]⟩
    · -- c1 false
      try simp only [nrm] at c1
      have hdrop : l.drop i = [] := List.drop_eq_nil_of_le (by omega)
      rw [hdrop] at hinv
      simp only [grantedOf, List.append_nil] at hinv
      refine W_exit ?_
      simp only [go_sem]
      refine kq3 _ _ ?_
      refine W_seq fun kz9 kq9 => ?_
      refine W_region [4] fun R hR => ?_   -- r7
      simp only [go_sem]
      refine hR _ _ (kq9 _ _ ?_); clear hR R; try clear kq9 kz9
      try simp only [go_sem]
      refine W_ret ?_
      simp only [go_sem]
      refine ⟨.inr (by trivial), ?_⟩
      refine Fin_same hcl rfl (Wk.ro (by simp only [go_sem]) ?_)
      try simp only [go_sem]
      all_goals
        rw [hinv]
  · simp only [go_sem]
    refine GWant_split (fun g1 => ?_) (fun g1 => ?_)
    · try simp only [Bool.not_eq_true', Bool.not_eq_false'] at g1
      have n1 := g1; try simp only [nrm] at n1
      simp only [go_sem, g1]
      refine hR _ ?_
      try simp only [go_sem]
      all_goals
        first | rfl | (simp [*]; done) | (simp [*]; omega)
    · try simp only [Bool.not_eq_true', Bool.not_eq_false'] at g1
      have n1 := g1; try simp only [nrm] at n1
      simp only [go_sem, g1]
      refine hR _ ?_
      try simp only [go_sem]
      all_goals
        first | rfl | (simp [*]; done) | (simp [*]; omega)
set_option maxHeartbeats 2000000 in
theorem Of_pc (Y : YEnv) (σ : Sg) (d : Nat) (b : Int) (hd : σ.store[d]? = some (some [.int .u64 b])) (lo hi : Int) (h1 : -2 ^ 50 ≤ lo) (h2 : lo ≤ 2 ^ 50) (h3 : -2 ^ 50 ≤ hi) (h4 : hi ≤ 2 ^ 50) :
    PC Try.prog Y 36 [.ptr d 0, .agg [I lo, I hi]] σ (I (ofD lo hi b).1) (σ.setVar d [.int .u64 (ofD lo hi b).2]) := by
  refine PC_of_W Try.func36 rfl (by kernel_rfl) Try.ntmps36 (by simp) fun hcl hca => ?_
  have hlt := lt_of_get hd
  obtain ⟨k, hk⟩ : ∃ k, (roll 4 b).1 = k := ⟨_, rfl⟩
  obtain ⟨b1, hb1⟩ : ∃ k, (roll 4 b).2 = k := ⟨_, rfl⟩
  have hk1 := roll_bd 4 b
  simp only [hk] at hk1
  have e : ofD lo hi b = if k = 0 then (lo, b1) else if k = 1 then (hi, b1) else mid lo hi b1 := by
    unfold ofD
    rw [dbind_ap, hk, hb1]
    by_cases h0 : k = 0
    · rw [if_pos h0, if_pos h0]; rfl
    · rw [if_neg h0, if_neg h0]
      by_cases h1 : k = 1
      · rw [if_pos h1, if_pos h1]; rfl
      · rw [if_neg h1, if_neg h1]
  obtain ⟨r, hr⟩ : ∃ r, (ofD lo hi b).1 = r := ⟨_, rfl⟩
  obtain ⟨b2, hb2⟩ : ∃ r, (ofD lo hi b).2 = r := ⟨_, rfl⟩
  rw [hr, hb2]
  refine W_seq fun kz1 kq1 => ?_
  refine W_region [0, 3] fun R hR => ?_   -- r0
  simp only [go_sem, ldS_at hd, stX_at hd, ldS_sv hlt, stX_sv hlt, sv_ext hlt, sv_ext_sv hlt, hk, hb1]
  refine hR _ _ (kq1 _ _ ?_); clear hR R; try clear kq1 kz1
  try simp only [go_sem, ldS_at hd, stX_at hd, ldS_sv hlt, stX_sv hlt, sv_ext hlt, sv_ext_sv hlt, hk, hb1]
  refine W_seq fun kz2 kq2 => ?_
  refine W_seq fun kz3 kq3 => ?_
  refine W_region [0, 3, 6] fun R hR => ?_   -- r1
  simp only [go_sem, ldS_at hd, stX_at hd, ldS_sv hlt, stX_sv hlt, sv_ext hlt, sv_ext_sv hlt, hk, hb1]
  refine GCall_of (Roll_pc Y _ _ _ (by first | exact hd | exact sv_get hlt | exact get_svx hlt | exact get_extx hd) 4 (by omega)) ?_   -- t6
  simp only [go_sem, ldS_at hd, stX_at hd, ldS_sv hlt, stX_sv hlt, sv_ext hlt, sv_ext_sv hlt, hk, hb1]
  refine hR _ _ (kq3 _ _ ?_); clear hR R; try clear kq3 kz3
  try simp only [go_sem, ldS_at hd, stX_at hd, ldS_sv hlt, stX_sv hlt, sv_ext hlt, sv_ext_sv hlt, hk, hb1]
  refine W_block ?_
  refine W_seq fun kz4 kq4 => ?_
  refine W_region [0, 3, 6, 7] fun R hR => ?_   -- r2
  simp only [go_sem, ldS_at hd, stX_at hd, ldS_sv hlt, stX_sv hlt, sv_ext hlt, sv_ext_sv hlt, hk, hb1]
  refine hR _ _ (kq4 _ _ ?_); clear hR R; try clear kq4 kz4
  try simp only [go_sem, ldS_at hd, stX_at hd, ldS_sv hlt, stX_sv hlt, sv_ext hlt, sv_ext_sv hlt, hk, hb1]
  refine W_cond rfl (fun c1 => ?_) (fun c1 => ?_)
  · -- c1 true
    try simp only [nrm] at c1
    obtain ⟨rfl, rfl⟩ : r = lo ∧ b2 = b1 := by rw [← hr, ← hb2, e, if_pos c1]; exact ⟨rfl, rfl⟩
    refine W_seq fun kz5 kq5 => ?_
    refine W_region [4] fun R hR => ?_   -- r3
    simp only [go_sem, ldS_at hd, stX_at hd, ldS_sv hlt, stX_sv hlt, sv_ext hlt, sv_ext_sv hlt, hk, hb1]
    refine hR _ _ (kq5 _ _ ?_); clear hR R; try clear kq5 kz5
    try simp only [go_sem, ldS_at hd, stX_at hd, ldS_sv hlt, stX_sv hlt, sv_ext hlt, sv_ext_sv hlt, hk, hb1]
    refine W_ret ?_
    simp only [go_sem, ldS_at hd, stX_at hd, ldS_sv hlt, stX_sv hlt, sv_ext hlt, sv_ext_sv hlt, hk, hb1]
    refine ⟨.inr (by trivial), ?_⟩
    first | refine Fin_set hcl (by simp only [go_sem]) rfl (Wk_eq ?_ (by simp only [go_sem])) | refine Fin_set0 hcl (by simp only [go_sem]) rfl (Wk_eq ?_ (by simp only [go_sem]))
    try simp only [go_sem]
    all_goals
      first | rfl | (simp_all; done) | (simp_all; omega)
  · -- c1 false
    try simp only [nrm] at c1
    refine W_seq fun kz6 kq6 => ?_
    refine W_region [0, 3, 11] fun R hR => ?_   -- r4
    simp only [go_sem, ldS_at hd, stX_at hd, ldS_sv hlt, stX_sv hlt, sv_ext hlt, sv_ext_sv hlt, hk, hb1]
    refine hR _ _ (kq6 _ _ ?_); clear hR R; try clear kq6 kz6
    try simp only [go_sem, ldS_at hd, stX_at hd, ldS_sv hlt, stX_sv hlt, sv_ext hlt, sv_ext_sv hlt, hk, hb1]
    refine W_cond rfl (fun c2 => ?_) (fun c2 => ?_)
    · -- c2 true
      try simp only [nrm] at c2
      obtain ⟨rfl, rfl⟩ : r = hi ∧ b2 = b1 := by rw [← hr, ← hb2, e, if_neg c1, if_pos c2]; exact ⟨rfl, rfl⟩
      refine W_seq fun kz7 kq7 => ?_
      refine W_region [4] fun R hR => ?_   -- r5
      simp only [go_sem, ldS_at hd, stX_at hd, ldS_sv hlt, stX_sv hlt, sv_ext hlt, sv_ext_sv hlt, hk, hb1]
      refine hR _ _ (kq7 _ _ ?_); clear hR R; try clear kq7 kz7
      try simp only [go_sem, ldS_at hd, stX_at hd, ldS_sv hlt, stX_sv hlt, sv_ext hlt, sv_ext_sv hlt, hk, hb1]
      refine W_ret ?_
      simp only [go_sem, ldS_at hd, stX_at hd, ldS_sv hlt, stX_sv hlt, sv_ext hlt, sv_ext_sv hlt, hk, hb1]
      refine ⟨.inr (by trivial), ?_⟩
      first | refine Fin_set hcl (by simp only [go_sem]) rfl (Wk_eq ?_ (by simp only [go_sem])) | refine Fin_set0 hcl (by simp only [go_sem]) rfl (Wk_eq ?_ (by simp only [go_sem]))
      try simp only [go_sem]
      all_goals
        first | rfl | (simp_all; done) | (simp_all; omega)
    · -- c2 false
      try simp only [nrm] at c2
      obtain ⟨rfl, rfl⟩ : r = (mid lo hi b1).1 ∧ b2 = (mid lo hi b1).2 := by rw [← hr, ← hb2, e, if_neg c1, if_neg c2]; exact ⟨rfl, rfl⟩
      refine W_skip (kq2 _ _ ?_)
      refine W_seq fun kz8 kq8 => ?_
      refine W_region [4] fun R hR => ?_   -- r6
      simp only [go_sem, ldS_at hd, stX_at hd, ldS_sv hlt, stX_sv hlt, sv_ext hlt, sv_ext_sv hlt, hk, hb1]
      refine GCall_of (Mid_pc Y _ _ _ (by first | exact hd | exact sv_get hlt | exact get_svx hlt | exact get_extx hd) lo hi (by omega) (by omega) (by omega) (by omega)) ?_   -- t20
      simp only [go_sem, ldS_at hd, stX_at hd, ldS_sv hlt, stX_sv hlt, sv_ext hlt, sv_ext_sv hlt, hk, hb1]
      refine hR _ _ (kq8 _ _ ?_); clear hR R; try clear kq8 kz8
      try simp only [go_sem, ldS_at hd, stX_at hd, ldS_sv hlt, stX_sv hlt, sv_ext hlt, sv_ext_sv hlt, hk, hb1]
      refine W_ret ?_
      simp only [go_sem, ldS_at hd, stX_at hd, ldS_sv hlt, stX_sv hlt, sv_ext hlt, sv_ext_sv hlt, hk, hb1]
      refine ⟨.inr (by trivial), ?_⟩
      first | refine Fin_set hcl (by simp only [go_sem]) rfl (Wk_eq ?_ (by simp only [go_sem])) | refine Fin_set0 hcl (by simp only [go_sem]) rfl (Wk_eq ?_ (by simp only [go_sem]))
      try simp only [go_sem]
      all_goals
        first | rfl | (simp_all; done) | (simp_all; omega)
end Go.Proofs.Ytnpamcpoaklgeaa
namespace Go.Proofs.Ytnpamcpoaklgeaa
open Go Go.RowKit
theorem clashOf_cases (c : City) (b : Band) : ∀ w : List Band, (clashOf c b w = 0 ∧ ∀ x, x ∈ w → crossVal c b x = 2) ∨ (clashOf c b w = 10 ∧ ∃ x, x ∈ w ∧ crossVal c b x ≠ 2) := by
  intro w
  induction w with
  | nil => exact .inl ⟨rfl, fun x h => by cases h⟩
  | cons a w ih =>
    simp only [clashOf]
    by_cases h : crossVal c b a ≠ 2
    · rw [if_pos h]; exact .inr ⟨rfl, a, by simp, h⟩
    · rw [if_neg h]
      have h : crossVal c b a = 2 := by simpa using h
      rcases ih with ⟨h1, h2⟩ | ⟨h1, x, h2, h3⟩
      · refine .inl ⟨h1, fun x hx => ?_⟩
        rcases List.mem_cons.1 hx with rfl | hx
        · exact h
        · exact h2 x hx
      · exact .inr ⟨h1, x, by simp [h2], h3⟩
theorem overL_cases (c : City) (b : Band) : ∀ l : List Int, (overL c b l = 0 ∧ ∀ s, s ∈ l → b.people ≤ (c.town.rooms[s.toNat]?).getD 0) ∨ (overL c b l = 13 ∧ ∃ s, s ∈ l ∧ (c.town.rooms[s.toNat]?).getD 0 < b.people) := by
  intro l
  induction l with
  | nil => exact .inl ⟨rfl, fun x h => by cases h⟩
  | cons a l ih =>
    simp only [overL]
    by_cases h : (c.town.rooms[a.toNat]?).getD 0 < b.people
    · rw [if_pos h]; exact .inr ⟨rfl, a, by simp, h⟩
    · rw [if_neg h]
      rcases ih with ⟨h1, h2⟩ | ⟨h1, x, h2, h3⟩
      · refine .inl ⟨h1, fun x hx => ?_⟩
        rcases List.mem_cons.1 hx with rfl | hx
        · omega
        · exact h2 x hx
      · exact .inr ⟨h1, x, by simp [h2], h3⟩
theorem awkL_cases (c : City) (l : List Band) : ∀ (s : List Int) (k : Nat), (awkL c l k s = 0 ∧ ∀ (i : Nat) (o : Int), s[i]? = some o → o ≤ (sleepOf (loudAt c l ((k + i : Nat) : Int))).2) ∨ (awkL c l k s = 11 ∧ ∃ (i : Nat) (o : Int), s[i]? = some o ∧ (sleepOf (loudAt c l ((k + i : Nat) : Int))).2 < o) := by
  intro s
  induction s with
  | nil => intro k; exact .inl ⟨rfl, fun i o h => by simp at h⟩
  | cons a s ih =>
    intro k
    simp only [awkL]
    by_cases h : (sleepOf (loudAt c l k)).2 < a
    · rw [if_pos h]; exact .inr ⟨rfl, 0, a, rfl, h⟩
    · rw [if_neg h]
      rcases ih (k + 1) with ⟨h1, h2⟩ | ⟨h1, i, o, h2, h3⟩
      · refine .inl ⟨h1, fun i o hi => ?_⟩
        cases i with
        | zero =>
          simp only [List.getElem?_cons_zero, Option.some.injEq] at hi
          subst hi
          simp only [Nat.add_zero]
          omega
        | succ i =>
          have := h2 i o (by simpa using hi)
          rw [show k + (i + 1) = k + 1 + i by omega]
          exact this
      · refine .inr ⟨h1, i + 1, o, by simpa using h2, ?_⟩
        rw [show k + (i + 1) = k + 1 + i by omega]
        exact h3
/-- When a request is granted. -/
structure Fits (c : City) (w : List Band) (b : Band) : Prop where
  cross : ∀ x, x ∈ w → crossVal c b x = 2
  room : ∀ s, s ∈ (sqs c b).1 → b.people ≤ (c.town.rooms[s.toNat]?).getD 0
  sleep : ∀ (i : Nat) (o : Int), c.sleep[i]? = some o → o ≤ (sleepOf (loudAt c (w ++ [b]) (i : Int))).2
theorem reqOf_cases (c : City) (w : List Band) (b : Band) : (reqOf c w b = 0 ∧ Fits c w b) ∨ (reqOf c w b = 10 ∧ ∃ x, x ∈ w ∧ crossVal c b x ≠ 2) ∨ (reqOf c w b = 13 ∧ (∀ x, x ∈ w → crossVal c b x = 2) ∧ ∃ s, s ∈ (sqs c b).1 ∧ (c.town.rooms[s.toNat]?).getD 0 < b.people) ∨
    (reqOf c w b = 11 ∧ (∀ x, x ∈ w → crossVal c b x = 2) ∧ (∀ s, s ∈ (sqs c b).1 → b.people ≤ (c.town.rooms[s.toNat]?).getD 0) ∧ ∃ (i : Nat) (o : Int), c.sleep[i]? = some o ∧ (sleepOf (loudAt c (w ++ [b]) (i : Int))).2 < o) := by
  unfold reqOf
  simp only [firstOf]
  rcases clashOf_cases c b w with ⟨h1, h2⟩ | ⟨h1, x, h2, h3⟩
  · rw [if_neg (by rw [h1]; simp)]
    have ho : overOf c b = overL c b (sqs c b).1 := rfl
    rcases overL_cases c b (sqs c b).1 with ⟨k1, k2⟩ | ⟨k1, s, k2, k3⟩
    · rw [if_neg (by rw [ho, k1]; simp)]
      have ha : awkOf c (w ++ [b]) = awkL c (w ++ [b]) 0 c.sleep := rfl
      rcases awkL_cases c (w ++ [b]) c.sleep 0 with ⟨m1, m2⟩ | ⟨m1, i, o, m2, m3⟩
      · rw [if_neg (by rw [ha, m1]; simp)]
        exact .inl ⟨rfl, h2, k2, fun i o hi => by have := m2 i o hi; simpa using this⟩
      · rw [if_pos (by rw [ha, m1]; simp), ha, m1]
        exact .inr (.inr (.inr ⟨rfl, h2, k2, i, o, m2, by simpa using m3⟩))
    · rw [if_pos (by rw [ho, k1]; simp), ho, k1]
      exact .inr (.inr (.inl ⟨rfl, h2, s, k2, k3⟩))
  · rw [if_pos (by rw [h1]; simp), h1]
    exact .inr (.inl ⟨rfl, x, h2, h3⟩)
theorem reqOf_zero {c : City} {w : List Band} {b : Band} : reqOf c w b = 0 ↔ Fits c w b := by
  rcases reqOf_cases c w b with ⟨h, k⟩ | ⟨h, x, k1, k2⟩ | ⟨h, k, s, k1, k2⟩ | ⟨h, k, k', i, o, k1, k2⟩
  · exact ⟨fun _ => k, fun _ => h⟩
  · exact ⟨fun h' => (by omega), fun f => absurd (f.cross x k1) k2⟩
  · exact ⟨fun h' => (by omega), fun f => by have := f.room s k1; omega⟩
  · exact ⟨fun h' => (by omega), fun f => by have := f.sleep i o k1; omega⟩
theorem askedOf_of {c : City} {l : List Band} (h1 : chkCity c = 0) (h3 : ∀ b, b ∈ l → chkBand c b = 0) : askedOf c l = 0 := by
  unfold askedOf
  rw [if_neg (by rw [h1]; simp), chkBands_of h3]
end Go.Proofs.Ytnpamcpoaklgeaa
namespace Go.Proofs.Ytnpamcpoaklgeaa
open Go Go.RowKit
set_option maxRecDepth 100000
end Go.Proofs.Ytnpamcpoaklgeaa
namespace Go.Proofs.Ytnpamcpoaklgeaa
open Go Go.RowKit
def bandsAt (l : List Band) (ms : List Nat) : List Band := ms.filterMap fun i => l[i]?
end Go.Proofs.Ytnpamcpoaklgeaa
namespace Go.Proofs.Ytnpamcpoaklgeaa
open Go Go.RowKit
theorem slStep_val (f : Int → Bool) (t : Nat) (s : Int × Int × Int) : (slStep f t s).2.1 = max s.2.1 (if f t then 0 else s.2.2 + 1) ∧ (slStep f t s).2.2 = (if f t then 0 else s.2.2 + 1) := by
  unfold slStep
  generalize (if f t then 0 else s.2.2 + 1) = r
  split
  · exact ⟨by dsimp only; omega, rfl⟩
  · exact ⟨by dsimp only; omega, rfl⟩
theorem slRun_mono {f g : Int → Bool} (h : ∀ t, f t = true → g t = true) : ∀ t : Nat, (slRun g t).2.1 ≤ (slRun f t).2.1 ∧ (slRun g t).2.2 ≤ (slRun f t).2.2 := by
  intro t
  induction t with
  | zero => exact ⟨Int.le_refl _, Int.le_refl _⟩
  | succ t ih =>
    obtain ⟨h1, h2⟩ := ih
    have b1 := slRun_bd f t
    have b2 := slRun_bd g t
    have hr : (if g t then 0 else (slRun g t).2.2 + 1) ≤ (if f t then 0 else (slRun f t).2.2 + 1) := by
      by_cases hf : f t = true
      · rw [if_pos hf, if_pos (h _ hf)]; exact Int.le_refl _
      · rw [if_neg hf]
        by_cases hg : g t = true
        · rw [if_pos hg]; omega
        · rw [if_neg hg]; omega
    simp only [slRun]
    obtain ⟨v1, v2⟩ := slStep_val f t (slRun f t)
    obtain ⟨v3, v4⟩ := slStep_val g t (slRun g t)
    rw [v1, v2, v3, v4]
    exact ⟨by omega, hr⟩
theorem sleep_mono {f g : Int → Bool} (h : ∀ t, f t = true → g t = true) : (sleepOf g).2 ≤ (sleepOf f).2 := (slRun_mono h 720).1
theorem slRun_free {f : Int → Bool} (h : ∀ t, f t = false) : ∀ t : Nat, (slRun f t).2.1 = t ∧ (slRun f t).2.2 = t := by
  intro t
  induction t with
  | zero => exact ⟨rfl, rfl⟩
  | succ t ih =>
    obtain ⟨h1, h2⟩ := ih
    simp only [slRun, slStep, h, Bool.false_eq_true, if_false, h1, h2]
    rw [if_pos (by omega)]
    exact ⟨by dsimp only; omega, by dsimp only; omega⟩
theorem sleep_free {f : Int → Bool} (h : ∀ t, f t = false) : (sleepOf f).2 = 720 := by
  have e := (slRun_free h 720).1
  have e2 : ((720 : Nat) : Int) = 720 := rfl
  rw [e2] at e
  exact e
theorem loud_nil (c : City) (sq t : Int) : loudAt c [] sq t = false := rfl
theorem loud_sub {c : City} {l m : List Band} {sq : Int} (h : ∀ b, b ∈ l → b ∈ m) (t : Int) (hl : loudAt c l sq t = true) : loudAt c m sq t = true := by
  unfold loudAt at hl ⊢
  rw [List.any_eq_true] at hl ⊢
  obtain ⟨b, h1, h2⟩ := hl
  exact ⟨b, h b h1, h2⟩
theorem awk_nil {c : City} (hk : chkCity c = 0) : awkOf c [] = 0 := by
  have hs : ∀ n, n ∈ c.sleep → n ≤ 720 := by
    intro n hn
    unfold chkCity at hk
    split at hk
    · rename_i h; exact absurd hk h
    · split at hk
      · cases hk
      · split at hk
        · cases hk
        · split at hk
          · cases hk
          · rename_i h
            rw [Bool.not_eq_true, List.any_eq_false] at h
            have := h n hn
            simp [inR] at this; omega
  rcases awkL_cases c [] c.sleep 0 with ⟨h1, _⟩ | ⟨_, i, o, h2, h3⟩
  · exact h1
  · have := hs o (List.mem_of_getElem? h2)
    have := sleep_free (f := loudAt c [] ((0 + i : Nat) : Int)) (loud_nil c _)
    omega
/-- The choice E goes on from the choice C, with members from n on, each granted in turn. -/
inductive Reach (c : City) (l : List Band) : Nat → List Nat → List Nat → Prop where
  | here (n : Nat) (C : List Nat) : Reach c l n C C
  | more (n : Nat) (C E : List Nat) (k : Nat) (b : Band) (h1 : n ≤ k) (h2 : l[k]? = some b) (h3 : reqOf c (bandsAt l C) b = 0) (h4 : Reach c l (k + 1) (C ++ [k]) E) : Reach c l n C E
section
variable {c : City} {l : List Band}
end
end Go.Proofs.Ytnpamcpoaklgeaa
namespace Go.Proofs.Ytnpamcpoaklgeaa
open Go Go.RowKit
theorem idx_uniq {d s : Int} {i j : Nat} (hs : 1 ≤ s) (h1 : (i : Int) * s ≤ d) (h2 : d < (i : Int) * s + s) (h3 : (j : Int) * s ≤ d) (h4 : d < (j : Int) * s + s) : i = j := by
  rcases Nat.lt_trichotomy i j with h | h | h
  · have := Int.mul_le_mul_of_nonneg_right (show (i : Int) + 1 ≤ (j : Int) by omega) (show 0 ≤ s by omega)
    rw [Int.add_mul, Int.one_mul] at this
    omega
  · exact h
  · have := Int.mul_le_mul_of_nonneg_right (show (j : Int) + 1 ≤ (i : Int) by omega) (show 0 ≤ s by omega)
    rw [Int.add_mul, Int.one_mul] at this
    omega
end Go.Proofs.Ytnpamcpoaklgeaa
namespace Go.Proofs.Ytnpamcpoaklgeaa
open Go Go.RowKit
set_option maxRecDepth 100000
def has (l : List Int) (v : Int) : Bool := l.any fun x => decide (x = v)
theorem has_iff {l : List Int} {v : Int} : has l v = true ↔ v ∈ l := by simp [has]
theorem has_cons {x v : Int} {l : List Int} : has (x :: l) v = (decide (x = v) || has l v) := rfl
theorem has_nil {v : Int} : has [] v = false := rfl
set_option maxHeartbeats 2000000 in
theorem Index_pc (Y : YEnv) (σ : Sg) (l : List Int) (v : Int) (o : Own) (hl : l.length < 2 ^ 62) :
    PC Try.prog Y 120 [intsO o l, I v] σ (I (fIdx (fun x => decide (v = x)) 0 l)) (σ) := by
  refine PC_of_W Try.func120 rfl (by kernel_rfl) Try.ntmps120 (by simp) fun hcl hca => ?_
  obtain ⟨res, hres⟩ : ∃ r, fIdx (fun x => decide (v = x)) 0 l = r := ⟨_, rfl⟩
  rw [hres]
  refine W_seq fun kz1 kq1 => ?_
  refine W_region [0, 1] fun R hR => ?_   -- r0
  simp only [go_sem]
  refine hR _ _ (kq1 _ _ ?_); clear hR R; try clear kq1 kz1
  try simp only [go_sem]
  refine W_seq fun kz2 kq2 => ?_
  refine W_seq fun kz3 kq3 => ?_
  refine W_region [0, 1, 7, 8] fun R hR => ?_   -- r1
  simp only [go_sem]
  refine hR _ _ (kq3 _ _ ?_); clear hR R; try clear kq3 kz3
  try simp only [go_sem]
  refine W_block ?_
  refine W_loopS (α := Nat) (fun (i : Nat) => [(8, I i)]) (fun (i : Nat) => i ≤ l.length ∧ res = fIdx (fun x => decide (v = x)) i (l.drop i)) (fun (i : Nat) => l.length - i) (0) rfl (⟨Nat.zero_le _, hres.symm⟩) ?_
  rintro i ⟨hi, hinv⟩
  refine W_seq fun kz4 kq4 => ?_
  refine W_region [0, 1, 7, 8, 9] fun R hR => ?_   -- r2
  simp only [go_sem]
  refine hR _ _ (kq4 _ _ ?_); clear hR R; try clear kq4 kz4
  try simp only [go_sem]
  refine W_seq fun kz5 kq5 => ?_
  refine W_cond rfl (fun c1 => ?_) (fun c1 => ?_)
  · -- c1 true
    try simp only [nrm] at c1
    have hi' : i < l.length := by first | assumption | omega
    obtain ⟨x, hx⟩ : ∃ x, l[i]? = some x := ⟨l[i], by simp [hi']⟩
    have hdrop : l.drop i = x :: l.drop (i + 1) := by
      rw [List.drop_eq_getElem_cons hi']; congr 1; exact (List.getElem?_eq_some_iff.1 hx).2
    rw [hdrop] at hinv
    simp only [fIdx] at hinv
    refine W_skip (kq5 _ _ ?_)
    refine W_seq fun kz6 kq6 => ?_
    refine W_block ?_
    refine W_seq fun kz7 kq7 => ?_
    refine W_region [0, 1, 5, 7, 8] fun R hR => ?_   -- r3
    simp only [go_sem, hx]
    refine hR _ _ (kq7 _ _ ?_); clear hR R; try clear kq7 kz7
    try simp only [go_sem, hx]
    refine W_seq fun kz8 kq8 => ?_
    refine W_region [0, 1, 5, 7, 8, 16] fun R hR => ?_   -- r4
    simp only [go_sem, hx]
    refine hR _ _ (kq8 _ _ ?_); clear hR R; try clear kq8 kz8
    try simp only [go_sem, hx]
    refine W_cond rfl (fun c2 => ?_) (fun c2 => ?_)
    · -- c2 true
      try simp only [nrm] at c2
      refine W_seq fun kz9 kq9 => ?_
      refine W_region [4] fun R hR => ?_   -- r5
      simp only [go_sem, hx]
      refine hR _ _ (kq9 _ _ ?_); clear hR R; try clear kq9 kz9
      try simp only [go_sem, hx]
      refine W_ret ?_
      simp only [go_sem, hx]
      refine ⟨.inr (by trivial), ?_⟩
      first | refine Fin_same hcl rfl (Wk_eq ?_ (by simp only [go_sem])) | refine Fin_self hcl rfl (Wk_eq ?_ (by simp only [go_sem]))
      try simp only [go_sem]
      all_goals
        first | rfl | (simp_all; done) | (simp_all; omega)
    · -- c2 false
      try simp only [nrm] at c2
      refine W_skip (kq6 _ _ ?_)
      refine W_region [0, 1, 7, 8] fun R hR => ?_   -- r6
      simp only [go_sem, hx]
      try simp (disch := omega) only [wrapI, wrapU]
      refine hR _ _ ?_; clear hR R
      try simp only [go_sem, hx]
      refine ⟨i + 1, ?_, by (try simp only []); omega, ?_⟩
      · first | exact Weak.refl | exact Weak.eq (by first | rfl | (simp only [go_sem]; done) | (simp only [go_sem]; rfl) | (simp [go_sem]; done) | (simp [go_sem]; omega)) (by first | rfl | (simp only [go_sem]; done) | (simp [go_sem]; done))
      · try dsimp only
        exact ⟨hi', by simp_all⟩
  · -- c1 false
    try simp only [nrm] at c1
    have hdrop : l.drop i = [] := List.drop_eq_nil_of_le (by omega)
    rw [hdrop] at hinv
    simp only [fIdx] at hinv
    refine W_exit ?_
    simp only [go_sem]
    refine kq2 _ _ ?_
    refine W_seq fun kz10 kq10 => ?_
    refine W_region [4] fun R hR => ?_   -- r7
    simp only [go_sem]
    refine hR _ _ (kq10 _ _ ?_); clear hR R; try clear kq10 kz10
    try simp only [go_sem]
    refine W_ret ?_
    simp only [go_sem]
    refine ⟨.inr (by trivial), ?_⟩
    first | refine Fin_same hcl rfl (Wk_eq ?_ (by simp only [go_sem])) | refine Fin_self hcl rfl (Wk_eq ?_ (by simp only [go_sem]))
    try simp only [go_sem]
    all_goals
      first | rfl | (simp_all; done) | (simp_all; omega)
set_option maxHeartbeats 2000000 in
theorem rhas_pc (Y : YEnv) (σ : Sg) (l : List Int) (v : Int) (o : Own) (hl : l.length < 2 ^ 62) :
    PC Try.prog Y 87 [intsO o l, I v] σ (.bool (has l v)) (σ) := by
  refine PC_of_W Try.func87 rfl (by kernel_rfl) Try.ntmps87 (by simp) fun hcl hca => ?_
  obtain ⟨res, hres⟩ : ∃ r, has l v = r := ⟨_, rfl⟩
  rw [hres]
  refine W_seq fun kz1 kq1 => ?_
  refine W_region [0, 1] fun R hR => ?_   -- r0
  simp only [go_sem]
  refine hR _ _ (kq1 _ _ ?_); clear hR R; try clear kq1 kz1
  try simp only [go_sem]
  refine W_seq fun kz2 kq2 => ?_
  refine W_seq fun kz3 kq3 => ?_
  refine W_region [0, 1, 5] fun R hR => ?_   -- r1
  simp only [go_sem]
  refine hR _ _ (kq3 _ _ ?_); clear hR R; try clear kq3 kz3
  try simp only [go_sem]
  refine W_block ?_
  refine W_loopS (α := Nat) (fun (i : Nat) => [(5, I i)]) (fun (i : Nat) => i ≤ l.length ∧ res = has (l.drop i) v) (fun (i : Nat) => l.length - i) (0) rfl (⟨Nat.zero_le _, hres.symm⟩) ?_
  rintro i ⟨hi, hinv⟩
  refine W_seq fun kz4 kq4 => ?_
  refine W_seq fun kz5 kq5 => ?_
  refine W_region [0, 1, 5, 9] fun R hR => ?_   -- r2
  simp only [go_sem]
  refine hR _ _ (kq5 _ _ ?_); clear hR R; try clear kq5 kz5
  try simp only [go_sem]
  refine W_cond rfl (fun c1 => ?_) (fun c1 => ?_)
  · -- c1 true
    try simp only [nrm] at c1
    have hi' : i < l.length := by first | assumption | omega
    obtain ⟨x, hx⟩ : ∃ x, l[i]? = some x := ⟨l[i], by simp [hi']⟩
    have hdrop : l.drop i = x :: l.drop (i + 1) := by
      rw [List.drop_eq_getElem_cons hi']; congr 1; exact (List.getElem?_eq_some_iff.1 hx).2
    rw [hdrop, has_cons] at hinv
    refine W_skip (kq4 _ _ ?_)
    refine W_seq fun kz6 kq6 => ?_
    refine W_block ?_
    refine W_seq fun kz7 kq7 => ?_
    refine W_region [0, 1, 5, 17] fun R hR => ?_   -- r4
    simp only [go_sem, hx]
    refine hR _ _ (kq7 _ _ ?_); clear hR R; try clear kq7 kz7
    try simp only [go_sem, hx]
    refine W_cond rfl (fun c2 => ?_) (fun c2 => ?_)
    · -- c2 true
      try simp only [nrm] at c2
      refine W_seq fun kz8 kq8 => ?_
      refine W_region [4] fun R hR => ?_   -- r5
      simp only [go_sem, hx]
      refine hR _ _ (kq8 _ _ ?_); clear hR R; try clear kq8 kz8
      try simp only [go_sem, hx]
      refine W_ret ?_
      simp only [go_sem, hx]
      refine ⟨.inr (by trivial), ?_⟩
      first | refine Fin_same hcl rfl (Wk_eq ?_ (by simp only [go_sem])) | refine Fin_self hcl rfl (Wk_eq ?_ (by simp only [go_sem]))
      try simp only [go_sem]
      all_goals
        first | rfl | (simp_all; done) | (simp_all; omega)
    · -- c2 false
      try simp only [nrm] at c2
      refine W_skip (kq6 _ _ ?_)
      refine W_region [0, 1, 5] fun R hR => ?_   -- r3
      simp only [go_sem, hx]
      try simp (disch := omega) only [wrapI, wrapU]
      refine hR _ _ ?_; clear hR R
      try simp only [go_sem, hx]
      refine ⟨i + 1, ?_, by (try simp only []); omega, ?_⟩
      · first | exact Weak.refl | exact Weak.eq (by first | rfl | (simp only [go_sem]; done) | (simp only [go_sem]; rfl) | (simp [go_sem]; done) | (simp [go_sem]; omega)) (by first | rfl | (simp only [go_sem]; done) | (simp [go_sem]; done))
      · try dsimp only
        exact ⟨hi', by simp_all⟩
  · -- c1 false
    try simp only [nrm] at c1
    have hdrop : l.drop i = [] := List.drop_eq_nil_of_le (by omega)
    rw [hdrop, has_nil] at hinv
    refine W_exit ?_
    simp only [go_sem]
    refine kq2 _ _ ?_
    refine W_seq fun kz9 kq9 => ?_
    refine W_region [4] fun R hR => ?_   -- r6
    simp only [go_sem]
    refine hR _ _ (kq9 _ _ ?_); clear hR R; try clear kq9 kz9
    try simp only [go_sem]
    refine W_ret ?_
    simp only [go_sem]
    refine ⟨.inr (by trivial), ?_⟩
    first | refine Fin_same hcl rfl (Wk_eq ?_ (by simp only [go_sem])) | refine Fin_self hcl rfl (Wk_eq ?_ (by simp only [go_sem]))
    try simp only [go_sem]
    all_goals
      first | rfl | (simp_all; done) | (simp_all; omega)
set_option maxHeartbeats 2000000 in
theorem Has_pc (Y : YEnv) (σ : Sg) (l : List Int) (v : Int) (o : Own) (hl : l.length < 2 ^ 62) :
    PC Try.prog Y 48 [intsO o l, I v] σ (.bool (has l v)) (σ) := by
  refine PC_of_W Try.func48 rfl (by kernel_rfl) Try.ntmps48 (by simp) fun hcl hca => ?_
  obtain ⟨res, hres⟩ : ∃ r, has l v = r := ⟨_, rfl⟩
  rw [hres]
  refine W_seq fun kz1 kq1 => ?_
  refine W_region [0, 1] fun R hR => ?_   -- r0
  simp only [go_sem]
  refine hR _ _ (kq1 _ _ ?_); clear hR R; try clear kq1 kz1
  try simp only [go_sem]
  refine W_seq fun kz2 kq2 => ?_
  refine W_seq fun kz3 kq3 => ?_
  refine W_region [0, 1, 5] fun R hR => ?_   -- r1
  simp only [go_sem]
  refine hR _ _ (kq3 _ _ ?_); clear hR R; try clear kq3 kz3
  try simp only [go_sem]
  refine W_block ?_
  refine W_loopS (α := Nat) (fun (i : Nat) => [(5, I i)]) (fun (i : Nat) => i ≤ l.length ∧ res = has (l.drop i) v) (fun (i : Nat) => l.length - i) (0) rfl (⟨Nat.zero_le _, hres.symm⟩) ?_
  rintro i ⟨hi, hinv⟩
  refine W_seq fun kz4 kq4 => ?_
  refine W_seq fun kz5 kq5 => ?_
  refine W_region [0, 1, 5, 9] fun R hR => ?_   -- r2
  simp only [go_sem]
  refine hR _ _ (kq5 _ _ ?_); clear hR R; try clear kq5 kz5
  try simp only [go_sem]
  refine W_cond rfl (fun c1 => ?_) (fun c1 => ?_)
  · -- c1 true
    try simp only [nrm] at c1
    have hi' : i < l.length := by first | assumption | omega
    obtain ⟨x, hx⟩ : ∃ x, l[i]? = some x := ⟨l[i], by simp [hi']⟩
    have hdrop : l.drop i = x :: l.drop (i + 1) := by
      rw [List.drop_eq_getElem_cons hi']; congr 1; exact (List.getElem?_eq_some_iff.1 hx).2
    rw [hdrop, has_cons] at hinv
    refine W_skip (kq4 _ _ ?_)
    refine W_seq fun kz6 kq6 => ?_
    refine W_block ?_
    refine W_seq fun kz7 kq7 => ?_
    refine W_region [0, 1, 5, 17] fun R hR => ?_   -- r4
    simp only [go_sem, hx]
    refine hR _ _ (kq7 _ _ ?_); clear hR R; try clear kq7 kz7
    try simp only [go_sem, hx]
    refine W_cond rfl (fun c2 => ?_) (fun c2 => ?_)
    · -- c2 true
      try simp only [nrm] at c2
      refine W_seq fun kz8 kq8 => ?_
      refine W_region [4] fun R hR => ?_   -- r5
      simp only [go_sem, hx]
      refine hR _ _ (kq8 _ _ ?_); clear hR R; try clear kq8 kz8
      try simp only [go_sem, hx]
      refine W_ret ?_
      simp only [go_sem, hx]
      refine ⟨.inr (by trivial), ?_⟩
      first | refine Fin_same hcl rfl (Wk_eq ?_ (by simp only [go_sem])) | refine Fin_self hcl rfl (Wk_eq ?_ (by simp only [go_sem]))
      try simp only [go_sem]
      all_goals
        first | rfl | (simp_all; done) | (simp_all; omega)
    · -- c2 false
      try simp only [nrm] at c2
      refine W_skip (kq6 _ _ ?_)
      refine W_region [0, 1, 5] fun R hR => ?_   -- r3
      simp only [go_sem, hx]
      try simp (disch := omega) only [wrapI, wrapU]
      refine hR _ _ ?_; clear hR R
      try simp only [go_sem, hx]
      refine ⟨i + 1, ?_, by (try simp only []); omega, ?_⟩
      · first | exact Weak.refl | exact Weak.eq (by first | rfl | (simp only [go_sem]; done) | (simp only [go_sem]; rfl) | (simp [go_sem]; done) | (simp [go_sem]; omega)) (by first | rfl | (simp only [go_sem]; done) | (simp [go_sem]; done))
      · try dsimp only
        exact ⟨hi', by simp_all⟩
  · -- c1 false
    try simp only [nrm] at c1
    have hdrop : l.drop i = [] := List.drop_eq_nil_of_le (by omega)
    rw [hdrop, has_nil] at hinv
    refine W_exit ?_
    simp only [go_sem]
    refine kq2 _ _ ?_
    refine W_seq fun kz9 kq9 => ?_
    refine W_region [4] fun R hR => ?_   -- r6
    simp only [go_sem]
    refine hR _ _ (kq9 _ _ ?_); clear hR R; try clear kq9 kz9
    try simp only [go_sem]
    refine W_ret ?_
    simp only [go_sem]
    refine ⟨.inr (by trivial), ?_⟩
    first | refine Fin_same hcl rfl (Wk_eq ?_ (by simp only [go_sem])) | refine Fin_self hcl rfl (Wk_eq ?_ (by simp only [go_sem]))
    try simp only [go_sem]
    all_goals
      first | rfl | (simp_all; done) | (simp_all; omega)
end Go.Proofs.Ytnpamcpoaklgeaa
namespace Go.Proofs.Ytnpamcpoaklgeaa
set_option maxRecDepth 100000
theorem mem_sortI {x : Int} {l : List Int} : x ∈ sortI l ↔ x ∈ l := (List.mergeSort_perm l _).mem_iff
theorem get_bang {l : List Int} {j : Nat} (h : j < l.length) : l.toArray[j]! = l[j] := by simp [h]
theorem mem_compact {x : Int} {l : List Int} : x ∈ Lib.compact l ↔ x ∈ l := by
  unfold Lib.compact Lib.compactUpTo
  simp only [List.mem_map, List.mem_filter, List.mem_range]
  constructor
  · rintro ⟨j, ⟨hj, _⟩, rfl⟩
    rw [get_bang hj]
    exact List.getElem_mem hj
  · intro h
    obtain ⟨n, hn⟩ := List.mem_iff_getElem?.1 h
    induction n using Nat.strongRecOn with
    | _ n ih =>
      have hlt := (List.getElem?_eq_some_iff.1 hn).1
      have hx := (List.getElem?_eq_some_iff.1 hn).2
      by_cases hk : Lib.keeps l.toArray n = true
      · exact ⟨n, ⟨hlt, hk⟩, by rw [get_bang hlt]; exact hx⟩
      · simp only [Lib.keeps, decide_eq_true_eq, not_or, Decidable.not_not] at hk
        obtain ⟨h0, h1⟩ := hk
        have hlt' : n - 1 < l.length := by omega
        rw [get_bang hlt, get_bang hlt', hx] at h1
        exact ih (n - 1) (by omega) (by rw [List.getElem?_eq_getElem hlt']; congr 1; exact h1.symm)
/-- The band, begun at s, is in the square sq in the minute t. -/
def isAt (c : City) (b : Band) (s t sq : Int) : Prop := ∃ k : Nat, (sqs c b).1[k]? = some sq ∧ s + (k : Int) * b.stay ≤ t ∧ t ≤ s + (k : Int) * b.stay + b.stay - 1
theorem vIdx_none {q : Vis → Bool} : ∀ {l : List Vis} {i : Nat}, vIdx q i l < 0 → ∀ v, v ∈ l → q v = false := by
  intro l
  induction l with
  | nil => intro i _ v hv; cases hv
  | cons x l ih =>
    intro i h v hv
    simp only [vIdx] at h
    by_cases hx : q x = true
    · rw [if_pos hx] at h; omega
    · rw [if_neg hx] at h
      rcases List.mem_cons.1 hv with rfl | hv
      · simpa using hx
      · exact ih h v hv
theorem whAt_neg {c : City} {b : Band} {t s : Int} (h : whAt c b t s < 0) : ¬ ∃ sq, isAt c b s t sq := by
  rintro ⟨sq, k, h1, h2, h3⟩
  have hv := (visOf_get c b s k ⟨s + (k : Int) * b.stay, s + (k : Int) * b.stay + b.stay - 1, sq⟩).2 ⟨sq, h1, rfl⟩
  have := vIdx_none h _ (List.mem_of_getElem? hv)
  simp only [inR] at this
  simp at this
  omega
theorem whAt_pos {c : City} {b : Band} {t s : Int} (hs : 1 ≤ b.stay) (h : ¬ whAt c b t s < 0) : ∃ v, (visOf c b s)[(whAt c b t s).toNat]? = some v ∧ ∀ sq, isAt c b s t sq ↔ sq = v.sq := by
  obtain ⟨v, h1, _, h2⟩ := whAt_get h
  refine ⟨v, h1, fun sq => ?_⟩
  obtain ⟨x, hx, rfl⟩ := (visOf_get c b s _ v).1 h1
  simp only [inR_true] at h2
  constructor
  · rintro ⟨k, g1, g2, g3⟩
    have e := idx_uniq (d := t - s) (i := k) (j := (whAt c b t s).toNat) hs (by omega) (by omega) (by omega) (by omega)
    rw [← e] at hx
    rw [hx] at g1
    injection g1 with g1
    exact g1.symm
  · rintro rfl
    exact ⟨_, hx, h2.1, h2.2⟩
theorem whAll_mem {c : City} {b : Band} {t : Int} (hs : 1 ≤ b.stay) (hb : b.lo ≤ b.hi + 1) (sq : Int) : sq ∈ (whAll c b t).1 ↔ ∃ s, b.lo ≤ s ∧ s ≤ b.hi ∧ isAt c b s t sq := by
  have h := upTo_ind (f := whStep c b t) (lo := b.lo) (fun i p => sq ∈ p.1 ↔ ∃ s, b.lo ≤ s ∧ s < i ∧ isAt c b s t sq) (a := ([], false)) ⟨fun h => (by cases h), fun ⟨s, h1, h2, _⟩ => (by omega)⟩ (fun i p hi hp => by
    have split : (∃ s, b.lo ≤ s ∧ s < i + 1 ∧ isAt c b s t sq) ↔ (∃ s, b.lo ≤ s ∧ s < i ∧ isAt c b s t sq) ∨ isAt c b i t sq := by
      constructor
      · rintro ⟨s, h1, h2, h3⟩
        by_cases e : s = i
        · subst e; exact .inr h3
        · exact .inl ⟨s, h1, by omega, h3⟩
      · rintro (⟨s, h1, h2, h3⟩ | h)
        · exact ⟨s, h1, by omega, h3⟩
        · exact ⟨i, hi, by omega, h⟩
    rw [split, ← hp]
    unfold whStep
    by_cases hw : whAt c b t i < 0
    · rw [if_pos hw]
      exact ⟨.inl, fun h => h.resolve_right fun q => whAt_neg hw ⟨_, q⟩⟩
    · rw [if_neg hw]
      obtain ⟨v, h1, h2⟩ := whAt_pos hs hw
      rw [h1, h2]
      simp) (s := b.hi + 1) hb
  unfold whAll
  rw [h]
  exact ⟨fun ⟨s, h1, h2, h3⟩ => ⟨s, h1, by omega, h3⟩, fun ⟨s, h1, h2, h3⟩ => ⟨s, h1, by omega, h3⟩⟩
theorem where_ok {c : City} {b : Band} {t : Int} (hc : chkCity c = 0) (hb : chkBand c b = 0) (h0 : 0 ≤ t) (h1 : t < 720) : whereAns c b t = ((Lib.compact (sortI (whAll c b t).1), (whAll c b t).2), 0) := by
  unfold whereAns
  have : inR t 0 719 = true := by rw [inR_true]; omega
  rw [if_neg (by rw [askedOf_of hc (fun x hx => by simp at hx; subst hx; exact hb)]; simp), if_neg (by simp [this])]
theorem hFrom_iff (b : Band) (sq t : Int) : ∀ (l : List Int) (k : Nat), hFrom b sq t k l = true ↔ ∃ i : Nat, l[i]? = some sq ∧ b.lo + ((k + i : Nat) : Int) * b.stay ≤ t ∧ t ≤ b.hi + ((k + i : Nat) : Int) * b.stay + b.stay - 1 := by
  intro l
  induction l with
  | nil => intro k; simp [hFrom]
  | cons s r ih =>
    intro k
    simp only [hFrom, Bool.or_eq_true, Bool.and_eq_true, decide_eq_true_eq, ih]
    constructor
    · rintro (⟨⟨rfl, h1⟩, h2⟩ | ⟨i, h1, h2, h3⟩)
      · exact ⟨0, rfl, h1, h2⟩
      · exact ⟨i + 1, by simpa using h1, by rw [show k + (i + 1) = k + 1 + i by omega]; exact h2, by rw [show k + (i + 1) = k + 1 + i by omega]; exact h3⟩
    · rintro ⟨i, h1, h2, h3⟩
      cases i with
      | zero => simp at h1; exact .inl ⟨⟨h1, h2⟩, h3⟩
      | succ i => exact .inr ⟨i, by simpa using h1, by rw [show k + 1 + i = k + (i + 1) by omega]; exact h2, by rw [show k + 1 + i = k + (i + 1) by omega]; exact h3⟩
theorem heard_iff {c : City} {b : Band} (hs : 1 ≤ b.stay) (hb : b.lo ≤ b.hi) (sq t : Int) : heardB c b sq t = true ↔ ∃ s, b.lo ≤ s ∧ s ≤ b.hi ∧ isAt c b s t sq := by
  unfold heardB
  rw [hFrom_iff]
  constructor
  · rintro ⟨k, h1, h2, h3⟩
    rw [Nat.zero_add] at h2 h3
    by_cases e : t - (k : Int) * b.stay ≤ b.hi
    · exact ⟨t - (k : Int) * b.stay, by omega, e, k, h1, by omega, by omega⟩
    · exact ⟨b.hi, hb, Int.le_refl _, k, h1, by omega, h3⟩
  · rintro ⟨s, h1, h2, k, h3, h4, h5⟩
    exact ⟨k, h3, by rw [Nat.zero_add]; omega, by rw [Nat.zero_add]; omega⟩
theorem where_has {c : City} {b : Band} (hc : chkCity c = 0) (hb : chkBand c b = 0) {t : Int} (h0 : 0 ≤ t) (h1 : t < 720) (sq : Int) : has (whereAns c b t).1.1 sq = heardB c b sq t := by
  have htm := timesOf_ok (chkBand_ok hb).2
  rw [where_ok hc hb h0 h1, Bool.eq_iff_iff, has_iff, heard_iff (by omega) (by omega), mem_compact, mem_sortI, whAll_mem (by omega) (by omega)]
/-- The reference's answer. -/
def atFrom (start stay t : Int) : Nat → List Int → Int
  | _, [] => -1
  | k, s :: r => if inR t (start + (k : Int) * stay) (start + ((k : Int) + 1) * stay - 1) then s else atFrom start stay t (k + 1) r
def atB (c : City) (b : Band) (start t : Int) : Int := atFrom start b.stay t 0 (sqs c b).1
theorem atFrom_at (start stay t : Int) : ∀ (l : List Int) (k : Nat), atFrom start stay t k l = -1 ∨ ∃ i : Nat, l[i]? = some (atFrom start stay t k l) ∧ start + ((k + i : Nat) : Int) * stay ≤ t ∧ t ≤ start + ((k + i : Nat) : Int) * stay + stay - 1 := by
  intro l
  induction l with
  | nil => intro k; exact .inl rfl
  | cons s r ih =>
    intro k
    simp only [atFrom]
    by_cases h : inR t (start + (k : Int) * stay) (start + ((k : Int) + 1) * stay - 1) = true
    · rw [if_pos h]
      simp only [inR_true, Int.add_mul, Int.one_mul] at h
      exact .inr ⟨0, rfl, h.1, by have := h.2; simp only [Nat.add_zero]; omega⟩
    · rw [if_neg h]
      rcases ih (k + 1) with g | ⟨i, g1, g2, g3⟩
      · exact .inl g
      · exact .inr ⟨i + 1, by simpa using g1, by rw [show k + (i + 1) = k + 1 + i by omega]; exact g2, by rw [show k + (i + 1) = k + 1 + i by omega]; exact g3⟩
theorem at_heard {c : City} {b : Band} (hs : 1 ≤ b.stay) (hb : b.lo ≤ b.hi) {start t sq : Int} (h1 : b.lo ≤ start) (h2 : start ≤ b.hi) (h0 : 0 ≤ sq) (h : atB c b start t = sq) : heardB c b sq t = true := by
  rw [heard_iff hs hb]
  unfold atB at h
  rcases atFrom_at start b.stay t (sqs c b).1 0 with g | ⟨i, g1, g2, g3⟩
  · omega
  · rw [h] at g1
    rw [Nat.zero_add] at g2 g3
    exact ⟨start, h1, h2, i, g1, g2, g3⟩
structure SI (f : Int → Bool) (t : Nat) : Prop where
  le : ∀ u : Nat, u ≤ t → (slRun f u).2.2 ≤ (slRun f t).2.1
  sil : ∀ u : Int, (slRun f t).1 ≤ u → u < (slRun f t).1 + (slRun f t).2.1 → f u = false
  fst : ∀ u : Nat, u < t → (u : Int) < (slRun f t).1 + (slRun f t).2.1 - 1 → (slRun f (u + 1)).2.2 < (slRun f t).2.1
  fin : (slRun f t).1 + (slRun f t).2.1 ≤ t
  tail : ∀ u : Int, (t : Int) - (slRun f t).2.2 ≤ u → u < t → f u = false
theorem slRun_si (f : Int → Bool) : ∀ t : Nat, SI f t := by
  intro t
  induction t with
  | zero => exact ⟨fun u hu => by (have : u = 0 := by omega); subst this; exact Int.le_refl _, fun u h1 h2 => by simp [slRun] at h1 h2; omega, fun u hu => by omega, by simp [slRun], fun u h1 h2 => by simp [slRun] at h1 h2; omega⟩
  | succ t ih =>
    have hb := slRun_bd f t
    have hr := (slStep_val f t (slRun f t)).2
    have tail' : ∀ u : Int, ((t + 1 : Nat) : Int) - (slRun f (t + 1)).2.2 ≤ u → u < ((t + 1 : Nat) : Int) → f u = false := by
      intro u h1 h2
      have e : (slRun f (t + 1)).2.2 = if f t then 0 else (slRun f t).2.2 + 1 := hr
      rw [e] at h1
      by_cases hf : f t = true
      · rw [if_pos hf] at h1; omega
      · rw [if_neg hf] at h1
        by_cases eu : u = t
        · subst eu; simpa using hf
        · exact ih.tail u (by omega) (by omega)
    have e2 : (slRun f (t + 1)).2.2 = if f t then 0 else (slRun f t).2.2 + 1 := hr
    by_cases hm : (slRun f t).2.1 < (if f t then 0 else (slRun f t).2.2 + 1)
    · have e : slRun f (t + 1) = ((t : Int) - (if f t then 0 else (slRun f t).2.2 + 1) + 1, (if f t then 0 else (slRun f t).2.2 + 1), (if f t then 0 else (slRun f t).2.2 + 1)) := by
        show slStep f t (slRun f t) = _
        unfold slStep
        rw [if_pos hm]
      have e1 : (slRun f (t + 1)).2.1 = (slRun f (t + 1)).2.2 := by rw [e]
      have e0 : (slRun f (t + 1)).1 = (t : Int) - (slRun f (t + 1)).2.2 + 1 := by rw [e]
      rw [← e2] at hm
      refine ⟨fun u hu => ?_, fun u h1 h2 => ?_, fun u hu h1 => ?_, by rw [e0, e1]; omega, tail'⟩
      · rw [e1]
        by_cases eu : u = t + 1
        · subst eu; exact Int.le_refl _
        · have := ih.le u (by omega); omega
      · rw [e0, e1] at h2; rw [e0] at h1
        exact tail' u (by omega) (by omega)
      · rw [e0, e1] at h1
        have := ih.le (u + 1) (by omega)
        rw [e1]; omega
    · have e : slRun f (t + 1) = ((slRun f t).1, (slRun f t).2.1, if f t then 0 else (slRun f t).2.2 + 1) := by
        show slStep f t (slRun f t) = _
        unfold slStep
        rw [if_neg hm]
      have e1 : (slRun f (t + 1)).2.1 = (slRun f t).2.1 := by rw [e]
      have e0 : (slRun f (t + 1)).1 = (slRun f t).1 := by rw [e]
      rw [← e2] at hm
      refine ⟨fun u hu => ?_, fun u h1 h2 => ?_, fun u hu h1 => ?_, by rw [e0, e1]; have := ih.fin; omega, tail'⟩
      · rw [e1]
        by_cases eu : u = t + 1
        · subst eu; omega
        · exact ih.le u (by omega)
      · rw [e0] at h1 h2; rw [e1] at h2
        exact ih.sil u h1 h2
      · rw [e0, e1] at h1
        rw [e1]
        have := ih.fin
        exact ih.fst u (by omega) h1
theorem run_next (f : Int → Bool) (t : Nat) : (slRun f (t + 1)).2.2 = if f t then 0 else (slRun f t).2.2 + 1 := (slStep_val f t (slRun f t)).2
theorem awk_owed {c : City} {l : List Band} (h : awkOf c l = 0) {i : Nat} {o : Int} (hi : c.sleep[i]? = some o) : o ≤ (sleepOf (loudAt c l (i : Int))).2 := by
  rcases awkL_cases c l c.sleep 0 with ⟨_, h2⟩ | ⟨h1, _⟩
  · have := h2 i o hi
    rwa [Nat.zero_add] at this
  · unfold awkOf at h; omega
theorem granted_awk {c : City} : ∀ (l w : List Band), awkOf c w = 0 → awkOf c (w ++ grantedOf l (grantL c w l)) = 0 := by
  intro l
  induction l with
  | nil => intro w h; simpa [grantL, grantedOf] using h
  | cons b l ih =>
    intro w h
    simp only [grantL, grantedOf]
    by_cases hr : reqOf c w b = 0
    · rw [if_pos hr, if_pos hr]
      have hf := (reqOf_zero.1 hr).sleep
      have ha : awkOf c (w ++ [b]) = 0 := by
        rcases awkL_cases c (w ++ [b]) c.sleep 0 with ⟨h1, _⟩ | ⟨_, i, o, h2, h3⟩
        · exact h1
        · have := hf i o h2
          rw [Nat.zero_add] at h3
          omega
      have := ih (w ++ [b]) ha
      simpa using this
    · rw [if_neg hr, if_neg hr]
      exact ih w h
end Go.Proofs.Ytnpamcpoaklgeaa
namespace Go.Proofs.Ytnpamcpoaklgeaa
open Go Go.RowKit
set_option maxRecDepth 100000
theorem atFrom_cons (start stay t s : Int) (k : Nat) (r : List Int) : atFrom start stay t k (s :: r) = if inR t (start + (k : Int) * stay) (start + ((k : Int) * stay + stay) - 1) then s else atFrom start stay t (k + 1) r := by
  simp only [atFrom, Int.add_mul, Int.one_mul]
set_option maxHeartbeats 2000000 in
theorem rAt_pc (Y : YEnv) (σ : Sg) (ct : City) (b : Band) (start t : Int) (hc : ct.Ok) (hb : b.path.length < 2 ^ 50) (h1 : -2 ^ 40 ≤ start) (h2 : start ≤ 2 ^ 40) (h3 : 0 ≤ b.stay) (h4 : b.stay ≤ 1000) :
    PC Try.prog Y 50 [ctPV ct, bdPV b, I start, I t] σ (I (atB ct b start t)) (σ) := by
  refine PC_of_W Try.func50 rfl (by kernel_rfl) Try.ntmps50 (by simp) fun hcl hca => ?_
  obtain ⟨l, hl⟩ : ∃ z, (sqs ct b).1 = z := ⟨_, rfl⟩
  obtain ⟨e, he⟩ : ∃ z, (sqs ct b).2 = z := ⟨_, rfl⟩
  have hln := (sqs_len ct b).1
  rw [hl] at hln
  obtain ⟨res, hres⟩ : ∃ r, atB ct b start t = r := ⟨_, rfl⟩
  rw [hres]
  refine W_seq fun kz1 kq1 => ?_
  refine W_region [2, 3, 4, 5] fun R hR => ?_   -- r0
  simp only [go_sem]
  refine hR _ _ (kq1 _ _ ?_); clear hR R; try clear kq1 kz1
  try simp only [go_sem]
  refine W_seq fun kz2 kq2 => ?_
  refine W_region [2, 3, 5, 9] fun R hR => ?_   -- r1
  simp only [go_sem]
  refine GCall_of (PC.val (v' := .tuple [ints l, I e]) (rsquares_pc Y _ ct b hc hb) (by simp only [sqPV, hl, he])) ?_   -- t15
  simp only [go_sem]
  refine hR _ _ (kq2 _ _ ?_); clear hR R; try clear kq2 kz2
  try simp only [go_sem]
  refine W_seq fun kz3 kq3 => ?_
  refine W_seq fun kz4 kq4 => ?_
  refine W_region [2, 3, 5, 9, 11] fun R hR => ?_   -- r2
  simp only [go_sem]
  refine hR _ _ (kq4 _ _ ?_); clear hR R; try clear kq4 kz4
  try simp only [go_sem]
  refine W_block ?_
  refine W_loopS (α := Nat) (fun (k : Nat) => [(11, I k)]) (fun (k : Nat) => k ≤ l.length ∧ atB ct b start t = atFrom start b.stay t k (l.drop k)) (fun (k : Nat) => l.length - k) (0) rfl (⟨Nat.zero_le _, by unfold atB; rw [hl]; rfl⟩) ?_
  rintro k ⟨hk, hinv⟩
  refine W_seq fun kz5 kq5 => ?_
  refine W_seq fun kz6 kq6 => ?_
  refine W_region [2, 3, 5, 9, 11, 21] fun R hR => ?_   -- r3
  simp only [go_sem]
  refine hR _ _ (kq6 _ _ ?_); clear hR R; try clear kq6 kz6
  try simp only [go_sem]
  refine W_cond rfl (fun c1 => ?_) (fun c1 => ?_)
  · -- c1 true
    try simp only [nrm] at c1
    have hi' : k < l.length := by first | assumption | omega
    obtain ⟨s, hx⟩ : ∃ s, l[k]? = some s := ⟨l[k], by simp [hi']⟩
    have hdrop : l.drop k = s :: l.drop (k + 1) := by
      rw [List.drop_eq_getElem_cons hi']; congr 1; exact (List.getElem?_eq_some_iff.1 hx).2
    rw [hdrop, atFrom_cons] at hinv
    have m1 := mul_bd (a := (k : Int)) (b := b.stay) (A := 1000) (B := 1000) (by omega) (by omega) h3 h4
    have m2 : ((k : Int) + 1) * b.stay = (k : Int) * b.stay + b.stay := by rw [Int.add_mul, Int.one_mul]
    have w1 : IntKind.i64.wrap ((k : Int) + 1) = (k : Int) + 1 := wrapI (by omega) (by omega)
    refine W_skip (kq5 _ _ ?_)
    refine W_seq fun kz7 kq7 => ?_
    refine W_block ?_
    refine W_seq fun kz8 kq8 => ?_
    refine W_region [2, 3, 5, 9, 11, 39] fun R hR => ?_   -- r5
    simp only [go_sem, hx, w1, m2]
    try simp (disch := omega) only [wrapI, wrapU]
    refine GCall_of (rin_pc Y _ t _ _) ?_   -- t39
    simp only [go_sem, hx, w1, m2]
    try simp (disch := omega) only [wrapI, wrapU]
    refine hR _ _ (kq8 _ _ ?_); clear hR R; try clear kq8 kz8
    try simp only [go_sem, hx, w1, m2]
    refine W_cond rfl (fun c2 => ?_) (fun c2 => ?_)
    · -- c2 true
      try simp only [nrm] at c2
      refine W_seq fun kz9 kq9 => ?_
      refine W_region [8] fun R hR => ?_   -- r6
      simp only [go_sem, hx, w1, m2]
      refine hR _ _ (kq9 _ _ ?_); clear hR R; try clear kq9 kz9
      try simp only [go_sem, hx, w1, m2]
      refine W_ret ?_
      simp only [go_sem, hx, w1, m2]
      refine ⟨.inr (by trivial), ?_⟩
      first | refine Fin_same hcl rfl (Wk_eq ?_ (by simp only [go_sem])) | refine Fin_self hcl rfl (Wk_eq ?_ (by simp only [go_sem]))
      try simp only [go_sem]
      all_goals
        rw [← hres, hinv, if_pos (by simpa using c2)]
    · -- c2 false
      try simp only [nrm] at c2
      refine W_skip (kq7 _ _ ?_)
      refine W_region [2, 3, 5, 9, 11] fun R hR => ?_   -- r4
      simp only [go_sem, hx, w1, m2]
      try simp (disch := omega) only [wrapI, wrapU]
      refine hR _ _ ?_; clear hR R
      try simp only [go_sem, hx, w1, m2]
      refine ⟨k + 1, ?_, by (try simp only []); omega, ?_⟩
      · first | exact Weak.refl | exact Weak.eq (by first | rfl | (simp only [go_sem]; done) | (simp only [go_sem]; rfl) | (simp [go_sem]; done) | (simp [go_sem]; omega)) (by first | rfl | (simp only [go_sem]; done) | (simp [go_sem]; done))
      · try dsimp only
        exact ⟨hi', by rw [hinv, if_neg (by simpa using c2)]⟩
  · -- c1 false
    try simp only [nrm] at c1
    have hdrop : l.drop k = [] := List.drop_eq_nil_of_le (by omega)
    rw [hdrop] at hinv
    refine W_exit ?_
    simp only [go_sem]
    refine kq3 _ _ ?_
    refine W_seq fun kz10 kq10 => ?_
    refine W_region [8] fun R hR => ?_   -- r7
    simp only [go_sem]
    refine hR _ _ (kq10 _ _ ?_); clear hR R; try clear kq10 kz10
    try simp only [go_sem]
    refine W_ret ?_
    simp only [go_sem]
    refine ⟨.inr (by trivial), ?_⟩
    first | refine Fin_same hcl rfl (Wk_eq ?_ (by simp only [go_sem])) | refine Fin_self hcl rfl (Wk_eq ?_ (by simp only [go_sem]))
    try simp only [go_sem]
    all_goals
      rw [← hres, hinv]; rfl
end Go.Proofs.Ytnpamcpoaklgeaa
namespace Go.Proofs.Ytnpamcpoaklgeaa
open Go Go.RowKit
set_option maxRecDepth 100000
theorem any_grow (c : City) (l : List Band) {j : Nat} {x : Band} (h : l[j]? = some x) (sq t : Int) : (l.take (j + 1)).any (fun y => heardB c y sq t) = ((l.take j).any (fun y => heardB c y sq t) || heardB c x sq t) := by
  rw [List.take_add_one, h]; simp
set_option maxHeartbeats 8000000 in
theorem BandAsleep_pc (Y : YEnv) (σ : Sg) (nums : List Int) (hn : nums.length < 2 ^ 60) :
    PC Try.prog Y 12 [ints nums] σ (.bool true) (σ) := by
  refine PC_of_W Try.func12 rfl (by kernel_rfl) Try.ntmps12 (by simp) fun hcl hca => ?_
  obtain ⟨b0, hb0⟩ : ∃ z, drumB nums 2685821657736338717 = z := ⟨_, rfl⟩
  obtain ⟨made, hmade⟩ : ∃ zz, (cityD b0).1 = zz := ⟨_, rfl⟩
  obtain ⟨b1, hb1⟩ : ∃ zz, (cityD b0).2 = zz := ⟨_, rfl⟩
  obtain ⟨l, hl⟩ : ∃ zz, (bandsD made 4 b1).1 = zz := ⟨_, rfl⟩
  obtain ⟨b2, hb2⟩ : ∃ zz, (bandsD made 4 b1).2 = zz := ⟨_, rfl⟩
  have vmade : CityV made := by rw [← hmade]; exact cityD_ok b0
  have vl : l.length ≤ 4 ∧ ∀ b, b ∈ l → BandV made b := by rw [← hl]; exact bandsD_ok vmade 4 b1
  have vck := vmade.chk
  have vcl : ∀ b, b ∈ l → chkBand made b = 0 := fun b hb => (vl.2 b hb).chk vmade
  obtain ⟨es, hes⟩ : ∃ z, grantL made [] l = z := ⟨_, rfl⟩
  have lle : es.length = l.length := by rw [← hes]; exact grantL_len ..
  obtain ⟨gl, hgl⟩ : ∃ z, grantedOf l es = z := ⟨_, rfl⟩
  have vg : gl.length ≤ 4 ∧ ∀ b, b ∈ gl → b ∈ l := by rw [← hgl]; exact ⟨by have := grantedOf_len l es; omega, fun b hb => grantedOf_mem hb⟩
  have hawk : awkOf made gl = 0 := by
    have := granted_awk (c := made) l [] (awk_nil vck)
    rw [List.nil_append, hes, hgl] at this
    exact this
  have hr4 := vmade.tv.r1
  have hsr : made.sleep.length = made.town.rooms.length := vmade.sl
  refine W_seq fun kz1 kq1 => ?_
  refine W_region [0] fun R hR => ?_   -- r0
  simp only [go_sem, hb0, hmade, hb1, hl, hb2]
  refine hR _ _ (kq1 _ _ ?_); clear hR R; try clear kq1 kz1
  try simp only [go_sem, hb0, hmade, hb1, hl, hb2]
  refine W_seq fun kz2 kq2 => ?_
  refine W_region [3] fun R hR => ?_   -- r1
  simp only [go_sem, hb0, hmade, hb1, hl, hb2]
  refine GCall_of (DrumOf_pc Y _ nums hn) ?_   -- t26
  simp only [go_sem, hb0, hmade, hb1, hl, hb2]
  refine hR _ _ (kq2 _ _ ?_); clear hR R; try clear kq2 kz2
  try simp only [go_sem, hb0, hmade, hb1, hl, hb2]
  refine W_seq fun kz3 kq3 => ?_
  refine W_region [3, 4] fun R hR => ?_   -- r2
  simp only [go_sem, hb0, hmade, hb1, hl, hb2]
  refine GCall_of (CityOf_pc Y _ _ _ (Sg.get_ext0 _ _ _ _)) ?_   -- t28
  simp only [go_sem, hb0, hmade, hb1, hl, hb2]
  refine hR _ _ (kq3 _ _ ?_); clear hR R; try clear kq3 kz3
  try simp only [go_sem, hb0, hmade, hb1, hl, hb2]
  refine W_seq fun kz4 kq4 => ?_
  refine W_region [3, 4, 5] fun R hR => ?_   -- r3
  simp only [go_sem, hb0, hmade, hb1, hl, hb2]
  refine GCall_of (BandsOf_pc Y _ _ _ (Sg.get_ext0 _ _ _ _) made 4 vmade.small.hr vmade.small.hs (by omega) (by omega)) ?_   -- t31
  simp only [go_sem, hb0, hmade, hb1, hl, hb2]
  refine hR _ _ (kq4 _ _ ?_); clear hR R; try clear kq4 kz4
  try simp only [go_sem, hb0, hmade, hb1, hl, hb2]
  refine W_seq fun kz5 kq5 => ?_
  refine W_region [3, 4, 5, 6, 7] fun R hR => ?_   -- r4
  simp only [go_sem, hb0, hmade, hb1, hl, hb2]
  refine GCall_of (PC.val (v' := .tuple [ints es, I 0]) (Grant_pc Y _ made l vmade.okc (BandV.okl vl.2 (by omega))) (by rw [grantAns_of vck (by omega) vcl, hes])) ?_   -- t35
  simp only [go_sem, hb0, hmade, hb1, hl, hb2]
  refine hR _ _ (kq5 _ _ ?_); clear hR R; try clear kq5 kz5
  try simp only [go_sem, hb0, hmade, hb1, hl, hb2]
  refine W_seq fun kz6 kq6 => ?_
  refine W_seq fun kz7 kq7 => ?_
  refine W_region [3, 4, 5, 6, 39] fun R hR => ?_   -- r5
  simp only [go_sem, hb0, hmade, hb1, hl, hb2]
  refine hR _ _ (kq7 _ _ ?_); clear hR R; try clear kq7 kz7
  try simp only [go_sem, hb0, hmade, hb1, hl, hb2]
  refine W_cond rfl (fun c1 => ?_) (fun c1 => ?_)
  · -- c1 true
    try simp only [nrm] at c1
    exfalso
    simp at c1
  · -- c1 false
    try simp only [nrm] at c1
    refine W_skip (kq6 _ _ ?_)
    refine W_seq fun kz8 kq8 => ?_
    refine W_region [3, 4, 5, 8] fun R hR => ?_   -- r7
    simp only [go_sem, hb0, hmade, hb1, hl, hb2]
    refine GCall_of (PC.val (v' := bands gl) (lgranted_pc Y _ l es (by omega) (by omega)) (by rw [hgl])) ?_   -- t42
    simp only [go_sem, hb0, hmade, hb1, hl, hb2]
    refine hR _ _ (kq8 _ _ ?_); clear hR R; try clear kq8 kz8
    try simp only [go_sem, hb0, hmade, hb1, hl, hb2]
    refine W_seq fun kz9 kq9 => ?_
    refine W_seq fun kz10 kq10 => ?_
    refine W_region [3, 4, 5, 8, 9] fun R hR => ?_   -- r8
    simp only [go_sem, hb0, hmade, hb1, hl, hb2]
    refine hR _ _ (kq10 _ _ ?_); clear hR R; try clear kq10 kz10
    try simp only [go_sem, hb0, hmade, hb1, hl, hb2]
    refine W_block ?_
    refine W_loopT (α := Nat × Int) (fun ⟨sq, b⟩ => [(9, I sq)]) (fun ⟨sq, b⟩ => σ.ext [some [.int .u64 b], some (ctCells made)] []) (fun ⟨sq, b⟩ => sq ≤ made.sleep.length) (fun ⟨sq, b⟩ => made.sleep.length - sq) ((0, b2)) rfl (by first | rfl | (simp only [go_sem]; done) | (simp only [go_sem]; rfl)) (Nat.zero_le _) ?_
    rintro ⟨sq, b⟩ hsq
    refine W_seq fun kz11 kq11 => ?_
    refine W_seq fun kz12 kq12 => ?_
    refine W_region [3, 4, 5, 8, 9, 47] fun R hR => ?_   -- r9
    simp only [go_sem, hb0, hmade, hb1, hl, hb2]
    refine hR _ _ (kq12 _ _ ?_); clear hR R; try clear kq12 kz12
    try simp only [go_sem, hb0, hmade, hb1, hl, hb2]
    refine W_cond rfl (fun c2 => ?_) (fun c2 => ?_)
    · -- c2 true
      try simp only [nrm] at c2
      have hsq' : sq < made.sleep.length := by omega
      obtain ⟨o, ho⟩ : ∃ o, made.sleep[sq]? = some o := ⟨made.sleep[sq], by simp [hsq']⟩
      obtain ⟨f, hf⟩ : ∃ z, loudAt made l (sq : Int) = z := ⟨_, rfl⟩
      obtain ⟨fr, hfr⟩ : ∃ z, (sleepOf f).1 = z := ⟨_, rfl⟩
      obtain ⟨mn, hmn⟩ : ∃ z, (sleepOf f).2 = z := ⟨_, rfl⟩
      obtain ⟨kf, hkf⟩ : ∃ z, (sleepOf (loudAt made gl (sq : Int))).1 = z := ⟨_, rfl⟩
      obtain ⟨kp, hkp⟩ : ∃ z, (sleepOf (loudAt made gl (sq : Int))).2 = z := ⟨_, rfl⟩
      have hir : inR (sq : Int) 0 ((made.town.rooms.length : Int) - 1) = true := by rw [inR_true]; omega
      have hsa : sleepAns made l (sq : Int) = (fr, mn, 0) := by
        unfold sleepAns
        rw [chkAll_of vck (by omega) vcl, if_neg (by simp), if_neg (by simp [hir]), hf, hfr, hmn]
      have hsg : sleepAns made gl (sq : Int) = (kf, kp, 0) := by
        unfold sleepAns
        rw [chkAll_of vck (by omega) (fun b hb => vcl b (vg.2 b hb)), if_neg (by simp), if_neg (by simp [hir]), hkf, hkp]
      have hok : o ≤ kp := by rw [← hkp]; exact awk_owed hawk ho
      have hmk : mn ≤ kp := by rw [← hkp, ← hmn, ← hf]; exact sleep_mono fun t ht => loud_sub vg.2 t ht
      have hbd := slRun_bd f 720
      have hsi := slRun_si f 720
      have e1 : (slRun f 720).1 = fr := hfr
      have e2 : (slRun f 720).2.1 = mn := hmn
      have hfin := hsi.fin
      have hle := hsi.le
      have hsil := hsi.sil
      have hfst := hsi.fst
      rw [e1, e2] at hbd hfin hsil hfst
      rw [e2] at hle
      have hk1 : (kp < o) = False := eq_false (by omega)
      have hk2 : (kp < mn) = False := eq_false (by omega)
      have hf0 : (fr < 0) = False := eq_false (by omega)
      have hm0 : (mn < 0) = False := eq_false (by omega)
      have hs7 : (720 < fr + mn) = False := eq_false (by omega)
      have hwf : IntKind.i64.wrap (fr + mn) = fr + mn := wrapI (by omega) (by omega)
      refine W_skip (kq11 _ _ ?_)
      refine W_seq fun kz13 kq13 => ?_
      refine W_block ?_
      refine W_seq fun kz14 kq14 => ?_
      refine W_region [3, 4, 5, 8, 9, 10, 11, 12] fun R hR => ?_   -- r11
      simp only [go_sem, hb0, hmade, hb1, hl, hb2, ho]
      refine GCall_of (PC.val (v' := .tuple [I fr, I mn, I 0]) (bSleep_pc Y _ made l (sq : Int) vmade.okc (BandV.okl vl.2 (by omega))) (by rw [hsa])) ?_   -- t54
      simp only [go_sem, hb0, hmade, hb1, hl, hb2, ho]
      refine hR _ _ (kq14 _ _ ?_); clear hR R; try clear kq14 kz14
      try simp only [go_sem, hb0, hmade, hb1, hl, hb2, ho]
      refine W_seq fun kz15 kq15 => ?_
      refine W_region [3, 4, 5, 8, 9, 10, 11, 12, 14, 15] fun R hR => ?_   -- r12
      simp only [go_sem, hb0, hmade, hb1, hl, hb2, ho]
      refine GCall_of (PC.val (v' := .tuple [I kf, I kp, I 0]) (bSleep_pc Y _ made gl (sq : Int) vmade.okc (BandV.okl (fun b hb => vl.2 b (vg.2 b hb)) (by omega))) (by rw [hsg])) ?_   -- t62
      simp only [go_sem, hb0, hmade, hb1, hl, hb2, ho]
      refine hR _ _ (kq15 _ _ ?_); clear hR R; try clear kq15 kz15
      try simp only [go_sem, hb0, hmade, hb1, hl, hb2, ho]
      refine W_seq fun kz16 kq16 => ?_
      refine W_seq fun kz17 kq17 => ?_
      refine W_regionJ [3, 4, 5, 8, 9, 10, 11, 99] [(99, .bool false)] ?_ fun R hR => ?_   -- r13
      · refine kq17 _ _ ?_
        simp only [go_sem, hb0, hmade, hb1, hl, hb2, ho]
        refine W_cond_false rfl ?_
        refine W_skip (kq16 _ _ ?_)
        refine W_seq fun kz18 kq18 => ?_
        refine W_region [3, 4, 5, 8, 9, 10, 11, 16] fun R hR => ?_   -- r15
        simp only [go_sem, hb0, hmade, hb1, hl, hb2, ho]
        refine hR _ _ (kq18 _ _ ?_); clear hR R; try clear kq18 kz18
        try simp only [go_sem, hb0, hmade, hb1, hl, hb2, ho]
        refine W_seq fun kz19 kq19 => ?_
        refine W_region [3, 4, 5, 8, 9, 10, 11, 16, 17] fun R hR => ?_   -- r16
        simp only [go_sem, hb0, hmade, hb1, hl, hb2, ho]
        refine hR _ _ (kq19 _ _ ?_); clear hR R; try clear kq19 kz19
        try simp only [go_sem, hb0, hmade, hb1, hl, hb2, ho]
        refine W_block ?_
        refine W_loopT (α := Nat × Int × Int) (fun ⟨t, run, b⟩ => [(16, I run), (17, I t)]) (fun ⟨t, run, b⟩ => σ.ext [some [.int .u64 b], some (ctCells made)] []) (fun ⟨t, run, b⟩ => t ≤ 720 ∧ run = (slRun f t).2.2) (fun ⟨t, run, b⟩ => 720 - t) ((0, 0, b)) rfl (by first | rfl | (simp only [go_sem]; done) | (simp only [go_sem]; rfl)) (⟨Nat.zero_le _, rfl⟩) ?_
        rintro ⟨t, run, b⟩ ⟨ht, hrun⟩
        have hrb := slRun_bd f t
        rw [← hrun] at hrb
        refine W_seq fun kz20 kq20 => ?_
        refine W_seq fun kz21 kq21 => ?_
        refine W_region [3, 4, 5, 8, 9, 10, 11, 16, 17, 101] fun R hR => ?_   -- r17
        simp only [go_sem, hb0, hmade, hb1, hl, hb2, ho]
        refine hR _ _ (kq21 _ _ ?_); clear hR R; try clear kq21 kz21
        try simp only [go_sem, hb0, hmade, hb1, hl, hb2, ho]
        refine W_cond rfl (fun c3 => ?_) (fun c3 => ?_)
        · -- c3 true
          try simp only [nrm] at c3
          have ht' : t < 720 := by omega
          have hnx := run_next f t
          rw [← hrun] at hnx
          have hw1 : IntKind.i64.wrap (run + 1) = run + 1 := wrapI (by omega) (by omega)
          have hw2 : IntKind.i64.wrap (fr + mn - 1) = fr + mn - 1 := wrapI (by omega) (by omega)
          refine W_skip (kq20 _ _ ?_)
          refine W_seq fun kz22 kq22 => ?_
          refine W_block ?_
          refine W_seq fun kz23 kq23 => ?_
          refine W_region [3, 4, 5, 8, 9, 10, 11, 16, 17, 18, 19] fun R hR => ?_   -- r19
          simp only [go_sem, hb0, hmade, hb1, hl, hb2, ho, hw1, hw2, hwf]
          refine hR _ _ (kq23 _ _ ?_); clear hR R; try clear kq23 kz23
          try simp only [go_sem, hb0, hmade, hb1, hl, hb2, ho, hw1, hw2, hwf]
          refine W_seq fun kz24 kq24 => ?_
          refine W_seq fun kz25 kq25 => ?_
          refine W_region [3, 4, 5, 8, 9, 10, 11, 16, 17, 18, 19, 20] fun R hR => ?_   -- r20
          simp only [go_sem, hb0, hmade, hb1, hl, hb2, ho, hw1, hw2, hwf]
          refine hR _ _ (kq25 _ _ ?_); clear hR R; try clear kq25 kz25
          try simp only [go_sem, hb0, hmade, hb1, hl, hb2, ho, hw1, hw2, hwf]
          refine W_block ?_
          refine W_loopT (α := Nat × Bool × Bool × Int) (fun ⟨j, he, th, b⟩ => [(18, .bool he), (19, .bool th), (20, I j)]) (fun ⟨j, he, th, b⟩ => σ.ext [some [.int .u64 b], some (ctCells made)] []) (fun ⟨j, he, th, b⟩ => j ≤ l.length ∧ he = (l.take j).any (fun y => heardB made y sq t) ∧ (th = true → he = true)) (fun ⟨j, he, th, b⟩ => l.length - j) ((0, false, false, b)) rfl (by first | rfl | (simp only [go_sem]; done) | (simp only [go_sem]; rfl)) (⟨Nat.zero_le _, rfl, fun h => h⟩) ?_
          rintro ⟨j, he, th, b⟩ ⟨hj, hhe, hth⟩
          refine W_seq fun kz26 kq26 => ?_
          refine W_seq fun kz27 kq27 => ?_
          refine W_region [3, 4, 5, 8, 9, 10, 11, 16, 17, 18, 19, 20, 107] fun R hR => ?_   -- r21
          simp only [go_sem, hb0, hmade, hb1, hl, hb2, ho, hw1, hw2, hwf]
          refine hR _ _ (kq27 _ _ ?_); clear hR R; try clear kq27 kz27
          try simp only [go_sem, hb0, hmade, hb1, hl, hb2, ho, hw1, hw2, hwf]
          refine W_cond rfl (fun c4 => ?_) (fun c4 => ?_)
          · -- c4 true
            try simp only [nrm] at c4
            have hi' : j < l.length := by first | assumption | omega
            obtain ⟨x, hx⟩ : ∃ x, l[j]? = some x := ⟨l[j], by simp [hi']⟩
            have hdrop : l.drop j = x :: l.drop (j + 1) := by
              rw [List.drop_eq_getElem_cons hi']; congr 1; exact (List.getElem?_eq_some_iff.1 hx).2
            have hxm := List.mem_of_getElem? hx
            have hxv := vcl x hxm
            have hxs := (vl.2 x hxm).seq
            have hxp := (vl.2 x hxm).p1
            have htm := timesOf_ok (chkBand_ok hxv).2
            obtain ⟨wq, hwq⟩ : ∃ z, (whereAns made x (t : Int)).1.1 = z := ⟨_, rfl⟩
            obtain ⟨wa, hwa⟩ : ∃ z, (whereAns made x (t : Int)).1.2 = z := ⟨_, rfl⟩
            have hwo := where_ok vck hxv (t := (t : Int)) (by omega) (by omega)
            have hW : whereAns made x (t : Int) = ((wq, wa), 0) := by rw [← hwq, ← hwa, hwo]
            have hwh : has wq (sq : Int) = heardB made x sq t := by rw [← hwq]; exact where_has vck hxv (by omega) (by omega) _
            have hwl : wq.length ≤ 720 := by
              rw [← hwq, hwo]
              have h1 := compact_len (sortI (whAll made x (t : Int)).1)
              have h2 := sortI_len (whAll made x (t : Int)).1
              have h3 := foldUp_len made x (t : Int) x.lo (x.hi + 1 - x.lo).toNat ([], false)
              unfold whAll upTo at *
              simp only at h1 h2 h3 ⊢
              simp at h3
              omega
            have hgrow := any_grow made l hx (sq : Int) (t : Int)
            rw [← hhe] at hgrow
            obtain ⟨m, hm⟩ : ∃ zz, (ofD x.lo x.hi b).1 = zz := ⟨_, rfl⟩
            obtain ⟨b4, hb4⟩ : ∃ zz, (ofD x.lo x.hi b).2 = zz := ⟨_, rfl⟩
            have dm := ofD_bd (show x.lo ≤ x.hi by omega) b
            simp only [hm] at dm
            have hath : (atB made x m (t : Int) == (sq : Int)) = true → heardB made x sq t = true := fun h => at_heard (by omega) (by omega) dm.1 dm.2 (by omega) (by simpa using h)
            refine W_skip (kq26 _ _ ?_)
            refine W_seq fun kz28 kq28 => ?_
            refine W_block ?_
            refine W_seq fun kz29 kq29 => ?_
            refine W_draw [3, 4, 5, 8, 9, 10, 11, 16, 17, 18, 19, 20, 21, 23] [0, 1, 2, 3, 4, 5, 6, 7, 8, 9, 10, 11, 12, 13] [] [[], [], [], [1, 2], [1, 2, 3], [], [0, 1, 2, 3, 4, 5], [0, 1, 2, 3, 4, 5, 6], [0, 1, 2, 3, 4, 5, 6, 7], [0, 1, 2, 3, 4, 5, 6, 7], [0, 1, 2, 3, 4, 5, 6, 7], [0, 1, 2, 3, 4, 5, 6, 7, 8], [0, 1, 2, 3, 4, 5, 6, 7, 8, 9, 11], [0, 1, 2, 3, 4, 5, 6, 7, 8, 9, 10, 11, 12]] mixed (by kernel_rfl) fun R hR => ?_   -- r23
            simp only [go_sem, hb0, hmade, hb1, hl, hb2, ho, hw1, hw2, hwf, hx, hm, hb4]
            refine GCall_of (PC.val (v' := .tuple [ints wq, .bool wa, I 0]) (Where_pc Y _ made x (t : Int) vmade.okc (by omega)) (by rw [hW])) ?_   -- t117
            simp only [go_sem, hb0, hmade, hb1, hl, hb2, ho, hw1, hw2, hwf, hx, hm, hb4]
            try refine And.intro (by repeat' (first | refine And.intro ?_ ?_ | exact GOr_right (fun _ => by simp only [go_sem, hb0, hmade, hb1, hl, hb2, ho, hw1, hw2, hwf, hx, hm, hb4]))) ?_
            refine hR _ _ (kq29 _ _ ?_); clear hR R; try clear kq29 kz29
            try simp only [go_sem, hb0, hmade, hb1, hl, hb2, ho, hw1, hw2, hwf, hx, hm, hb4]
            refine W_seq fun kz30 kq30 => ?_
            refine W_regionJ [3, 4, 5, 8, 9, 10, 11, 16, 17, 18, 19, 20] [(18, .bool (he || heardB made x sq t))] ?_ fun R hR => ?_   -- r24
            · refine kq30 _ _ ?_
              simp only [go_sem, hb0, hmade, hb1, hl, hb2, ho, hw1, hw2, hwf, hx, hm, hb4]
              refine W_draw [3, 4, 5, 8, 9, 10, 11, 16, 17, 18, 19, 20] [0, 1, 2, 3, 4, 5, 6, 7, 8, 9, 10, 11, 12, 13, 14, 15, 16, 17, 18, 19] [(2, 15), (3, 15), (4, 15), (5, 15), (6, 15), (14, 13), (16, 13), (16, 15)] [[], [0], [0, 1], [0, 1], [0, 1], [0, 1, 3, 4], [0, 1, 3, 4, 5], [0, 1], [0, 1], [0, 1], [0, 1, 8, 9], [0, 1, 8, 9, 10], [0, 1, 8, 9, 10, 11], [0, 1, 7, 8, 9, 10, 11, 12], [0, 1], [0, 1, 2, 3, 4, 5, 6, 7, 8, 9, 10, 11, 12, 13, 14], [0, 1], [0, 1, 2, 3, 4, 5, 6, 7, 8, 9, 10, 11, 12, 13, 14, 15, 16], [0, 1, 2, 3, 4, 5, 6, 7, 8, 9, 10, 11, 12, 13, 14, 15, 16, 17], [0, 1, 2, 3, 4, 5, 6, 7, 8, 9, 10, 11, 12, 13, 14, 15, 16, 17, 18]] mixed (by kernel_rfl) fun R hR => ?_   -- r25
              simp only [go_sem, hb0, hmade, hb1, hl, hb2, ho, hw1, hw2, hwf, hx, hm, hb4]
              refine GWant_split (fun g1 => ?_) (fun g1 => ?_)
              · try simp only [Bool.not_eq_true', Bool.not_eq_false'] at g1
                have n1 := g1; try simp only [nrm] at n1
                simp only [go_sem, hb0, hmade, hb1, hl, hb2, ho, hw1, hw2, hwf, hx, hm, hb4, g1]
                refine GCall_of (Of_pc Y _ _ _ (Sg.get_ext0 _ _ _ _) x.lo x.hi (by omega) (by omega) (by omega) (by omega)) ?_   -- t144
                simp only [go_sem, hb0, hmade, hb1, hl, hb2, ho, hw1, hw2, hwf, hx, hm, hb4, g1]
                refine GCall_of (rAt_pc Y _ made x m (t : Int) vmade.okc (by omega) (by omega) (by omega) (by omega) (by omega)) ?_   -- t146
                simp only [go_sem, hb0, hmade, hb1, hl, hb2, ho, hw1, hw2, hwf, hx, hm, hb4, g1]
                try refine And.intro (by repeat' (first | refine And.intro ?_ ?_ | exact GOr_right (fun _ => by simp only [go_sem, hb0, hmade, hb1, hl, hb2, ho, hw1, hw2, hwf, hx, hm, hb4]))) ?_
                refine hR _ _ (kq28 _ _ ?_); clear hR R; try clear kq28 kz28
                try simp only [go_sem, hb0, hmade, hb1, hl, hb2, ho, hw1, hw2, hwf, hx, hm, hb4]
                refine W_region [3, 4, 5, 8, 9, 10, 11, 16, 17, 18, 19, 20] fun R hR => ?_   -- r22
                simp only [go_sem, hb0, hmade, hb1, hl, hb2, ho, hw1, hw2, hwf, hx, hm, hb4]
                try simp (disch := omega) only [wrapI, wrapU]
                refine hR _ _ ?_; clear hR R
                try simp only [go_sem, hb0, hmade, hb1, hl, hb2, ho, hw1, hw2, hwf, hx, hm, hb4]
                refine ⟨(j + 1, he || heardB made x sq t, (atB made x m (t : Int) == (sq : Int)), b4), ?_, by (try simp only []); omega, ?_⟩
                · refine Weak.trans (Weak.cutX 2 0 (by omega) (by omega) hcl (by simp only [go_sem] <;> omega) (by simp only [go_sem] <;> omega)) ?_
                  simp only [go_sem]
                  exact Weak.eq (by first | rfl | (simp only [go_sem]; done) | (simp only [go_sem]; rfl) | (simp [go_sem]; done) | (simp [go_sem]; omega)) (by first | rfl | (simp only [go_sem]; done) | (simp [go_sem]; done))
                · try dsimp only
                  first | exact ⟨hi', hgrow.symm, fun h => by rw [hath h, Bool.or_true]⟩ | exact ⟨hi', hgrow.symm, fun _ => by rw [hth n1, Bool.true_or]⟩
              · try simp only [Bool.not_eq_true', Bool.not_eq_false'] at g1
                have n1 := g1; try simp only [nrm] at n1
                simp only [go_sem, hb0, hmade, hb1, hl, hb2, ho, hw1, hw2, hwf, hx, hm, hb4, g1]
                try refine And.intro (by repeat' (first | refine And.intro ?_ ?_ | exact GOr_right (fun _ => by simp only [go_sem, hb0, hmade, hb1, hl, hb2, ho, hw1, hw2, hwf, hx, hm, hb4]))) ?_
                refine hR _ _ (kq28 _ _ ?_); clear hR R; try clear kq28 kz28
                try simp only [go_sem, hb0, hmade, hb1, hl, hb2, ho, hw1, hw2, hwf, hx, hm, hb4]
                refine W_region [3, 4, 5, 8, 9, 10, 11, 16, 17, 18, 19, 20] fun R hR => ?_   -- r22
                simp only [go_sem, hb0, hmade, hb1, hl, hb2, ho, hw1, hw2, hwf, hx, hm, hb4]
                try simp (disch := omega) only [wrapI, wrapU]
                refine hR _ _ ?_; clear hR R
                try simp only [go_sem, hb0, hmade, hb1, hl, hb2, ho, hw1, hw2, hwf, hx, hm, hb4]
                refine ⟨(j + 1, he || heardB made x sq t, true, b), ?_, by (try simp only []); omega, ?_⟩
                · refine Weak.trans (Weak.cutX 2 0 (by omega) (by omega) hcl (by simp only [go_sem] <;> omega) (by simp only [go_sem] <;> omega)) ?_
                  simp only [go_sem]
                  exact Weak.eq (by first | rfl | (simp only [go_sem]; done) | (simp only [go_sem]; rfl) | (simp [go_sem]; done) | (simp [go_sem]; omega)) (by first | rfl | (simp only [go_sem]; done) | (simp [go_sem]; done))
                · try dsimp only
                  first | exact ⟨hi', hgrow.symm, fun h => by rw [hath h, Bool.or_true]⟩ | exact ⟨hi', hgrow.symm, fun _ => by rw [hth n1, Bool.true_or]⟩
            · simp only [go_sem, hb0, hmade, hb1, hl, hb2, ho, hw1, hw2, hwf, hx, hm, hb4]
              refine GWant_split (fun g2 => ?_) (fun g2 => ?_)
              · try simp only [Bool.not_eq_true', Bool.not_eq_false'] at g2
                have n2 := g2; try simp only [nrm] at n2
                simp only [go_sem, hb0, hmade, hb1, hl, hb2, ho, hw1, hw2, hwf, hx, hm, hb4, g2]
                refine GCall_of (PC.val (v' := .bool (heardB made x sq t)) (Has_pc Y _ wq (sq : Int) .ro (by omega)) (by rw [hwh])) ?_   -- t129
                simp only [go_sem, hb0, hmade, hb1, hl, hb2, ho, hw1, hw2, hwf, hx, hm, hb4, g2]
                refine hR _ ?_
                try simp only [go_sem, hb0, hmade, hb1, hl, hb2, ho, hw1, hw2, hwf, hx, hm, hb4]
                all_goals
                  first | rfl | (simp only [n2, Bool.true_or, Bool.false_or]; done) | (simp [n2]; done)
              · try simp only [Bool.not_eq_true', Bool.not_eq_false'] at g2
                have n2 := g2; try simp only [nrm] at n2
                simp only [go_sem, hb0, hmade, hb1, hl, hb2, ho, hw1, hw2, hwf, hx, hm, hb4, g2]
                refine hR _ ?_
                try simp only [go_sem, hb0, hmade, hb1, hl, hb2, ho, hw1, hw2, hwf, hx, hm, hb4]
                all_goals
                  first | rfl | (simp only [n2, Bool.true_or, Bool.false_or]; done) | (simp [n2]; done)
          · -- c4 false
            try simp only [nrm] at c4
            obtain rfl : j = l.length := by omega
            rw [List.take_length] at hhe
            have hft : he = f t := by rw [hhe, ← hf]; rfl
            refine W_exit ?_
            simp only [go_sem, hb0, hmade, hb1, hl, hb2, ho, hw1, hw2, hwf]
            refine kq24 _ _ ?_
            refine W_seq fun kz31 kq31 => ?_
            refine W_region [3, 4, 5, 8, 9, 10, 11, 16, 17, 18, 19] fun R hR => ?_   -- r26
            simp only [go_sem, hb0, hmade, hb1, hl, hb2, ho, hw1, hw2, hwf]
            try simp (disch := omega) only [wrapI, wrapU]
            refine hR _ _ (kq31 _ _ ?_); clear hR R; try clear kq31 kz31
            try simp only [go_sem, hb0, hmade, hb1, hl, hb2, ho, hw1, hw2, hwf]
            refine W_seq fun kz32 kq32 => ?_
            refine W_seq fun kz33 kq33 => ?_
            refine W_region [3, 4, 5, 8, 9, 10, 11, 16, 17, 18, 19, 152] fun R hR => ?_   -- r27
            simp only [go_sem, hb0, hmade, hb1, hl, hb2, ho, hw1, hw2, hwf]
            refine hR _ _ (kq33 _ _ ?_); clear hR R; try clear kq33 kz33
            try simp only [go_sem, hb0, hmade, hb1, hl, hb2, ho, hw1, hw2, hwf]
            refine W_cond rfl (fun c5 => ?_) (fun c5 => ?_)
            · -- c5 true
              try simp only [nrm] at c5
              have hft1 : f (t : Int) = true := by rw [← hft]; exact c5
              have hinf : (decide (fr ≤ (t : Int)) && decide ((t : Int) < fr + mn)) = false := by
                rw [Bool.eq_false_iff]
                intro hh
                simp only [Bool.and_eq_true, decide_eq_true_eq] at hh
                rw [hsil _ hh.1 hh.2] at hft1
                cases hft1
              refine W_region [3, 4, 5, 8, 9, 10, 11, 16, 17, 18, 19] fun R hR => ?_   -- r28
              simp only [go_sem, hb0, hmade, hb1, hl, hb2, ho, hw1, hw2, hwf, hm0, hinf]
              refine hR _ _ (kq32 _ _ ?_); clear hR R; try clear kq32 kz32
              try simp only [go_sem, hb0, hmade, hb1, hl, hb2, ho, hw1, hw2, hwf, hm0, hinf]
              refine W_seq fun kz34 kq34 => ?_
              refine W_regionJ [3, 4, 5, 8, 9, 10, 11, 16, 17, 18, 19, 24] [(24, .bool (decide (fr ≤ (t : Int)) && decide ((t : Int) < fr + mn)))] ?_ fun R hR => ?_   -- r29
              · refine kq34 _ _ ?_
                simp only [go_sem, hb0, hmade, hb1, hl, hb2, ho, hw1, hw2, hwf, hm0, hinf]
                refine W_seq fun kz35 kq35 => ?_
                refine W_regionJ [3, 4, 5, 8, 9, 10, 11, 16, 17, 191] [(191, .bool false)] ?_ fun R hR => ?_   -- r30
                · refine kq35 _ _ ?_
                  simp only [go_sem, hb0, hmade, hb1, hl, hb2, ho, hw1, hw2, hwf, hm0, hinf]
                  refine W_cond rfl (fun c6 => ?_) (fun c6 => ?_)
                  · -- c6 true
                    try simp only [nrm] at c6
                    refine W_seq fun kz36 kq36 => ?_
                    refine W_region [2] fun R hR => ?_   -- r31
                    simp only [go_sem, hb0, hmade, hb1, hl, hb2, ho, hw1, hw2, hwf, hm0, hinf]
                    refine hR _ _ (kq36 _ _ ?_); clear hR R; try clear kq36 kz36
                    try simp only [go_sem, hb0, hmade, hb1, hl, hb2, ho, hw1, hw2, hwf, hm0, hinf]
                    refine W_ret ?_
                    simp only [go_sem, hb0, hmade, hb1, hl, hb2, ho, hw1, hw2, hwf, hm0, hinf]
                    refine ⟨.inr (by trivial), ?_⟩
                    first | refine Fin_same hcl rfl (Wk_eq ?_ (by simp only [go_sem])) | refine Fin_self hcl rfl (Wk_eq ?_ (by simp only [go_sem]))
                    try simp only [go_sem]
                    all_goals
                      first | rfl | (simp_all; done) | (simp_all; omega)
                  · -- c6 false
                    try simp only [nrm] at c6
                    refine W_skip (kq22 _ _ ?_)
                    refine W_region [3, 4, 5, 8, 9, 10, 11, 16, 17] fun R hR => ?_   -- r18
                    simp only [go_sem, hb0, hmade, hb1, hl, hb2, ho, hw1, hw2, hwf, hm0, hinf]
                    try simp (disch := omega) only [wrapI, wrapU]
                    refine hR _ _ ?_; clear hR R
                    try simp only [go_sem, hb0, hmade, hb1, hl, hb2, ho, hw1, hw2, hwf, hm0, hinf]
                    refine ⟨(t + 1, 0, b), ?_, by (try simp only []); omega, ?_⟩
                    · refine Weak.trans (Weak.cutX 2 0 (by omega) (by omega) hcl (by simp only [go_sem] <;> omega) (by simp only [go_sem] <;> omega)) ?_
                      simp only [go_sem]
                      exact Weak.eq (by first | rfl | (simp only [go_sem]; done) | (simp only [go_sem]; rfl) | (simp [go_sem]; done) | (simp [go_sem]; omega)) (by first | rfl | (simp only [go_sem]; done) | (simp [go_sem]; done))
                    · try dsimp only
                      exact ⟨ht', by rw [hnx]; simp [← hft, c5]⟩
                · simp only [go_sem, hb0, hmade, hb1, hl, hb2, ho, hw1, hw2, hwf, hm0, hinf]
                  refine GWant_split (fun g3 => ?_) (fun g3 => ?_)
                  · try simp only [Bool.not_eq_true', Bool.not_eq_false'] at g3
                    have n3 := g3; try simp only [nrm] at n3
                    have hmz : (0 < mn) = False := eq_false (by have := n3; first | omega | (simp at this; omega))
                    simp only [go_sem, hb0, hmade, hb1, hl, hb2, ho, hw1, hw2, hwf, hm0, hinf, hmz, g3]
                    try simp (disch := omega) only [wrapI, wrapU]
                    refine hR _ ?_
                    try simp only [go_sem, hb0, hmade, hb1, hl, hb2, ho, hw1, hw2, hwf, hm0, hinf, hmz]
                    all_goals
                      first | rfl | (simp [*]; done) | (simp only [PV.bool.injEq, decide_eq_false_iff_not]; exact hfst2 (by simp_all)) | (simp [*]; omega)
                  · try simp only [Bool.not_eq_true', Bool.not_eq_false'] at g3
                    have n3 := g3; try simp only [nrm] at n3
                    simp only [go_sem, hb0, hmade, hb1, hl, hb2, ho, hw1, hw2, hwf, hm0, hinf, g3]
                    try simp (disch := omega) only [wrapI, wrapU]
                    refine hR _ ?_
                    try simp only [go_sem, hb0, hmade, hb1, hl, hb2, ho, hw1, hw2, hwf, hm0, hinf]
                    all_goals
                      first | rfl | (simp [*]; done) | (simp only [PV.bool.injEq, decide_eq_false_iff_not]; exact hfst2 (by simp_all)) | (simp [*]; omega)
              · simp only [go_sem, hb0, hmade, hb1, hl, hb2, ho, hw1, hw2, hwf, hm0, hinf]
                refine GWant_split (fun g4 => ?_) (fun g4 => ?_)
                · try simp only [Bool.not_eq_true', Bool.not_eq_false'] at g4
                  have n4 := g4; try simp only [nrm] at n4
                  simp only [go_sem, hb0, hmade, hb1, hl, hb2, ho, hw1, hw2, hwf, hm0, hinf, g4]
                  try simp (disch := omega) only [wrapI, wrapU]
                  refine hR _ ?_
                  try simp only [go_sem, hb0, hmade, hb1, hl, hb2, ho, hw1, hw2, hwf, hm0, hinf]
                  all_goals
                    first | rfl | (simp [*]; done) | (simp only [Bool.and_eq_false_iff, decide_eq_false_iff_not] at hinf; simp [*]; omega)
                · try simp only [Bool.not_eq_true', Bool.not_eq_false'] at g4
                  have n4 := g4; try simp only [nrm] at n4
                  simp only [go_sem, hb0, hmade, hb1, hl, hb2, ho, hw1, hw2, hwf, hm0, hinf, g4]
                  try simp (disch := omega) only [wrapI, wrapU]
                  refine hR _ ?_
                  try simp only [go_sem, hb0, hmade, hb1, hl, hb2, ho, hw1, hw2, hwf, hm0, hinf]
                  all_goals
                    first | rfl | (simp [*]; done) | (simp only [Bool.and_eq_false_iff, decide_eq_false_iff_not] at hinf; simp [*]; omega)
            · -- c5 false
              try simp only [nrm] at c5
              have hft0 : f (t : Int) = false := by rw [← hft]; exact c5
              have hnx2 : (slRun f (t + 1)).2.2 = run + 1 := by rw [hnx, hft0]; rfl
              have hl2 := hle (t + 1) (by omega)
              rw [hnx2] at hl2
              have hrl : (mn < run + 1) = False := eq_false (by omega)
              have hthf : th = false := by
                cases th with
                | false => rfl
                | true => rw [hth rfl] at c5; cases c5
              have hfst2 : mn = run + 1 → ¬ (t : Int) < fr + mn - 1 := fun e h => by
                have := hfst t ht' h
                rw [hnx2] at this
                omega
              refine W_skip (kq32 _ _ ?_)
              refine W_seq fun kz37 kq37 => ?_
              refine W_regionJ [3, 4, 5, 8, 9, 10, 11, 16, 17, 18, 19, 24] [(24, .bool (decide (fr ≤ (t : Int)) && decide ((t : Int) < fr + mn)))] ?_ fun R hR => ?_   -- r29
              · refine kq37 _ _ ?_
                simp only [go_sem, hb0, hmade, hb1, hl, hb2, ho, hw1, hw2, hwf, hrl, hthf, c5]
                refine W_seq fun kz38 kq38 => ?_
                refine W_regionJ [3, 4, 5, 8, 9, 10, 11, 16, 17, 191] [(191, .bool false)] ?_ fun R hR => ?_   -- r30
                · refine kq38 _ _ ?_
                  simp only [go_sem, hb0, hmade, hb1, hl, hb2, ho, hw1, hw2, hwf, hrl, hthf, c5]
                  refine W_cond rfl (fun c7 => ?_) (fun c7 => ?_)
                  · -- c7 true
                    try simp only [nrm] at c7
                    refine W_seq fun kz39 kq39 => ?_
                    refine W_region [2] fun R hR => ?_   -- r31
                    simp only [go_sem, hb0, hmade, hb1, hl, hb2, ho, hw1, hw2, hwf, hrl, hthf, c5]
                    refine hR _ _ (kq39 _ _ ?_); clear hR R; try clear kq39 kz39
                    try simp only [go_sem, hb0, hmade, hb1, hl, hb2, ho, hw1, hw2, hwf, hrl, hthf, c5]
                    refine W_ret ?_
                    simp only [go_sem, hb0, hmade, hb1, hl, hb2, ho, hw1, hw2, hwf, hrl, hthf, c5]
                    refine ⟨.inr (by trivial), ?_⟩
                    first | refine Fin_same hcl rfl (Wk_eq ?_ (by simp only [go_sem])) | refine Fin_self hcl rfl (Wk_eq ?_ (by simp only [go_sem]))
                    try simp only [go_sem]
                    all_goals
                      first | rfl | (simp_all; done) | (simp_all; omega)
                  · -- c7 false
                    try simp only [nrm] at c7
                    refine W_skip (kq22 _ _ ?_)
                    refine W_region [3, 4, 5, 8, 9, 10, 11, 16, 17] fun R hR => ?_   -- r18
                    simp only [go_sem, hb0, hmade, hb1, hl, hb2, ho, hw1, hw2, hwf, hrl, hthf, c5]
                    try simp (disch := omega) only [wrapI, wrapU]
                    refine hR _ _ ?_; clear hR R
                    try simp only [go_sem, hb0, hmade, hb1, hl, hb2, ho, hw1, hw2, hwf, hrl, hthf, c5]
                    refine ⟨(t + 1, run + 1, b), ?_, by (try simp only []); omega, ?_⟩
                    · refine Weak.trans (Weak.cutX 2 0 (by omega) (by omega) hcl (by simp only [go_sem] <;> omega) (by simp only [go_sem] <;> omega)) ?_
                      simp only [go_sem]
                      exact Weak.eq (by first | rfl | (simp only [go_sem]; done) | (simp only [go_sem]; rfl) | (simp [go_sem]; done) | (simp [go_sem]; omega)) (by first | rfl | (simp only [go_sem]; done) | (simp [go_sem]; done))
                    · try dsimp only
                      exact ⟨ht', by rw [hnx]; simp [← hft, c5]⟩
                · simp only [go_sem, hb0, hmade, hb1, hl, hb2, ho, hw1, hw2, hwf, hrl, hthf, c5]
                  refine GWant_split (fun g5 => ?_) (fun g5 => ?_)
                  · try simp only [Bool.not_eq_true', Bool.not_eq_false'] at g5
                    have n5 := g5; try simp only [nrm] at n5
                    simp only [go_sem, hb0, hmade, hb1, hl, hb2, ho, hw1, hw2, hwf, hrl, hthf, c5, g5]
                    refine GWant_split (fun g6 => ?_) (fun g6 => ?_)
                    · try simp only [Bool.not_eq_true', Bool.not_eq_false'] at g6
                      have n6 := g6; try simp only [nrm] at n6
                      simp only [go_sem, hb0, hmade, hb1, hl, hb2, ho, hw1, hw2, hwf, hrl, hthf, c5, g5, g6]
                      refine GWant_split (fun g7 => ?_) (fun g7 => ?_)
                      · try simp only [Bool.not_eq_true', Bool.not_eq_false'] at g7
                        have n7 := g7; try simp only [nrm] at n7
                        simp only [go_sem, hb0, hmade, hb1, hl, hb2, ho, hw1, hw2, hwf, hrl, hthf, c5, g5, g6, g7]
                        try simp (disch := omega) only [wrapI, wrapU]
                        refine hR _ ?_
                        try simp only [go_sem, hb0, hmade, hb1, hl, hb2, ho, hw1, hw2, hwf, hrl, hthf, c5]
                        all_goals
                          first | rfl | (simp [*]; done) | (simp only [PV.bool.injEq, decide_eq_false_iff_not]; exact hfst2 (by simp_all)) | (simp [*]; omega)
                      · try simp only [Bool.not_eq_true', Bool.not_eq_false'] at g7
                        have n7 := g7; try simp only [nrm] at n7
                        simp only [go_sem, hb0, hmade, hb1, hl, hb2, ho, hw1, hw2, hwf, hrl, hthf, c5, g5, g6, g7]
                        try simp (disch := omega) only [wrapI, wrapU]
                        refine hR _ ?_
                        try simp only [go_sem, hb0, hmade, hb1, hl, hb2, ho, hw1, hw2, hwf, hrl, hthf, c5]
                        all_goals
                          first | rfl | (simp [*]; done) | (simp only [PV.bool.injEq, decide_eq_false_iff_not]; exact hfst2 (by simp_all)) | (simp [*]; omega)
                    · try simp only [Bool.not_eq_true', Bool.not_eq_false'] at g6
                      have n6 := g6; try simp only [nrm] at n6
                      simp only [go_sem, hb0, hmade, hb1, hl, hb2, ho, hw1, hw2, hwf, hrl, hthf, c5, g5, g6]
                      try simp (disch := omega) only [wrapI, wrapU]
                      refine hR _ ?_
                      try simp only [go_sem, hb0, hmade, hb1, hl, hb2, ho, hw1, hw2, hwf, hrl, hthf, c5]
                      all_goals
                        first | rfl | (simp [*]; done) | (simp only [PV.bool.injEq, decide_eq_false_iff_not]; exact hfst2 (by simp_all)) | (simp [*]; omega)
                  · try simp only [Bool.not_eq_true', Bool.not_eq_false'] at g5
                    have n5 := g5; try simp only [nrm] at n5
                    simp only [go_sem, hb0, hmade, hb1, hl, hb2, ho, hw1, hw2, hwf, hrl, hthf, c5, g5]
                    refine GWant_split (fun g8 => ?_) (fun g8 => ?_)
                    · try simp only [Bool.not_eq_true', Bool.not_eq_false'] at g8
                      have n8 := g8; try simp only [nrm] at n8
                      simp only [go_sem, hb0, hmade, hb1, hl, hb2, ho, hw1, hw2, hwf, hrl, hthf, c5, g5, g8]
                      refine GWant_split (fun g9 => ?_) (fun g9 => ?_)
                      · try simp only [Bool.not_eq_true', Bool.not_eq_false'] at g9
                        have n9 := g9; try simp only [nrm] at n9
                        simp only [go_sem, hb0, hmade, hb1, hl, hb2, ho, hw1, hw2, hwf, hrl, hthf, c5, g5, g8, g9]
                        try simp (disch := omega) only [wrapI, wrapU]
                        refine hR _ ?_
                        try simp only [go_sem, hb0, hmade, hb1, hl, hb2, ho, hw1, hw2, hwf, hrl, hthf, c5]
                        all_goals
                          first | rfl | (simp [*]; done) | (simp only [PV.bool.injEq, decide_eq_false_iff_not]; exact hfst2 (by simp_all)) | (simp [*]; omega)
                      · try simp only [Bool.not_eq_true', Bool.not_eq_false'] at g9
                        have n9 := g9; try simp only [nrm] at n9
                        simp only [go_sem, hb0, hmade, hb1, hl, hb2, ho, hw1, hw2, hwf, hrl, hthf, c5, g5, g8, g9]
                        try simp (disch := omega) only [wrapI, wrapU]
                        refine hR _ ?_
                        try simp only [go_sem, hb0, hmade, hb1, hl, hb2, ho, hw1, hw2, hwf, hrl, hthf, c5]
                        all_goals
                          first | rfl | (simp [*]; done) | (simp only [PV.bool.injEq, decide_eq_false_iff_not]; exact hfst2 (by simp_all)) | (simp [*]; omega)
                    · try simp only [Bool.not_eq_true', Bool.not_eq_false'] at g8
                      have n8 := g8; try simp only [nrm] at n8
                      simp only [go_sem, hb0, hmade, hb1, hl, hb2, ho, hw1, hw2, hwf, hrl, hthf, c5, g5, g8]
                      try simp (disch := omega) only [wrapI, wrapU]
                      refine hR _ ?_
                      try simp only [go_sem, hb0, hmade, hb1, hl, hb2, ho, hw1, hw2, hwf, hrl, hthf, c5]
                      all_goals
                        first | rfl | (simp [*]; done) | (simp only [PV.bool.injEq, decide_eq_false_iff_not]; exact hfst2 (by simp_all)) | (simp [*]; omega)
              · simp only [go_sem, hb0, hmade, hb1, hl, hb2, ho, hw1, hw2, hwf, hrl, hthf, c5]
                refine GWant_split (fun g10 => ?_) (fun g10 => ?_)
                · try simp only [Bool.not_eq_true', Bool.not_eq_false'] at g10
                  have n10 := g10; try simp only [nrm] at n10
                  simp only [go_sem, hb0, hmade, hb1, hl, hb2, ho, hw1, hw2, hwf, hrl, hthf, c5, g10]
                  try simp (disch := omega) only [wrapI, wrapU]
                  refine hR _ ?_
                  try simp only [go_sem, hb0, hmade, hb1, hl, hb2, ho, hw1, hw2, hwf, hrl, hthf, c5]
                  all_goals
                    first | rfl | (simp [*]; done) | (simp only [Bool.and_eq_false_iff, decide_eq_false_iff_not] at hinf; simp [*]; omega)
                · try simp only [Bool.not_eq_true', Bool.not_eq_false'] at g10
                  have n10 := g10; try simp only [nrm] at n10
                  simp only [go_sem, hb0, hmade, hb1, hl, hb2, ho, hw1, hw2, hwf, hrl, hthf, c5, g10]
                  try simp (disch := omega) only [wrapI, wrapU]
                  refine hR _ ?_
                  try simp only [go_sem, hb0, hmade, hb1, hl, hb2, ho, hw1, hw2, hwf, hrl, hthf, c5]
                  all_goals
                    first | rfl | (simp [*]; done) | (simp only [Bool.and_eq_false_iff, decide_eq_false_iff_not] at hinf; simp [*]; omega)
        · -- c3 false
          try simp only [nrm] at c3
          refine W_exit ?_
          simp only [go_sem, hb0, hmade, hb1, hl, hb2, ho]
          refine kq13 _ _ ?_
          refine W_region [3, 4, 5, 8, 9] fun R hR => ?_   -- r10
          simp only [go_sem, hb0, hmade, hb1, hl, hb2, ho]
          try simp (disch := omega) only [wrapI, wrapU]
          refine hR _ _ ?_; clear hR R
          try simp only [go_sem, hb0, hmade, hb1, hl, hb2, ho]
          refine ⟨(sq + 1, b), ?_, by (try simp only []); omega, ?_⟩
          · refine Weak.trans (Weak.cutX 2 0 (by omega) (by omega) hcl (by simp only [go_sem] <;> omega) (by simp only [go_sem] <;> omega)) ?_
            simp only [go_sem]
            exact Weak.eq (by first | rfl | (simp only [go_sem]; done) | (simp only [go_sem]; rfl) | (simp [go_sem]; done) | (simp [go_sem]; omega)) (by first | rfl | (simp only [go_sem]; done) | (simp [go_sem]; done))
          · try dsimp only
            omega
      · simp only [go_sem, hb0, hmade, hb1, hl, hb2, ho, hk1, hk2, hf0, hm0, hs7, hwf]
        try simp (disch := omega) only [wrapI, wrapU]
        refine hR _ ?_
        try simp only [go_sem, hb0, hmade, hb1, hl, hb2, ho, hk1, hk2, hf0, hm0, hs7, hwf]
        all_goals
          first | rfl | (simp [*]; done)
    · -- c2 false
      try simp only [nrm] at c2
      refine W_exit ?_
      simp only [go_sem, hb0, hmade, hb1, hl, hb2]
      refine kq9 _ _ ?_
      refine W_seq fun kz40 kq40 => ?_
      refine W_region [2] fun R hR => ?_   -- r32
      simp only [go_sem, hb0, hmade, hb1, hl, hb2]
      refine GCall_of (lawake_pc Y _) ?_   -- t192
      simp only [go_sem, hb0, hmade, hb1, hl, hb2]
      refine hR _ _ (kq40 _ _ ?_); clear hR R; try clear kq40 kz40
      try simp only [go_sem, hb0, hmade, hb1, hl, hb2]
      refine W_ret ?_
      simp only [go_sem, hb0, hmade, hb1, hl, hb2]
      refine ⟨.inr (by trivial), ?_⟩
      first | refine Fin_same hcl rfl (Wk_eq ?_ (by simp only [go_sem])) | refine Fin_self hcl rfl (Wk_eq ?_ (by simp only [go_sem]))
      try simp only [go_sem]
      all_goals
        first | rfl | (simp_all; done) | (simp_all; omega)
end Go.Proofs.Ytnpamcpoaklgeaa
namespace Go.Proofs.Ytnpamcpoaklgeaa
open Go Go.RowKit
theorem rdBandAsleepArgs : All2 (fun t R => Rd Try.prog t R) Try.f12.params.toList [fun p => ∃ xs : List Int, p = ints xs ∧ xs.length * 8 ≤ 140737488351232] :=
  .cons rdInts .nil
set_option maxHeartbeats 4000000 in
theorem BandAsleep_walk : ∀ qs, AllR [fun p => ∃ xs : List Int, p = ints xs ∧ xs.length * 8 ≤ 140737488351232] qs → ∃ σ', PC Try.prog noY 12 qs Sg.zero (.bool true) σ' := by
  intro qs hq
  obtain ⟨px0, qs, rfl, ⟨x0, hx0, sx0⟩, hq⟩ := allR_cons hq
  obtain rfl := allR_nil hq
  subst hx0
  exact ⟨_, BandAsleep_pc noY _ x0 (by omega)⟩
theorem BandAsleep_lifted (os : Os) (started : os.Started) (H : Type) (enc : TypeId × Value → H) :
    ReturnsInHanded {} Try.checked os 12 .any (Rows.bandAsleepSpec.pre6 enc Try.prog Try.f12 Rows.bandAsleepRow.domain false) (Rows.bandAsleepSpec.post enc Try.prog Try.f12 false true false false) :=
  law_lifted (C := Try.checked) own started (by kernel_rfl) Try.func12 rfl laidOut (by kernel_rfl) rdBandAsleepArgs rfl Try.underlying4
    (fun ds h => match ds, h with | [_], _ => rfl)
    (ChangeSpec.witness6 (enc := enc) (C := Try.checked) false ⟨#[], #[.slice none 0 0], []⟩ 8 (by kernel_rfl) (by kernel_rfl) (by kernel_rfl) (by kernel_rfl))
    BandAsleep_walk
theorem BandAsleep_holds : Rows.BandAsleepSaid :=
  OpenClaim.holds_of_wide 12 Try.f12 rfl rfl rfl rfl rfl rfl rfl ⟨rfl, rfl, rfl, rfl, rfl⟩ rfl rfl rfl rfl rfl (by kernel_rfl) Try.func12 (by kernel_rfl)
    (of_decide_eq_true (by kernel_rfl)) (by unfold Func.isWrapper; first | (rw [if_pos (by decide +kernel)]; kernel_rfl) | (rw [if_neg (by decide +kernel)]; exact ⟨rfl, rfl⟩))
    (fun os started H enc _ => BandAsleep_lifted os started H enc)
end Go.Proofs.Ytnpamcpoaklgeaa
