/-
  The law SongDuels: whatever comes in, it answers true and leaves what came in as it was.
  The law SongDuels, walked: a song that is over each other one.
  What can be said of duels, in plain Lean.
  What can be said of a runoff, in plain Lean.
  Walks: duels (song).
  Walks: duels (song, bateriaref04).
  Walks: songs over each other one (song, bateriaref04).
  Songs that are over each other one, in plain Lean.
  Walks: songs left out, by the document (song, bateriaref04).
  Walks: preferences made of numbers (bateriakit).
  Walks: an order made of numbers (bateriakit).
  Walks: drums made of numbers, spans (bateriakit).
  Numbers that follow from numbers (bateriakit): the drum.
  Walks: the chapter's examples checked (song).
  Walks: songs left out one after the other (song).
  Songs that are left out one after the other, in plain Lean.
-/
import Derived.Test.YtnolifglhhjdnaaPe
import Derived.CallsIn
import Derived.RangeFuncLeaves
import Derived.RangeFuncRecord
import Derived.OrdersIn
import Derived.Below
import Derived.Laws.World
import Derived.Laws.StructEq
import Derived.Laws.Append
import Derived.MapKept
import Derived.ProofKit
import Derived.Carry
import Derived.Handed
import Derived.ChangeCalls
import Derived.RangeFuncIn
import Derived.RangeFuncNested
import Derived.Test.YtnolifglhhjdnaaProg
import Derived.KernelRfl
import Derived.IntWalk
import Derived.Sort.OwnSortedInts
import Derived.Lib.SlicesCompact
import Derived.Test.YtnolifglhhjdnaaRows
import Derived.Shelf.Sort.Plain
import Derived.Shelf.Slices.In.SortNone
import Derived.Shelf.Small.Bits
import Derived.JoinedOf
set_option linter.unusedSimpArgs false
set_option linter.unusedVariables false
namespace Go.Proofs.Ytnolifglhhjdnaa
open Go
set_option maxRecDepth 100000
/-- The first song of a list that is not left out. -/
def firstLeft (out l : List Int) : Option Int := l.find? fun s => !has out s
/-- How many lists are for a song. -/
def manyFor (out : List Int) (ls : List (List Int)) (s : Int) : Nat := ls.countP fun l => decide (firstLeft out l = some s)
theorem manyFor_snoc (out : List Int) (ls : List (List Int)) (l : List Int) (s : Int) : manyFor out (ls ++ [l]) s = manyFor out ls s + (if firstLeft out l = some s then 1 else 0) := by
  simp [manyFor, List.countP_append, List.countP_cons]
theorem manyFor_le (out : List Int) (ls : List (List Int)) (s : Int) : manyFor out ls s ≤ ls.length := List.countP_le_length
/-- The last one of those for which the fewest lists are. -/
def worstF (out : List Int) (ls : List (List Int)) : Nat → Int
  | 0 => -1
  | i + 1 => if !has out i && (decide (worstF out ls i < 0) || decide (manyFor out ls i ≤ manyFor out ls (worstF out ls i))) then (i : Int) else worstF out ls i
theorem worstF_bd (out : List Int) (ls : List (List Int)) : ∀ i, (worstF out ls i = -1 ∧ ∀ s : Nat, s < i → has out s = true) ∨ (0 ≤ worstF out ls i ∧ worstF out ls i < i ∧ has out (worstF out ls i) = false) := by
  intro i
  induction i with
  | zero => exact .inl ⟨rfl, fun s h => by omega⟩
  | succ i ih =>
    simp only [worstF]
    split
    · rename_i h
      right
      simp only [Bool.and_eq_true, Bool.not_eq_true'] at h
      exact ⟨by omega, by omega, h.1⟩
    · rename_i h
      rcases ih with ⟨h1, h2⟩ | ⟨h1, h2, h3⟩
      · left
        refine ⟨h1, fun s hs => ?_⟩
        by_cases e : s = i
        · subst e
          rw [h1] at h
          simpa using h
        · exact h2 s (by omega)
      · right; exact ⟨h1, by omega, h3⟩
/-- So many songs, left out. -/
def runU (n : Nat) (ls : List (List Int)) : Nat → List Int
  | 0 => []
  | i + 1 => runU n ls i ++ [worstF (runU n ls i) ls n]
theorem runU_len (n : Nat) (ls : List (List Int)) : ∀ i, (runU n ls i).length = i := by
  intro i
  induction i with
  | zero => rfl
  | succ i ih => simp [runU, ih]
theorem sub_len : ∀ {l l' : List Int}, l.Nodup → (∀ x, x ∈ l → x ∈ l') → l.length ≤ l'.length := by
  intro l
  induction l with
  | nil => intro l' _ _; simp
  | cons a l ih =>
    intro l' hn hs
    obtain ⟨h1, h2⟩ := List.nodup_cons.1 hn
    have ha := hs a (by simp)
    have := ih (l' := l'.erase a) h2 fun x hx => (List.mem_erase_of_ne (show x ≠ a from fun e => h1 (by rw [← e]; exact hx))).2 (hs x (by simp [hx]))
    rw [List.length_erase_of_mem ha] at this
    have hp := List.length_pos_of_mem ha
    simp only [List.length_cons]
    omega
theorem some_left {n : Nat} {out : List Int} (h : out.length < n) : ∃ s : Nat, s < n ∧ has out s = false := by
  refine Classical.byContradiction fun hh => ?_
  have hall : ∀ s : Nat, s < n → has out s = true := fun s hs => by
    cases e : has out s with
    | true => rfl
    | false => exact absurd ⟨s, hs, e⟩ hh
  have hnd : ((List.range n).map fun s : Nat => (s : Int)).Nodup := by
    rw [List.nodup_iff_pairwise_ne, List.pairwise_map]
    exact (List.nodup_iff_pairwise_ne.1 List.nodup_range).imp fun h e => h (by omega)
  have := sub_len hnd (l' := out) fun x hx => by
    obtain ⟨s, hs, rfl⟩ := List.mem_map.1 hx
    exact has_iff.1 (hall s (List.mem_range.1 hs))
  simp at this
  omega
theorem worst_ok {n : Nat} {out : List Int} (ls : List (List Int)) (h : out.length < n) : 0 ≤ worstF out ls n ∧ worstF out ls n < n ∧ has out (worstF out ls n) = false := by
  rcases worstF_bd out ls n with ⟨_, h2⟩ | h2
  · obtain ⟨s, hs, e⟩ := some_left h
    rw [h2 s hs] at e; cases e
  · exact h2
theorem runU_ok (n : Nat) (ls : List (List Int)) : ∀ i, i ≤ n → (∀ x, x ∈ runU n ls i → 0 ≤ x ∧ x < n) ∧ (runU n ls i).Nodup := by
  intro i
  induction i with
  | zero => intro _; exact ⟨fun x hx => absurd hx (by simp [runU]), by simp [runU]⟩
  | succ i ih =>
    intro hi
    obtain ⟨h1, h2⟩ := ih (by omega)
    obtain ⟨w1, w2, w3⟩ := worst_ok (n := n) (out := runU n ls i) ls (by rw [runU_len]; omega)
    refine ⟨fun x hx => ?_, ?_⟩
    · simp only [runU, List.mem_append, List.mem_singleton] at hx
      rcases hx with hx | rfl
      · exact h1 x hx
      · exact ⟨w1, w2⟩
    · simp only [runU]
      rw [List.nodup_append]
      refine ⟨h2, by simp, fun a ha b hb e => ?_⟩
      simp at hb
      subst hb e
      rw [has_iff.2 ha] at w3; cases w3
/-- The first song that is not left out. -/
def winF (out : List Int) : Nat → Nat → Int
  | 0, i => i
  | k + 1, i => if has out i then winF out k (i + 1) else i
theorem winF_bd {n : Nat} {out : List Int} : ∀ (k i : Nat), i + k = n → (∃ s : Nat, i ≤ s ∧ s < n ∧ has out s = false) → ∃ w : Nat, winF out k i = w ∧ i ≤ w ∧ w < n ∧ has out w = false ∧ ∀ s : Nat, i ≤ s → s < w → has out s = true := by
  intro k
  induction k with
  | zero => rintro i h ⟨s, h1, h2, _⟩; omega
  | succ k ih =>
    rintro i h ⟨s, h1, h2, h3⟩
    simp only [winF]
    by_cases e : has out i = true
    · rw [if_pos e]
      obtain ⟨w, g1, g2, g3, g4, g5⟩ := ih (i + 1) (by omega) ⟨s, by
        by_cases q : s = i
        · subst q; rw [e] at h3; cases h3
        · omega, h2, h3⟩
      refine ⟨w, g1, by omega, g3, g4, fun q q1 q2 => ?_⟩
      by_cases q3 : q = i
      · subst q3; exact e
      · exact g5 q (by omega) q2
    · rw [if_neg e]
      exact ⟨i, rfl, Nat.le_refl _, by omega, by simpa using e, fun q q1 q2 => by omega⟩
/-- Songs left out, the one that remains, an error. -/
def runoffA (n : Int) (ls : List (List Int)) : List Int × Int × Int :=
  if chkPf n ls ≠ 0 then ([], 0, chkPf n ls) else (runU n.toNat ls (n.toNat - 1), winF (runU n.toNat ls (n.toNat - 1)) n.toNat 0, 0)
def goneC (out : List Int) : List PV := (List.range 8).map fun s : Nat => PV.bool (has out s)
def manyC (out : List Int) (ls : List (List Int)) : List PV := (List.range 8).map fun s : Nat => I (manyFor out ls s : Nat)
theorem goneC_get {out : List Int} {s : Nat} (h : s < 8) : (goneC out)[s]? = some (.bool (has out s)) := by simp [goneC, h]
theorem manyC_get {out : List Int} {ls : List (List Int)} {s : Nat} (h : s < 8) : (manyC out ls)[s]? = some (I (manyFor out ls s : Nat)) := by simp [manyC, h]
theorem has_snoc {out : List Int} {w v : Int} : has (out ++ [w]) v = (has out v || decide (w = v)) := by simp [has, List.any_append]
theorem goneC_set {out : List Int} {s : Nat} (h : s < 8) : (goneC out).set s (.bool true) = goneC (out ++ [(s : Int)]) := by
  apply List.ext_getElem?
  intro i
  by_cases e : s = i
  · subst e
    rw [List.getElem?_set_self (by simpa [goneC] using h), goneC_get h, has_snoc]
    simp
  · rw [List.getElem?_set_ne e]
    by_cases hi : i < 8
    · rw [goneC_get hi, goneC_get hi, has_snoc]
      simp; omega
    · simp [goneC, hi]
theorem manyC_none {out : List Int} {ls : List (List Int)} {l : List Int} (h : firstLeft out l = none) : manyC out (ls ++ [l]) = manyC out ls := by
  unfold manyC
  refine List.map_congr_left fun s _ => ?_
  rw [manyFor_snoc, if_neg (by rw [h]; simp)]
  rfl
theorem manyC_some {out : List Int} {ls : List (List Int)} {l : List Int} {s : Nat} (h : s < 8) (hf : firstLeft out l = some (s : Int)) : (manyC out ls).set s (I ((manyFor out ls s : Nat) + 1)) = manyC out (ls ++ [l]) := by
  apply List.ext_getElem?
  intro i
  by_cases e : s = i
  · subst e
    rw [List.getElem?_set_self (by simpa [manyC] using h), manyC_get h, manyFor_snoc, if_pos hf]
    rfl
  · rw [List.getElem?_set_ne e]
    by_cases hi : i < 8
    · rw [manyC_get hi, manyC_get hi, manyFor_snoc, if_neg (by rw [hf]; intro h; injection h with h; omega)]
      rfl
    · simp [manyC, hi]
theorem firstLeft_at {out l : List Int} {k : Nat} {v : Int} (hk : ∀ x, x ∈ l.take k → has out x = true) (hv : l[k]? = some v) (h : has out v = false) : firstLeft out l = some v := by
  have hlt := (List.getElem?_eq_some_iff.1 hv).1
  unfold firstLeft
  rw [List.find?_eq_some_iff_append]
  refine ⟨by simp [h], l.take k, l.drop (k + 1), ?_, fun x hx => by simp [hk x hx]⟩
  conv => lhs; rw [← List.take_append_drop k l]
  rw [List.drop_eq_getElem_cons hlt, (List.getElem?_eq_some_iff.1 hv).2]
theorem firstLeft_none {out l : List Int} (h : ∀ x, x ∈ l → has out x = true) : firstLeft out l = none := by
  unfold firstLeft
  rw [List.find?_eq_none]
  intro x hx
  simp [h x hx]
end Go.Proofs.Ytnolifglhhjdnaa
namespace Go.Proofs.Ytnolifglhhjdnaa
open Go Go.RowKit
set_option maxRecDepth 100000
theorem goneC_len (out : List Int) : (goneC out).length = 8 := by simp [goneC]
theorem manyC_len (out : List Int) (ls : List (List Int)) : (manyC out ls).length = 8 := by simp [manyC]
theorem goneC_clean {a b c : Nat} (out : List Int) : CleanAll a b c (goneC out) := by
  intro p hp
  obtain ⟨s, _, rfl⟩ := List.mem_map.1 hp
  simp only [go_sem]
theorem beqB2 {a b : Bool} : eqPV Try.prog 4 (.bool a) (.bool b) = some (decide (a = b)) := by cases a <;> cases b <;> kernel_rfl
theorem sl86 {id : Nat} {k : IntKind} {n : Nat} (h0 : 0 < n) (h8 : n ≤ 8) : slicePV Try.prog 86 (.ptr id 0) none (some (.int k n)) none = some (.msl id 0 n) := by
  unfold slicePV
  rw [Try.underlying86]
  simp only [Try.underlying4, bnd]
  simp [h8]
  omega
def idxF (out : List Int) : Nat → Nat → Int
  | 0, _ => -1
  | k + 1, i => if has out i = false then i else idxF out k (i + 1)
theorem idxF_eq {n : Nat} {out : List Int} : ∀ (k i : Nat), i + k = n → (∃ s : Nat, i ≤ s ∧ s < n ∧ has out s = false) → idxF out k i = winF out k i := by
  intro k
  induction k with
  | zero => rintro i h ⟨s, h1, h2, _⟩; omega
  | succ k ih =>
    rintro i h ⟨s, h1, h2, h3⟩
    simp only [idxF, winF]
    cases e : has out i with
    | false => simp
    | true =>
      simp only [Bool.true_eq_false, if_false, if_true]
      exact ih (i + 1) (by omega) ⟨s, by
        by_cases q : s = i
        · subst q; rw [e] at h3; cases h3
        · omega, h2, h3⟩
set_option maxHeartbeats 2000000 in
theorem gIndex_pc (Y : YEnv) (σ : Sg) (out : List Int) (id n : Nat) (hn8 : n ≤ 8) (hd : σ.store[id]? = some (some (goneC out))) :
    PC Try.prog Y 46 [.msl id 0 n, .bool false] σ (I (idxF out n 0)) (σ) := by
  refine PC_of_W Try.func46 rfl (by kernel_rfl) Try.ntmps46 (by simp) fun hcl hca => ?_
  obtain ⟨res, hres⟩ : ∃ r, idxF out n 0 = r := ⟨_, rfl⟩
  rw [hres]
  refine W_seq fun kz1 kq1 => ?_
  refine W_region [0, 1] fun R hR => ?_   -- r0
  simp only [go_sem, beqB2, ldS_at hd]
  refine hR _ _ (kq1 _ _ ?_); clear hR R; try clear kq1 kz1
  try simp only [go_sem, beqB2, ldS_at hd]
  refine W_seq fun kz2 kq2 => ?_
  refine W_seq fun kz3 kq3 => ?_
  refine W_region [0, 1, 7, 8] fun R hR => ?_   -- r1
  simp only [go_sem, beqB2, ldS_at hd]
  refine hR _ _ (kq3 _ _ ?_); clear hR R; try clear kq3 kz3
  try simp only [go_sem, beqB2, ldS_at hd]
  refine W_block ?_
  refine W_loopS (α := Nat) (fun (i : Nat) => [(8, I i)]) (fun (i : Nat) => i ≤ n ∧ res = idxF out (n - i) i) (fun (i : Nat) => n - i) (0) rfl (⟨Nat.zero_le _, hres.symm⟩) ?_
  rintro i ⟨hi, hinv⟩
  refine W_seq fun kz4 kq4 => ?_
  refine W_region [0, 1, 7, 8, 9] fun R hR => ?_   -- r2
  simp only [go_sem, beqB2, ldS_at hd]
  refine hR _ _ (kq4 _ _ ?_); clear hR R; try clear kq4 kz4
  try simp only [go_sem, beqB2, ldS_at hd]
  refine W_seq fun kz5 kq5 => ?_
  refine W_cond rfl (fun c1 => ?_) (fun c1 => ?_)
  · -- c1 true
    try simp only [nrm] at c1
    have hin : i < n := by first | assumption | omega
    have hin2 : (i : Int) < (n : Int) := by omega
    obtain ⟨k, hk⟩ : ∃ k, n - i = k + 1 := ⟨n - i - 1, by omega⟩
    rw [hk] at hinv
    simp only [idxF] at hinv
    have hg := goneC_get (out := out) (s := i) (by omega)
    refine W_skip (kq5 _ _ ?_)
    refine W_seq fun kz6 kq6 => ?_
    refine W_block ?_
    refine W_seq fun kz7 kq7 => ?_
    refine W_region [0, 1, 5, 7, 8] fun R hR => ?_   -- r3
    simp only [go_sem, beqB2, ldS_at hd, hg]
    refine hR _ _ (kq7 _ _ ?_); clear hR R; try clear kq7 kz7
    try simp only [go_sem, beqB2, ldS_at hd, hg]
    refine W_seq fun kz8 kq8 => ?_
    refine W_region [0, 1, 5, 7, 8, 16] fun R hR => ?_   -- r4
    simp only [go_sem, beqB2, ldS_at hd, hg, hin2, iaM_nat (Int.ofNat_lt.1 hin2), Nat.mul_one, Nat.zero_add, bindSome]
    refine hR _ _ (kq8 _ _ ?_); clear hR R; try clear kq8 kz8
    try simp only [go_sem, beqB2, ldS_at hd, hg]
    refine W_cond rfl (fun c2 => ?_) (fun c2 => ?_)
    · -- c2 true
      try simp only [nrm] at c2
      refine W_seq fun kz9 kq9 => ?_
      refine W_region [4] fun R hR => ?_   -- r5
      simp only [go_sem, beqB2, ldS_at hd, hg]
      refine hR _ _ (kq9 _ _ ?_); clear hR R; try clear kq9 kz9
      try simp only [go_sem, beqB2, ldS_at hd, hg]
      refine W_ret ?_
      simp only [go_sem, beqB2, ldS_at hd, hg]
      refine ⟨.inr (by trivial), ?_⟩
      first | refine Fin_same hcl rfl (Wk_eq ?_ (by simp only [go_sem])) | refine Fin_self hcl rfl (Wk_eq ?_ (by simp only [go_sem]))
      try simp only [go_sem]
      all_goals
        first | (rw [hinv]; done) | (rw [hinv]; simp_all; done) | rfl
    · -- c2 false
      try simp only [nrm] at c2
      refine W_skip (kq6 _ _ ?_)
      refine W_region [0, 1, 7, 8] fun R hR => ?_   -- r6
      simp only [go_sem, beqB2, ldS_at hd, hg]
      try simp (disch := omega) only [wrapI, wrapU]
      refine hR _ _ ?_; clear hR R
      try simp only [go_sem, beqB2, ldS_at hd, hg]
      refine ⟨i + 1, ?_, by (try simp only []); omega, ?_⟩
      · first | exact Weak.refl | exact Weak.eq (by first | rfl | (simp only [go_sem]; done) | (simp only [go_sem]; rfl) | (simp [go_sem]; done) | (simp [go_sem]; omega)) (by first | rfl | (simp only [go_sem]; done) | (simp [go_sem]; done))
      · try dsimp only
        refine ⟨hin, ?_⟩
        rw [hinv, show n - (i + 1) = k by omega]
        simp_all
  · -- c1 false
    try simp only [nrm] at c1
    have hie : n - i = 0 := by omega
    rw [hie] at hinv
    simp only [idxF] at hinv
    refine W_exit ?_
    simp only [go_sem, beqB2, ldS_at hd]
    refine kq2 _ _ ?_
    refine W_seq fun kz10 kq10 => ?_
    refine W_region [4] fun R hR => ?_   -- r7
    simp only [go_sem, beqB2, ldS_at hd]
    refine hR _ _ (kq10 _ _ ?_); clear hR R; try clear kq10 kz10
    try simp only [go_sem, beqB2, ldS_at hd]
    refine W_ret ?_
    simp only [go_sem, beqB2, ldS_at hd]
    refine ⟨.inr (by trivial), ?_⟩
    first | refine Fin_same hcl rfl (Wk_eq ?_ (by simp only [go_sem])) | refine Fin_self hcl rfl (Wk_eq ?_ (by simp only [go_sem]))
    try simp only [go_sem]
    all_goals
      first | (rw [hinv]; done) | (rw [hinv]; simp_all; done) | rfl
set_option maxHeartbeats 8000000 in
theorem Runoff_pc (Y : YEnv) (σ : Sg) (n : Int) (ls : List (List Int)) (hl : ls.length < 2 ^ 40) (hl2 : ∀ l, l ∈ ls → l.length < 2 ^ 40) :
    PC Try.prog Y 21 [I n, lls ls] σ (.tuple [ints (runoffA n ls).1, I (runoffA n ls).2.1, I (runoffA n ls).2.2]) (σ) := by
  refine PC_of_W Try.func21 rfl (by kernel_rfl) Try.ntmps21 (by simp) fun hcl hca => ?_
  refine W_seq fun kz1 kq1 => ?_
  refine W_region [0, 1, 4] fun R hR => ?_   -- r0
  simp only [go_sem]
  refine hR _ _ (kq1 _ _ ?_); clear hR R; try clear kq1 kz1
  try simp only [go_sem]
  refine W_seq fun kz2 kq2 => ?_
  refine W_seq fun kz3 kq3 => ?_
  refine W_region [0, 1, 4, 7] fun R hR => ?_   -- r1
  simp only [go_sem]
  refine GCall_of (chkPf_pc Y _ n ls hl hl2) ?_   -- t18
  simp only [go_sem]
  refine hR _ _ (kq3 _ _ ?_); clear hR R; try clear kq3 kz3
  try simp only [go_sem]
  refine W_seq fun kz4 kq4 => ?_
  refine W_region [0, 1, 4, 7, 20] fun R hR => ?_   -- r2
  simp only [go_sem]
  refine hR _ _ (kq4 _ _ ?_); clear hR R; try clear kq4 kz4
  try simp only [go_sem]
  refine W_cond rfl (fun c1 => ?_) (fun c1 => ?_)
  · -- c1 true
    try simp only [nrm] at c1
    refine W_seq fun kz5 kq5 => ?_
    refine W_region [4, 5, 6] fun R hR => ?_   -- r3
    simp only [go_sem]
    refine hR _ _ (kq5 _ _ ?_); clear hR R; try clear kq5 kz5
    try simp only [go_sem]
    refine W_ret ?_
    simp only [go_sem]
    refine ⟨.inr (by trivial), ?_⟩
    first | (rw [hall]; refine Fin_same hcl rfl (Wk.ro (by simp only [go_sem]) ?_)) | refine Fin_same hcl rfl (Wk.ro (by simp only [go_sem]) ?_) | refine Fin_self hcl rfl (Wk.ro (by simp only [go_sem]) ?_)
    try simp only [go_sem]
    all_goals
      simp only [runoffA]; rw [if_pos c1]; first | rfl | simp only [go_sem]
  · -- c1 false
    try simp only [nrm] at c1
    have hV := pfV_iff.1 c1
    have hn1 := hV.nb
    obtain ⟨N, hN⟩ : ∃ z : Nat, n = z := ⟨n.toNat, by omega⟩
    have hall : runoffA n ls = (runU N ls (N - 1), winF (runU N ls (N - 1)) N 0, 0) := by
      unfold runoffA
      rw [if_neg (by simp [c1]), hN, Int.toNat_natCast]
    have hmem := fun l (h : l ∈ ls) => (chkRow_mem (hV.ck l h)).1
    subst hN
    refine W_skip (kq2 _ _ ?_)
    refine W_seq fun kz6 kq6 => ?_
    refine W_region [0, 1, 4, 8] fun R hR => ?_   -- r4
    simp only [go_sem]
    refine hR _ _ (kq6 _ _ ?_); clear hR R; try clear kq6 kz6
    try simp only [go_sem]
    refine W_seq fun kz7 kq7 => ?_
    refine W_block ?_
    refine W_weak (Weak.room (t := 4) (es := 1) rfl (by simp)) ?_
    refine W_weak (Weak.keep [0, 1, 4, 8]) ?_
    simp only [go_sem]
    refine W_loopT (α := Nat) (fun (i : Nat) => [(4, .isl ((runU N ls i).map I) (.tok σ.rooms.length i 1))]) (fun (i : Nat) => σ.ext [some (goneC (runU N ls i))] [i]) (fun (i : Nat) => i ≤ N - 1) (fun (i : Nat) => N - 1 - i) (0) rfl (by first | rfl | (simp only [go_sem]; done) | (simp only [go_sem]; rfl)) (Nat.zero_le _) ?_
    rintro i hi
    have hrl := runU_len N ls i
    obtain ⟨out, hout⟩ : ∃ z, runU N ls i = z := ⟨_, rfl⟩
    rw [hout] at hrl
    rw [hout]
    refine W_seq fun kz8 kq8 => ?_
    refine W_seq fun kz9 kq9 => ?_
    refine W_region [0, 1, 4, 8, 26] fun R hR => ?_   -- r5
    simp only [go_sem, hrl]
    try simp (disch := omega) only [wrapI, wrapU]
    refine hR _ _ (kq9 _ _ ?_); clear hR R; try clear kq9 kz9
    try simp only [go_sem, hrl]
    refine W_cond rfl (fun c2 => ?_) (fun c2 => ?_)
    · -- c2 true
      try simp only [nrm] at c2
      have hiN : i < N - 1 := by first | omega | (simp at c2; omega)
      have hok := runU_ok N ls i (by omega)
      have hw := worst_ok (n := N) ls (out := out) (by omega)
      refine W_skip (kq8 _ _ ?_)
      refine W_block ?_
      refine W_scope ?_
      refine W_seq fun kz10 kq10 => ?_
      refine W_region [0, 1, 4, 8, 9] fun R hR => ?_   -- r6
      simp only [go_sem, hrl]
      refine hR _ _ (kq10 _ _ ?_); clear hR R; try clear kq10 kz10
      try simp only [go_sem, hrl]
      refine W_seq fun kz11 kq11 => ?_
      refine W_label (kq11 _ _ ?_)
      refine W_seq fun kz12 kq12 => ?_
      refine W_seq fun kz13 kq13 => ?_
      refine W_region [0, 1, 4, 8, 9, 27, 28, 29] fun R hR => ?_   -- r7
      simp only [go_sem, hrl]
      refine hR _ _ (kq13 _ _ ?_); clear hR R; try clear kq13 kz13
      try simp only [go_sem, hrl]
      refine W_block ?_
      refine W_loopT (α := Nat) (fun (j : Nat) => [(29, I j)]) (fun (j : Nat) => σ.ext [some (goneC out), some (manyC out (ls.take j))] [i]) (fun (j : Nat) => j ≤ ls.length) (fun (j : Nat) => ls.length - j) (0) rfl (by first | rfl | (simp only [go_sem]; done) | (simp only [go_sem]; rfl)) (Nat.zero_le _) ?_
      rintro j hj
      refine W_seq fun kz14 kq14 => ?_
      refine W_region [0, 1, 4, 8, 9, 27, 28, 29, 30] fun R hR => ?_   -- r8
      simp only [go_sem, hrl]
      refine hR _ _ (kq14 _ _ ?_); clear hR R; try clear kq14 kz14
      try simp only [go_sem, hrl]
      refine W_seq fun kz15 kq15 => ?_
      refine W_cond rfl (fun c3 => ?_) (fun c3 => ?_)
      · -- c3 true
        try simp only [nrm] at c3
        have hj' : j < ls.length := by first | assumption | omega
        obtain ⟨l, hlj⟩ : ∃ l, ls[j]? = some l := ⟨ls[j], by simp [hj']⟩
        have hdrop : ls.drop j = l :: ls.drop (j + 1) := by
          rw [List.drop_eq_getElem_cons hj']; congr 1; exact (List.getElem?_eq_some_iff.1 hlj).2
        have hsn : ls.take (j + 1) = ls.take j ++ [l] := by rw [List.take_add_one, hlj]; rfl
        have hlm := hmem l (List.mem_of_getElem? hlj)
        have hll := hl2 l (List.mem_of_getElem? hlj)
        have hj2 : j + 1 ≤ ls.length := hj'
        refine W_skip (kq15 _ _ ?_)
        refine W_seq fun kz16 kq16 => ?_
        refine W_block ?_
        refine W_seq fun kz17 kq17 => ?_
        refine W_region [0, 1, 4, 8, 9, 11, 27, 28, 29] fun R hR => ?_   -- r9
        simp only [go_sem, hrl, hlj, llPV]
        refine hR _ _ (kq17 _ _ ?_); clear hR R; try clear kq17 kz17
        try simp only [go_sem, hrl, hlj, llPV]
        refine W_seq fun kz18 kq18 => ?_
        refine W_region [0, 1, 4, 8, 9, 27, 28, 29, 33, 34, 35] fun R hR => ?_   -- r10
        simp only [go_sem, hrl, hlj, llPV]
        refine hR _ _ (kq18 _ _ ?_); clear hR R; try clear kq18 kz18
        try simp only [go_sem, hrl, hlj, llPV]
        refine W_block ?_
        refine W_loopT (α := Nat) (fun (k : Nat) => [(35, I k)]) (fun (k : Nat) => σ.ext [some (goneC out), some (manyC out (ls.take j))] [i]) (fun (k : Nat) => k ≤ l.length ∧ ∀ x, x ∈ l.take k → has out x = true) (fun (k : Nat) => l.length - k) (0) rfl (by first | rfl | (simp only [go_sem]; done) | (simp only [go_sem]; rfl)) (⟨Nat.zero_le _, fun x hx => by simp at hx⟩) ?_
        rintro k ⟨hk, hta⟩
        refine W_seq fun kz19 kq19 => ?_
        refine W_region [0, 1, 4, 8, 9, 27, 28, 29, 33, 34, 35, 36] fun R hR => ?_   -- r11
        simp only [go_sem, hrl, hlj, llPV]
        refine hR _ _ (kq19 _ _ ?_); clear hR R; try clear kq19 kz19
        try simp only [go_sem, hrl, hlj, llPV]
        refine W_seq fun kz20 kq20 => ?_
        refine W_cond rfl (fun c4 => ?_) (fun c4 => ?_)
        · -- c4 true
          try simp only [nrm] at c4
          have hk' : k < l.length := by first | assumption | omega
          obtain ⟨v, hv⟩ : ∃ v, l[k]? = some v := ⟨l[k], by simp [hk']⟩
          have hdrop : l.drop k = v :: l.drop (k + 1) := by
            rw [List.drop_eq_getElem_cons hk']; congr 1; exact (List.getElem?_eq_some_iff.1 hv).2
          have hvb := hlm v (List.mem_of_getElem? hv)
          obtain ⟨vn, hvn⟩ : ∃ z : Nat, v = z := ⟨v.toNat, by omega⟩
          subst hvn
          have hgv := goneC_get (out := out) (s := vn) (by omega)
          have hmv := manyC_get (out := out) (ls := ls.take j) (s := vn) (by omega)
          have hml := manyFor_le out (ls.take j) vn
          have hvn8 : (vn : Int) < 8 := by omega
          have hml8 : decide (vn + 1 ≤ (manyC out (ls.take j)).length) = true := decide_eq_true (by rw [manyC_len]; omega)
          rw [List.length_take] at hml
          refine W_skip (kq20 _ _ ?_)
          refine W_seq fun kz21 kq21 => ?_
          refine W_block ?_
          refine W_seq fun kz22 kq22 => ?_
          refine W_region [0, 1, 4, 8, 9, 13, 27, 28, 29, 33, 34, 35] fun R hR => ?_   -- r12
          simp only [go_sem, hrl, hlj, llPV, hv, hgv, hmv, hvn8, hml8, Nat.mul_one]
          refine hR _ _ (kq22 _ _ ?_); clear hR R; try clear kq22 kz22
          try simp only [go_sem, hrl, hlj, llPV, hv, hgv, hmv, hvn8, hml8, Nat.mul_one]
          refine W_seq fun kz23 kq23 => ?_
          refine W_region [0, 1, 4, 8, 9, 13, 27, 28, 29, 33, 34, 35, 42] fun R hR => ?_   -- r13
          simp only [go_sem, hrl, hlj, llPV, hv, hgv, hmv, hvn8, hml8, Nat.mul_one]
          refine hR _ _ (kq23 _ _ ?_); clear hR R; try clear kq23 kz23
          try simp only [go_sem, hrl, hlj, llPV, hv, hgv, hmv, hvn8, hml8, Nat.mul_one]
          refine W_cond rfl (fun c5 => ?_) (fun c5 => ?_)
          · -- c5 true
            try simp only [nrm] at c5
            have hf := firstLeft_at hta hv (by simpa using c5)
            have hset := manyC_some (out := out) (ls := ls.take j) (s := vn) (by omega) hf
            rw [← hsn] at hset
            refine W_seq fun kz24 kq24 => ?_
            refine W_region [0, 1, 4, 8, 9, 27, 28, 29] fun R hR => ?_   -- r14
            simp only [go_sem, hrl, hlj, llPV, hv, hgv, hmv, hvn8, hml8, Nat.mul_one, hset]
            try simp (disch := omega) only [wrapI, wrapU]
            refine hR _ _ (kq24 _ _ ?_); clear hR R; try clear kq24 kz24
            try simp only [go_sem, hrl, hlj, llPV, hv, hgv, hmv, hvn8, hml8, Nat.mul_one]
            refine W_exit ?_
            simp only [go_sem, hrl, hlj, llPV, hv, hgv, hmv, hvn8, hml8, Nat.mul_one]
            refine kq16 _ _ ?_
            refine W_region [0, 1, 4, 8, 9, 27, 28, 29] fun R hR => ?_   -- r16
            simp only [go_sem, hrl, hlj, llPV, hv, hgv, hmv, hvn8, hml8, Nat.mul_one]
            try simp (disch := omega) only [wrapI, wrapU]
            refine hR _ _ ?_; clear hR R
            try simp only [go_sem, hrl, hlj, llPV, hv, hgv, hmv, hvn8, hml8, Nat.mul_one]
            refine ⟨j + 1, ?_, by (try simp only []); omega, ?_⟩
            · first | exact Weak.refl | exact Weak.eq rfl (by rw [hmn]) | exact Weak.eq rfl (congrArg (fun z => σ.ext [some (goneC out), some z] [i]) hset)
            · try dsimp only
              exact hj2
          · -- c5 false
            try simp only [nrm] at c5
            have hhv : has out (vn : Int) = true := by simpa using c5
            refine W_skip (kq21 _ _ ?_)
            refine W_region [0, 1, 4, 8, 9, 27, 28, 29, 33, 34, 35] fun R hR => ?_   -- r15
            simp only [go_sem, hrl, hlj, llPV, hv, hgv, hmv, hvn8, hml8, Nat.mul_one]
            try simp (disch := omega) only [wrapI, wrapU]
            refine hR _ _ ?_; clear hR R
            try simp only [go_sem, hrl, hlj, llPV, hv, hgv, hmv, hvn8, hml8, Nat.mul_one]
            refine ⟨k + 1, ?_, by (try simp only []); omega, ?_⟩
            · first | exact Weak.refl | exact Weak.eq (by first | rfl | (simp only [go_sem]; done) | (simp only [go_sem]; rfl) | (simp [go_sem]; done) | (simp [go_sem]; omega)) (by first | rfl | (simp only [go_sem]; done) | (simp [go_sem]; done))
            · try dsimp only
              refine ⟨by omega, fun x hx => ?_⟩
              rw [List.take_add_one, hv] at hx
              rcases List.mem_append.1 hx with h | h
              · exact hta x h
              · simp at h; subst h; exact hhv
        · -- c4 false
          try simp only [nrm] at c4
          have hke : k = l.length := by omega
          rw [hke, List.take_length] at hta
          have hmn : manyC out (ls.take j) = manyC out (ls.take (j + 1)) := by rw [hsn, manyC_none (firstLeft_none hta)]
          refine W_exit ?_
          simp only [go_sem, hrl, hlj, llPV]
          refine kq16 _ _ ?_
          refine W_region [0, 1, 4, 8, 9, 27, 28, 29] fun R hR => ?_   -- r16
          simp only [go_sem, hrl, hlj, llPV]
          try simp (disch := omega) only [wrapI, wrapU]
          refine hR _ _ ?_; clear hR R
          try simp only [go_sem, hrl, hlj, llPV]
          refine ⟨j + 1, ?_, by (try simp only []); omega, ?_⟩
          · first | exact Weak.refl | exact Weak.eq rfl (by rw [hmn]) | exact Weak.eq rfl (congrArg (fun z => σ.ext [some (goneC out), some z] [i]) hset)
          · try dsimp only
            exact hj2
      · -- c3 false
        try simp only [nrm] at c3
        have hje : j = ls.length := by omega
        subst hje
        rw [List.take_length]
        refine W_exit ?_
        simp only [go_sem, hrl]
        refine kq12 _ _ ?_
        refine W_seq fun kz25 kq25 => ?_
        refine W_region [0, 1, 4, 8, 9, 14] fun R hR => ?_   -- r17
        simp only [go_sem, hrl]
        refine hR _ _ (kq25 _ _ ?_); clear hR R; try clear kq25 kz25
        try simp only [go_sem, hrl]
        refine W_seq fun kz26 kq26 => ?_
        refine W_seq fun kz27 kq27 => ?_
        refine W_region [0, 1, 4, 8, 9, 14, 50, 51] fun R hR => ?_   -- r18
        simp only [go_sem, hrl]
        refine hR _ _ (kq27 _ _ ?_); clear hR R; try clear kq27 kz27
        try simp only [go_sem, hrl]
        refine W_block ?_
        refine W_loopS (α := Nat) (fun (s : Nat) => [(14, I (worstF out ls s)), (51, I s)]) (fun (s : Nat) => s ≤ N) (fun (s : Nat) => N - s) (0) rfl (Nat.zero_le _) ?_
        rintro s hs
        refine W_seq fun kz28 kq28 => ?_
        refine W_region [0, 1, 4, 8, 9, 14, 50, 51, 52] fun R hR => ?_   -- r19
        simp only [go_sem, hrl]
        refine hR _ _ (kq28 _ _ ?_); clear hR R; try clear kq28 kz28
        try simp only [go_sem, hrl]
        refine W_seq fun kz29 kq29 => ?_
        refine W_cond rfl (fun c6 => ?_) (fun c6 => ?_)
        · -- c6 true
          try simp only [nrm] at c6
          have hsN : s < N := by first | omega | (simp at c6; omega)
          have hgs := goneC_get (out := out) (s := s) (by omega)
          have hms := manyC_get (out := out) (ls := ls) (s := s) (by omega)
          have hwb := worstF_bd out ls s
          have hs8 : (s : Int) < 8 := by omega
          refine W_skip (kq29 _ _ ?_)
          refine W_seq fun kz30 kq30 => ?_
          refine W_block ?_
          refine W_seq fun kz31 kq31 => ?_
          refine W_region [0, 1, 4, 8, 9, 14, 15, 50, 51] fun R hR => ?_   -- r20
          simp only [go_sem, hrl, hgs, hms, hs8, Nat.mul_one]
          refine hR _ _ (kq31 _ _ ?_); clear hR R; try clear kq31 kz31
          try simp only [go_sem, hrl, hgs, hms, hs8, Nat.mul_one]
          refine W_seq fun kz32 kq32 => ?_
          refine W_drawJ [0, 1, 4, 8, 9, 14, 15, 50, 51, 70] [(70, .bool (!has out s && (decide (worstF out ls s < 0) || decide (manyFor out ls s ≤ manyFor out ls (worstF out ls s)))))] [0, 1, 2, 3, 4, 5, 6, 7, 8, 9, 10, 11, 12, 13, 14, 15, 16] [] [[], [0], [0, 1], [0, 1, 2], [0, 1, 2, 3], [0, 1, 2, 3, 4], [0, 1, 2, 3, 4, 5], [0, 1, 2, 3, 4, 5, 6], [0, 1, 2, 3, 4, 5, 6, 7], [0, 1, 2, 3, 4, 5, 6, 7, 8], [0, 1, 2, 3, 4, 5, 6, 7, 8, 9], [0, 1, 2, 3, 4, 5, 6, 7], [0, 1, 2, 3, 4, 5, 6, 7, 11], [0, 1, 2, 3, 4, 5, 6, 7, 11, 12], [0, 1, 2, 3, 4, 5, 6, 7, 8, 9, 10, 11, 12, 13], [0, 1, 2, 3, 4, 5, 6, 7, 8, 9, 10, 11, 12, 13, 14], [0, 1, 2, 3, 4, 5, 6, 7, 8, 9, 10, 11, 12, 13, 14, 15]] mixed (by kernel_rfl) ?_ fun R hR => ?_   -- r21
          · refine kq32 _ _ ?_
            simp only [go_sem, hrl, hgs, hms, hs8, Nat.mul_one]
            refine W_cond rfl (fun c7 => ?_) (fun c7 => ?_)
            · -- c7 true
              try simp only [nrm] at c7
              have hws1 : worstF out ls (s + 1) = (s : Int) := by simp only [worstF]; rw [if_pos c7]
              refine W_region [0, 1, 4, 8, 9, 14, 50, 51] fun R hR => ?_   -- r22
              simp only [go_sem, hrl, hgs, hms, hs8, Nat.mul_one]
              refine hR _ _ (kq30 _ _ ?_); clear hR R; try clear kq30 kz30
              try simp only [go_sem, hrl, hgs, hms, hs8, Nat.mul_one]
              refine W_region [0, 1, 4, 8, 9, 14, 50, 51] fun R hR => ?_   -- r23
              simp only [go_sem, hrl, hgs, hms, hs8, Nat.mul_one]
              try simp (disch := omega) only [wrapI, wrapU]
              refine hR _ _ ?_; clear hR R
              try simp only [go_sem, hrl, hgs, hms, hs8, Nat.mul_one]
              refine ⟨s + 1, ?_, by (try simp only []); omega, ?_⟩
              · refine Weak.eq (by simp only [hws1]; first | done | rfl | (simp only [go_sem]; done)) rfl
              · try dsimp only
                omega
            · -- c7 false
              try simp only [nrm] at c7
              have hws1 : worstF out ls (s + 1) = worstF out ls s := by simp only [worstF]; rw [if_neg (by rw [c7]; simp)]
              refine W_skip (kq30 _ _ ?_)
              refine W_region [0, 1, 4, 8, 9, 14, 50, 51] fun R hR => ?_   -- r23
              simp only [go_sem, hrl, hgs, hms, hs8, Nat.mul_one]
              try simp (disch := omega) only [wrapI, wrapU]
              refine hR _ _ ?_; clear hR R
              try simp only [go_sem, hrl, hgs, hms, hs8, Nat.mul_one]
              refine ⟨s + 1, ?_, by (try simp only []); omega, ?_⟩
              · refine Weak.eq (by simp only [hws1]; first | done | rfl | (simp only [go_sem]; done)) rfl
              · try dsimp only
                omega
          · simp only [go_sem, hrl, hgs, hms, hs8, Nat.mul_one]
            refine GWant_split (fun g1 => ?_) (fun g1 => ?_)
            · try simp only [Bool.not_eq_true', Bool.not_eq_false'] at g1
              have n1 := g1; try simp only [nrm] at n1
              simp only [go_sem, hrl, hgs, hms, hs8, Nat.mul_one, g1]
              refine GWant_split (fun g2 => ?_) (fun g2 => ?_)
              · try simp only [Bool.not_eq_true', Bool.not_eq_false'] at g2
                have n2 := g2; try simp only [nrm] at n2
                obtain ⟨wn, hwn⟩ : ∃ z : Nat, worstF out ls s = z := ⟨(worstF out ls s).toNat, by simp at g2; omega⟩
                rw [hwn] at g2
                have hmw := manyC_get (out := out) (ls := ls) (s := wn) (by omega)
                have hwn8 : (wn : Int) < 8 := by omega
                simp only [go_sem, hrl, hgs, hms, hs8, Nat.mul_one, hwn, hmw, hwn8, Nat.mul_one, g1, g2]
                try refine And.intro (by repeat' (first | refine And.intro ?_ ?_ | exact GOr_right (fun _ => by simp only [go_sem, hrl, hgs, hms, hs8, Nat.mul_one, hwn, hmw, hwn8, Nat.mul_one]))) ?_
                refine hR _ ?_
                all_goals try simp only [go_sem, hrl, hgs, hms, hs8, Nat.mul_one, hwn, hmw, hwn8, Nat.mul_one]
                all_goals
                  first | rfl | (simp [*]; done) | (simp_all; done) | (simp_all; omega)
              · try simp only [Bool.not_eq_true', Bool.not_eq_false'] at g2
                have n2 := g2; try simp only [nrm] at n2
                simp only [go_sem, hrl, hgs, hms, hs8, Nat.mul_one, g1, g2]
                try refine And.intro (by repeat' (first | refine And.intro ?_ ?_ | exact GOr_right (fun _ => by simp only [go_sem, hrl, hgs, hms, hs8, Nat.mul_one]))) ?_
                refine hR _ ?_
                all_goals try simp only [go_sem, hrl, hgs, hms, hs8, Nat.mul_one]
                all_goals
                  first | rfl | (simp [*]; done) | (simp_all; done) | (simp_all; omega)
            · try simp only [Bool.not_eq_true', Bool.not_eq_false'] at g1
              have n1 := g1; try simp only [nrm] at n1
              simp only [go_sem, hrl, hgs, hms, hs8, Nat.mul_one, g1]
              try refine And.intro (by repeat' (first | refine And.intro ?_ ?_ | exact GOr_right (fun _ => by simp only [go_sem, hrl, hgs, hms, hs8, Nat.mul_one]))) ?_
              refine hR _ ?_
              all_goals try simp only [go_sem, hrl, hgs, hms, hs8, Nat.mul_one]
              all_goals
                first | rfl | (simp [*]; done) | (simp_all; done) | (simp_all; omega)
        · -- c6 false
          try simp only [nrm] at c6
          have hse : N = s := by first | omega | (simp at c6; omega)
          subst hse
          obtain ⟨wl, hwl⟩ : ∃ z : Nat, worstF out ls N = z := ⟨(worstF out ls N).toNat, by omega⟩
          have hgset := goneC_set (out := out) (s := wl) (by omega)
          have hwl8 : (wl : Int) < 8 := by omega
          have hgl8 : decide (wl + 1 ≤ (goneC out).length) = true := decide_eq_true (by rw [goneC_len]; omega)
          refine W_exit ?_
          simp only [go_sem, hrl, hwl, hgset, hwl8, hgl8, Nat.mul_one]
          refine kq26 _ _ ?_
          refine W_seq fun kz33 kq33 => ?_
          refine W_region [0, 1, 4, 8, 14] fun R hR => ?_   -- r24
          simp only [go_sem, hrl, hwl, hgset, hwl8, hgl8, Nat.mul_one]
          refine hR _ _ (kq33 _ _ ?_); clear hR R; try clear kq33 kz33
          try simp only [go_sem, hrl, hwl, hgset, hwl8, hgl8, Nat.mul_one]
          refine W_region [0, 1, 4, 8] fun R hR => ?_   -- r25
          simp only [go_sem, hrl, hwl, hgset, hwl8, hgl8, Nat.mul_one]
          try simp (disch := first | omega | (simp only [go_sem] <;> omega)) only [wrapI, wrapU, appX_exact, appX_tok]
          try simp only [go_sem, hrl, hwl, hgset, hwl8, hgl8, Nat.mul_one]
          refine hR _ _ ?_; clear hR R
          try simp only [go_sem, hrl, hwl, hgset, hwl8, hgl8, Nat.mul_one]
          refine ⟨i + 1, ?_, by (try simp only []); omega, ?_⟩
          · have hru : runU N ls (i + 1) = out ++ [(wl : Int)] := by simp only [runU, hout, hwl]
            refine Weak.trans (Weak.cutX 1 1 (by omega) (by omega) hcl ?_ ?_) ?_
            · simp only [go_sem, eq_true (goneC_clean _)]
            · simp only [go_sem]
              all_goals first | omega | exact fail1
            simp only [go_sem]
            refine Weak.eq ?_ ?_
            · simp only [hru, List.map_append, List.map_cons, List.map_nil]; first | done | rfl
            · simp only [hru]; first | done | rfl
          · try dsimp only
            omega
    · -- c2 false
      try simp only [nrm] at c2
      have hie : i = N - 1 := by first | omega | (simp at c2; omega)
      subst hie
      have hlo := some_left (n := N) (out := out) (by omega)
      have hsl : ∀ id, slicePV Try.prog 86 (.ptr id 0) none (some (I N)) none = some (.msl id 0 N) := fun id => sl86 (by omega) (by omega)
      refine W_exit ?_
      simp only [go_sem, hrl, hsl]
      refine kq7 _ _ ?_
      refine W_seq fun kz34 kq34 => ?_
      refine W_region [4, 5, 6] fun R hR => ?_   -- r26
      simp only [go_sem, hrl, hsl]
      refine GCall_of (gIndex_pc Y (σ.ext [some (goneC out)] [N - 1]) out σ.store.length N (by omega) (Sg.get_ext0 ..)) ?_   -- t82
      simp only [go_sem, hrl, hsl]
      refine hR _ _ (kq34 _ _ ?_); clear hR R; try clear kq34 kz34
      try simp only [go_sem, hrl, hsl]
      refine W_ret ?_
      simp only [go_sem, hrl, hsl]
      refine ⟨.inr (by trivial), ?_⟩
      first | (rw [hall]; refine Fin_same hcl rfl (Wk.ro (by simp only [go_sem]) ?_)) | refine Fin_same hcl rfl (Wk.ro (by simp only [go_sem]) ?_) | refine Fin_self hcl rfl (Wk.ro (by simp only [go_sem]) ?_)
      try simp only [go_sem]
      all_goals
        first | done | rfl | (simp only [go_sem]; done) | (rw [idxF_eq (n := N) (out := out) N 0 (by omega) (by obtain ⟨s, h1, h2⟩ := hlo; exact ⟨s, Nat.zero_le _, h1, h2⟩), hout]; first | done | rfl)
end Go.Proofs.Ytnolifglhhjdnaa
namespace Go.Proofs.Ytnolifglhhjdnaa
open Go Go.RowKit
set_option maxRecDepth 100000
def exC : Contest := ⟨3, 2, 3, 10, [⟨2, 1, 2⟩, ⟨1, 1, 3⟩]⟩
def exL : List Ballot := [⟨1, 0, 1, 0, 0, 7⟩, ⟨2, 0, 1, 0, 1, 9⟩, ⟨3, 0, 1, 1, 2, 8⟩, ⟨4, 0, 2, 0, 0, 0⟩, ⟨5, 0, 2, 0, 1, 0⟩, ⟨6, 0, 2, 1, 0, 0⟩, ⟨7, 1, 2, 0, 2, 0⟩, ⟨8, 1, 2, 0, 1, 0⟩, ⟨9, 1, 1, 1, 1, 4⟩, ⟨10, 1, 2, 1, 0, 0⟩]
def exD : Contest := ⟨2, 0, 3, 0, [⟨1, 0, 1⟩]⟩
def exK : List Ballot := [⟨1, 0, 2, 0, 0, 0⟩, ⟨2, 0, 2, 1, 0, 0⟩]
def exP : List (List Int) := [[0, 1, 2], [1, 0, 2], [1, 2, 0], [2, 0, 1], [2, 0, 1]]
def exT0 : Tally := countT ⟨2, 1, 2⟩ 0 [0, 1, 2] exL
def exT1 : Tally := countT ⟨1, 1, 3⟩ 1 [0, 1] exL
def exT2 : Tally := countT ⟨1, 0, 1⟩ 0 [0, 1] exK
theorem ex0 : resT exT0 = ⟨[0, 1, 2], [7, 9, 8], [2, 0, 0], [11, 9, 8], [0, 1]⟩ := by
  unfold resT keptS
  rw [sortI_isort]
  decide
theorem ex1 : resT exT1 = ⟨[0, 1], [0, 4], [1, 1], [3, 7], [1]⟩ := by
  unfold resT keptS
  rw [sortI_isort]
  decide
theorem exTs : roundsT exC exL = [exT0, exT1] := by
  have e : (resT (countT ⟨2, 1, 2⟩ ((0 : Nat) : Int) (toI 3) exL)).kept = [0, 1] := by
    have := congrArg Res.kept ex0
    exact this
  unfold roundsT
  simp only [exC, rdsT]
  rw [e]
  rfl
theorem exRun : runD exC exL = ([⟨[0, 1, 2], [7, 9, 8], [2, 0, 0], [11, 9, 8], [0, 1]⟩, ⟨[0, 1], [0, 4], [1, 1], [3, 7], [1]⟩], 1, 0) := by
  have h0 : chkBls exC exL = 0 := by decide
  unfold runD
  rw [if_neg (by rw [h0]; simp)]
  have h1 : resultsT exC exL = [⟨[0, 1, 2], [7, 9, 8], [2, 0, 0], [11, 9, 8], [0, 1]⟩, ⟨[0, 1], [0, 4], [1, 1], [3, 7], [1]⟩] := by
    unfold resultsT
    rw [exTs, List.map_cons, List.map_cons, List.map_nil, ex0, ex1]
  rw [h1]
  unfold winnerT
  rw [h1]
  rfl
theorem exMust0 : mustT exT2 exD 0 = true := by
  unfold mustT
  simp only [sortI_isort]
  decide
theorem exMust1 : mustT exT2 exD 1 = false := by
  unfold mustT
  simp only [sortI_isort]
  decide
theorem exMay1 : mayT exT2 exD 1 (freeT exT2 exD) = false := by decide
theorem exStays : staysD exD exK 0 = ([1, 2], 0) := by
  have h0 : chkBls exD exK = 0 := by decide
  have h1 : roundsT exD exK = [exT2] := rfl
  have h2 : inR 0 0 ((exD.rounds.length : Int) - 1) = true := by decide
  unfold staysD
  rw [if_neg (by rw [h0]; simp), if_neg (by rw [h2]; simp), h1]
  have e0 : staysV exT2 exD 0 = 1 := by unfold staysV; rw [if_neg (by decide), if_pos exMust0]
  have e1 : staysV exT2 exD 1 = 2 := by unfold staysV; rw [if_neg (by decide), if_neg (by rw [exMust1]; simp), if_neg (by rw [exMay1]; simp)]
  show ([staysV exT2 exD 0, staysV exT2 exD 1], (0 : Int)) = _
  rw [e0, e1]
theorem exRunoff : runoffA 3 exP = ([0, 2], 1, 0) := by decide
set_option maxHeartbeats 2000000 in
theorem contest_pc (Y : YEnv) (σ : Sg)  :
    PC Try.prog Y 40 [] σ (cnPV exC) (σ) := by
  refine PC_of_W Try.func40 rfl (by kernel_rfl) Try.ntmps40 (by simp) fun hcl hca => ?_
  refine W_seq fun kz1 kq1 => ?_
  refine W_region [0] fun R hR => ?_   -- r0
  simp only [go_sem]
  refine hR _ _ (kq1 _ _ ?_); clear hR R; try clear kq1 kz1
  try simp only [go_sem]
  refine W_seq fun kz2 kq2 => ?_
  refine W_region [0] fun R hR => ?_   -- r1
  simp only [go_sem]
  refine hR _ _ (kq2 _ _ ?_); clear hR R; try clear kq2 kz2
  try simp only [go_sem]
  refine W_ret ?_
  simp only [go_sem]
  refine ⟨.inr (by trivial), ?_⟩
  refine Fin_same hcl (by show resPV Try.prog _ _ [.cell 0 27] = some _; simp only [resPV, go_sem]; rfl) (Wk.ro (by simp only [go_sem, exC, List.map_cons, List.map_nil]) ?_)
  try simp only [go_sem]
  all_goals
    simp only [go_sem, exC, List.map_cons, List.map_nil]; first | done | rfl
set_option maxHeartbeats 2000000 in
theorem ballots_pc (Y : YEnv) (σ : Sg)  :
    PC Try.prog Y 41 [] σ (bls exL) (σ) := by
  refine PC_of_W Try.func41 rfl (by kernel_rfl) Try.ntmps41 (by simp) fun hcl hca => ?_
  refine W_seq fun kz1 kq1 => ?_
  refine W_region [] fun R hR => ?_   -- r0
  simp only [go_sem]
  refine hR _ _ (kq1 _ _ ?_); clear hR R; try clear kq1 kz1
  try simp only [go_sem]
  refine W_seq fun kz2 kq2 => ?_
  refine W_region [0] fun R hR => ?_   -- r1
  simp only [go_sem]
  refine hR _ _ (kq2 _ _ ?_); clear hR R; try clear kq2 kz2
  try simp only [go_sem]
  refine W_ret ?_
  simp only [go_sem]
  refine ⟨.inr (by trivial), ?_⟩
  refine Fin_self hcl rfl (Wk.ro (by simp only [go_sem, exL, List.map_cons, List.map_nil]) ?_)
  try simp only [go_sem]
  all_goals
    simp only [go_sem, exL, List.map_cons, List.map_nil]; first | done | rfl
set_option maxHeartbeats 2000000 in
theorem duel_pc (Y : YEnv) (σ : Sg)  :
    PC Try.prog Y 42 [] σ (cnPV exD) (σ) := by
  refine PC_of_W Try.func42 rfl (by kernel_rfl) Try.ntmps42 (by simp) fun hcl hca => ?_
  refine W_seq fun kz1 kq1 => ?_
  refine W_region [0] fun R hR => ?_   -- r0
  simp only [go_sem]
  refine hR _ _ (kq1 _ _ ?_); clear hR R; try clear kq1 kz1
  try simp only [go_sem]
  refine W_seq fun kz2 kq2 => ?_
  refine W_region [0] fun R hR => ?_   -- r1
  simp only [go_sem]
  refine hR _ _ (kq2 _ _ ?_); clear hR R; try clear kq2 kz2
  try simp only [go_sem]
  refine W_ret ?_
  simp only [go_sem]
  refine ⟨.inr (by trivial), ?_⟩
  refine Fin_same hcl (by show resPV Try.prog _ _ [.cell 0 27] = some _; simp only [resPV, go_sem]; rfl) (Wk.ro (by simp only [go_sem, exD, List.map_cons, List.map_nil]) ?_)
  try simp only [go_sem]
  all_goals
    simp only [go_sem, exD, List.map_cons, List.map_nil]; first | done | rfl
set_option maxHeartbeats 2000000 in
theorem votes_pc (Y : YEnv) (σ : Sg)  :
    PC Try.prog Y 43 [] σ (bls exK) (σ) := by
  refine PC_of_W Try.func43 rfl (by kernel_rfl) Try.ntmps43 (by simp) fun hcl hca => ?_
  refine W_seq fun kz1 kq1 => ?_
  refine W_region [] fun R hR => ?_   -- r0
  simp only [go_sem]
  refine hR _ _ (kq1 _ _ ?_); clear hR R; try clear kq1 kz1
  try simp only [go_sem]
  refine W_seq fun kz2 kq2 => ?_
  refine W_region [0] fun R hR => ?_   -- r1
  simp only [go_sem]
  refine hR _ _ (kq2 _ _ ?_); clear hR R; try clear kq2 kz2
  try simp only [go_sem]
  refine W_ret ?_
  simp only [go_sem]
  refine ⟨.inr (by trivial), ?_⟩
  refine Fin_self hcl rfl (Wk.ro (by simp only [go_sem, exK, List.map_cons, List.map_nil]) ?_)
  try simp only [go_sem]
  all_goals
    simp only [go_sem, exK, List.map_cons, List.map_nil]; first | done | rfl
set_option maxHeartbeats 2000000 in
theorem prefs_pc (Y : YEnv) (σ : Sg)  :
    PC Try.prog Y 44 [] σ (lls exP) (σ) := by
  refine PC_of_W Try.func44 rfl (by kernel_rfl) Try.ntmps44 (by simp) fun hcl hca => ?_
  refine W_seq fun kz1 kq1 => ?_
  refine W_region [] fun R hR => ?_   -- r0
  simp only [go_sem]
  refine hR _ _ (kq1 _ _ ?_); clear hR R; try clear kq1 kz1
  try simp only [go_sem]
  refine W_seq fun kz2 kq2 => ?_
  refine W_region [0] fun R hR => ?_   -- r1
  simp only [go_sem]
  refine hR _ _ (kq2 _ _ ?_); clear hR R; try clear kq2 kz2
  try simp only [go_sem]
  refine W_ret ?_
  simp only [go_sem]
  refine ⟨.inr (by trivial), ?_⟩
  refine Fin_self hcl rfl (Wk.ro (by simp only [go_sem, exP, llPV, List.map_cons, List.map_nil]) ?_)
  try simp only [go_sem]
  all_goals
    simp only [go_sem, exP, llPV, List.map_cons, List.map_nil]; first | done | rfl
set_option maxHeartbeats 4000000 in
theorem awake_pc (Y : YEnv) (σ : Sg)  :
    PC Try.prog Y 18 [] σ (.bool true) (σ) := by
  refine PC_of_W Try.func18 rfl (by kernel_rfl) Try.ntmps18 (by simp) fun hcl hca => ?_
  refine W_seq fun kz1 kq1 => ?_
  refine W_region [] fun R hR => ?_   -- r0
  simp only [go_sem, List.map_cons, List.map_nil]
  refine hR _ _ (kq1 _ _ ?_); clear hR R; try clear kq1 kz1
  try simp only [go_sem, List.map_cons, List.map_nil]
  refine W_seq fun kz2 kq2 => ?_
  refine W_region [1, 2, 3] fun R hR => ?_   -- r1
  simp only [go_sem, List.map_cons, List.map_nil]
  refine GCall_of (contest_pc Y _) ?_   -- t10
  simp only [go_sem, List.map_cons, List.map_nil]
  refine GCall_of (ballots_pc Y _) ?_   -- t11
  simp only [go_sem, List.map_cons, List.map_nil]
  refine GCall_of (PC.val (v' := .tuple [rss [⟨[0, 1, 2], [7, 9, 8], [2, 0, 0], [11, 9, 8], [0, 1]⟩, ⟨[0, 1], [0, 4], [1, 1], [3, 7], [1]⟩], I 1, I 0]) (Run_pc Y _ exC exL (by decide) (by decide)) (by rw [exRun])) ?_   -- t12
  simp only [go_sem, List.map_cons, List.map_nil]
  refine hR _ _ (kq2 _ _ ?_); clear hR R; try clear kq2 kz2
  try simp only [go_sem, List.map_cons, List.map_nil]
  refine W_seq fun kz3 kq3 => ?_
  refine W_region [1, 2, 3, 4, 5] fun R hR => ?_   -- r2
  simp only [go_sem, List.map_cons, List.map_nil]
  refine GCall_of (duel_pc Y _) ?_   -- t17
  simp only [go_sem, List.map_cons, List.map_nil]
  refine GCall_of (votes_pc Y _) ?_   -- t18
  simp only [go_sem, List.map_cons, List.map_nil]
  refine GCall_of (PC.val (v' := .tuple [ints [1, 2], I 0]) (Stays_pc Y _ exD exK 0 (by decide) (by decide)) (by rw [exStays])) ?_   -- t19
  simp only [go_sem, List.map_cons, List.map_nil]
  refine hR _ _ (kq3 _ _ ?_); clear hR R; try clear kq3 kz3
  try simp only [go_sem, List.map_cons, List.map_nil]
  refine W_seq fun kz4 kq4 => ?_
  refine W_region [1, 2, 3, 4, 5, 6, 7, 8] fun R hR => ?_   -- r3
  simp only [go_sem, List.map_cons, List.map_nil]
  refine GCall_of (prefs_pc Y _) ?_   -- t23
  simp only [go_sem, List.map_cons, List.map_nil]
  refine GCall_of (PC.val (v' := .tuple [ints [0, 2], I 1, I 0]) (Runoff_pc Y _ 3 exP (by decide) (by decide)) (by rw [exRunoff])) ?_   -- t24
  simp only [go_sem, List.map_cons, List.map_nil]
  refine hR _ _ (kq4 _ _ ?_); clear hR R; try clear kq4 kz4
  try simp only [go_sem, List.map_cons, List.map_nil]
  refine W_seq fun kz5 kq5 => ?_
  refine W_region [0] fun R hR => ?_   -- r4
  simp only [go_sem, List.map_cons, List.map_nil, iaX0 (c := 5) (p := .agg [ints [0, 1, 2], ints [7, 9, 8], ints [2, 0, 0], ints [11, 9, 8], ints [0, 1]]) rfl, elS0]
  refine GCall_of (PC.val (v' := .bool true) (EqInts_pc Y _ [11, 9, 8] [11, 9, 8] .ro .exact (by decide)) (by rfl)) ?_   -- t53
  simp only [go_sem, List.map_cons, List.map_nil, iaX0 (c := 5) (p := .agg [ints [0, 1, 2], ints [7, 9, 8], ints [2, 0, 0], ints [11, 9, 8], ints [0, 1]]) rfl, elS0]
  refine GCall_of (PC.val (v' := .bool true) (EqInts_pc Y _ [1, 2] [1, 2] .ro .exact (by decide)) (by rfl)) ?_   -- t58
  simp only [go_sem, List.map_cons, List.map_nil, iaX0 (c := 5) (p := .agg [ints [0, 1, 2], ints [7, 9, 8], ints [2, 0, 0], ints [11, 9, 8], ints [0, 1]]) rfl, elS0]
  refine GCall_of (PC.val (v' := .bool true) (EqInts_pc Y _ [0, 2] [0, 2] .ro .exact (by decide)) (by rfl)) ?_   -- t67
  simp only [go_sem, List.map_cons, List.map_nil, iaX0 (c := 5) (p := .agg [ints [0, 1, 2], ints [7, 9, 8], ints [2, 0, 0], ints [11, 9, 8], ints [0, 1]]) rfl, elS0]
  refine hR _ _ (kq5 _ _ ?_); clear hR R; try clear kq5 kz5
  try simp only [go_sem, List.map_cons, List.map_nil]
  refine W_ret ?_
  simp only [go_sem, List.map_cons, List.map_nil]
  refine ⟨.inr (by trivial), ?_⟩
  first | refine Fin_same hcl rfl (Wk_eq ?_ (by simp only [go_sem])) | refine Fin_self hcl rfl (Wk_eq ?_ (by simp only [go_sem]))
  try simp only [go_sem]
  all_goals
    first | rfl | (simp_all; done) | (simp_all; omega)
end Go.Proofs.Ytnolifglhhjdnaa
namespace Go.Proofs.Ytnolifglhhjdnaa
open Go Go.RowKit
set_option maxRecDepth 100000
/-- What depends on the drum's beat, and the beat behind it. -/
abbrev D (α : Type) := Int → α × Int
def dret {α : Type} (a : α) : D α := fun b => (a, b)
def dbind {α β : Type} (m : D α) (f : α → D β) : D β := fun b => f (m b).1 (m b).2
def Holds {α : Type} (m : D α) (R : α → Prop) : Prop := ∀ b, R (m b).1
theorem Holds.ret {α : Type} {a : α} {R : α → Prop} (h : R a) : Holds (dret a) R := fun _ => h
theorem Holds.bind {α β : Type} {m : D α} {f : α → D β} {R : α → Prop} {S : β → Prop} (h : Holds m R) (k : ∀ a, R a → Holds (f a) S) : Holds (dbind m f) S := fun b => k _ (h b) _
theorem Holds.mono {α : Type} {m : D α} {R S : α → Prop} (h : Holds m R) (k : ∀ a, R a → S a) : Holds m S := fun b => k _ (h b)
def xorU (a b : Int) : Int := match arith .xor .u64 a b with | some (.int _ n) => n | _ => 0
def hitB (b : Int) : Int := IntKind.u64.wrap (IntKind.u64.wrap (b * 15074714826142052245) + 11400714819323198485)
def hitM (x : Int) : Int := IntKind.u64.wrap (xorU x (x.fdiv 4294967296) * 15760922415973212899)
def hitX (b : Int) : Int := xorU (hitM (hitM (hitB b))) ((hitM (hitM (hitB b))).fdiv 4294967296)
theorem wrapU_bd (n : Int) : 0 ≤ IntKind.u64.wrap n ∧ IntKind.u64.wrap n ≤ 18446744073709551615 := by
  have h : IntKind.u64.wrap n = n % 18446744073709551616 := rfl
  rw [h]; omega
theorem hitX_bd (b : Int) : 0 ≤ hitX b ∧ hitX b ≤ 18446744073709551615 := wrapU_bd _
def roll0 (n : Int) : D Int := fun b => if n < 2 then (0, b) else ((hitX b / 2) % n, hitB b)
/-- A number drawn: sealed, so that nobody computes with it. -/
noncomputable def roll : Int → D Int := Classical.choose (⟨roll0, rfl⟩ : ∃ f, f = roll0)
theorem roll_eq : roll = fun n b => if n < 2 then (0, b) else ((hitX b / 2) % n, hitB b) := Classical.choose_spec (⟨roll0, rfl⟩ : ∃ f, f = roll0)
noncomputable def mid (lo hi : Int) : D Int := fun b => (lo + (roll (hi - lo + 1) b).1, (roll (hi - lo + 1) b).2)
noncomputable def anyOf (l : List Int) : D Int := fun b => ((l[(roll l.length b).1.toNat]?).getD 0, (roll l.length b).2)
theorem roll_bd (n : Int) : Holds (roll n) fun r => 0 ≤ r ∧ r < max n 1 := by
  intro b
  rw [roll_eq]
  dsimp only
  have := hitX_bd b
  by_cases h : n < 2
  · rw [if_pos h]; simp only []; omega
  · rw [if_neg h]
    have h1 := Int.emod_nonneg (hitX b / 2) (show n ≠ 0 by omega)
    have h2 := Int.emod_lt_of_pos (hitX b / 2) (show 0 < n by omega)
    simp only []; omega
theorem mid_bd (lo hi : Int) (h : lo ≤ hi) : Holds (mid lo hi) fun r => lo ≤ r ∧ r ≤ hi := by
  intro b
  have := roll_bd (hi - lo + 1) b
  simp only [mid] at *
  omega
theorem anyOf_mem (l : List Int) (h : l ≠ []) : Holds (anyOf l) fun r => r ∈ l := by
  intro b
  have := roll_bd l.length b
  simp only [anyOf] at *
  have hl : 0 < l.length := by cases l with | nil => exact absurd rfl h | cons => simp
  have hlt : (roll (l.length : Int) b).1.toNat < l.length := by omega
  rw [List.getElem?_eq_getElem hlt]
  exact List.getElem_mem hlt
set_option maxHeartbeats 2000000 in
theorem hit_pc (Y : YEnv) (σ : Sg) (d : Nat) (b : Int) (hd : σ.store[d]? = some (some [.int .u64 b])) :
    PC Try.prog Y 35 [.ptr d 0] σ (.int .u64 (hitX b)) (σ.setVar d [.int .u64 (hitB b)]) := by
  refine PC_of_W Try.func35 rfl (by kernel_rfl) Try.ntmps35 (by simp) fun hcl hca => ?_
  have hlt := lt_of_get hd
  refine W_seq fun kz1 kq1 => ?_
  refine W_region [0] fun R hR => ?_   -- r0
  simp only [go_sem, ldS_at hd, stX_at hd, ldS_sv hlt, stX_sv hlt, sv_ext hlt, sv_ext_sv hlt]
  refine hR _ _ (kq1 _ _ ?_); clear hR R; try clear kq1 kz1
  try simp only [go_sem, ldS_at hd, stX_at hd, ldS_sv hlt, stX_sv hlt, sv_ext hlt, sv_ext_sv hlt]
  refine W_seq fun kz2 kq2 => ?_
  refine W_region [0] fun R hR => ?_   -- r1
  simp only [go_sem, ldS_at hd, stX_at hd, ldS_sv hlt, stX_sv hlt, sv_ext hlt, sv_ext_sv hlt]
  try simp (disch := omega) only [wrapI, wrapU]
  refine hR _ _ (kq2 _ _ ?_); clear hR R; try clear kq2 kz2
  try simp only [go_sem, ldS_at hd, stX_at hd, ldS_sv hlt, stX_sv hlt, sv_ext hlt, sv_ext_sv hlt]
  refine W_seq fun kz3 kq3 => ?_
  refine W_region [3] fun R hR => ?_   -- r2
  simp only [go_sem, ldS_at hd, stX_at hd, ldS_sv hlt, stX_sv hlt, sv_ext hlt, sv_ext_sv hlt]
  refine hR _ _ (kq3 _ _ ?_); clear hR R; try clear kq3 kz3
  try simp only [go_sem, ldS_at hd, stX_at hd, ldS_sv hlt, stX_sv hlt, sv_ext hlt, sv_ext_sv hlt]
  refine W_seq fun kz4 kq4 => ?_
  refine W_region [3] fun R hR => ?_   -- r3
  simp only [go_sem, ldS_at hd, stX_at hd, ldS_sv hlt, stX_sv hlt, sv_ext hlt, sv_ext_sv hlt]
  try simp (disch := omega) only [wrapI, wrapU]
  refine hR _ _ (kq4 _ _ ?_); clear hR R; try clear kq4 kz4
  try simp only [go_sem, ldS_at hd, stX_at hd, ldS_sv hlt, stX_sv hlt, sv_ext hlt, sv_ext_sv hlt]
  refine W_seq fun kz5 kq5 => ?_
  refine W_region [3] fun R hR => ?_   -- r4
  simp only [go_sem, ldS_at hd, stX_at hd, ldS_sv hlt, stX_sv hlt, sv_ext hlt, sv_ext_sv hlt]
  try simp (disch := omega) only [wrapI, wrapU]
  refine hR _ _ (kq5 _ _ ?_); clear hR R; try clear kq5 kz5
  try simp only [go_sem, ldS_at hd, stX_at hd, ldS_sv hlt, stX_sv hlt, sv_ext hlt, sv_ext_sv hlt]
  refine W_seq fun kz6 kq6 => ?_
  refine W_region [2] fun R hR => ?_   -- r5
  simp only [go_sem, ldS_at hd, stX_at hd, ldS_sv hlt, stX_sv hlt, sv_ext hlt, sv_ext_sv hlt]
  refine hR _ _ (kq6 _ _ ?_); clear hR R; try clear kq6 kz6
  try simp only [go_sem, ldS_at hd, stX_at hd, ldS_sv hlt, stX_sv hlt, sv_ext hlt, sv_ext_sv hlt]
  refine W_ret ?_
  simp only [go_sem, ldS_at hd, stX_at hd, ldS_sv hlt, stX_sv hlt, sv_ext hlt, sv_ext_sv hlt]
  refine ⟨.inr (by trivial), ?_⟩
  first | refine Fin_set hcl (by simp only [go_sem]) rfl (Wk_eq ?_ (by simp only [go_sem])) | refine Fin_set0 hcl (by simp only [go_sem]) rfl (Wk_eq ?_ (by simp only [go_sem]))
  try simp only [go_sem]
  all_goals
    simp only [hitX, hitM, hitB, xorU, go_sem]; simp (disch := omega) only [wrapU]
set_option maxHeartbeats 2000000 in
theorem Roll_lo (Y : YEnv) (σ : Sg) (d : Nat) (n : Int) (hn : n < 2) :
    PC Try.prog Y 27 [.ptr d 0, I n] σ (I 0) (σ) := by
  refine PC_of_W Try.func27 rfl (by kernel_rfl) Try.ntmps27 (by simp) fun hcl hca => ?_
  refine W_seq fun kz1 kq1 => ?_
  refine W_region [0, 1] fun R hR => ?_   -- r0
  simp only [go_sem]
  refine hR _ _ (kq1 _ _ ?_); clear hR R; try clear kq1 kz1
  try simp only [go_sem]
  refine W_seq fun kz2 kq2 => ?_
  refine W_seq fun kz3 kq3 => ?_
  refine W_region [0, 1, 6] fun R hR => ?_   -- r1
  simp only [go_sem]
  refine hR _ _ (kq3 _ _ ?_); clear hR R; try clear kq3 kz3
  try simp only [go_sem]
  refine W_cond rfl (fun c1 => ?_) (fun c1 => ?_)
  · -- c1 true
    try simp only [nrm] at c1
    refine W_seq fun kz4 kq4 => ?_
    refine W_region [4] fun R hR => ?_   -- r2
    simp only [go_sem]
    refine hR _ _ (kq4 _ _ ?_); clear hR R; try clear kq4 kz4
    try simp only [go_sem]
    refine W_ret ?_
    simp only [go_sem]
    refine ⟨.inr (by trivial), ?_⟩
    first | refine Fin_same hcl rfl (Wk_eq ?_ (by simp only [go_sem])) | refine Fin_self hcl rfl (Wk_eq ?_ (by simp only [go_sem]))
    try simp only [go_sem]
    all_goals
      first | rfl | (simp_all; done) | (simp_all; omega)
  · -- c1 false
    try simp only [nrm] at c1
    exfalso
    omega
set_option maxHeartbeats 2000000 in
theorem Roll_hi (Y : YEnv) (σ : Sg) (d : Nat) (b : Int) (hd : σ.store[d]? = some (some [.int .u64 b])) (n : Int) (hn : 2 ≤ n) (hn2 : n < 2 ^ 62) :
    PC Try.prog Y 27 [.ptr d 0, I n] σ (I ((hitX b / 2) % n)) (σ.setVar d [.int .u64 (hitB b)]) := by
  refine PC_of_W Try.func27 rfl (by kernel_rfl) Try.ntmps27 (by simp) fun hcl hca => ?_
  have hlt := lt_of_get hd
  have hb := hitX_bd b
  have e1 : (hitX b).fdiv 2 = hitX b / 2 := Int.fdiv_eq_ediv_of_nonneg _ (by omega)
  have e2 : (hitX b / 2).tmod n = (hitX b / 2) % n := Int.tmod_eq_emod_of_nonneg (by omega)
  have h1 := Int.emod_nonneg (hitX b / 2) (show n ≠ 0 by omega)
  have h2 := Int.emod_lt_of_pos (hitX b / 2) (show 0 < n by omega)
  have e3 : ¬ n = 0 := by omega
  have e4 : IntKind.u64.wrap n = n := wrapU (by omega) (by omega)
  refine W_seq fun kz1 kq1 => ?_
  refine W_region [0, 1] fun R hR => ?_   -- r0
  simp only [go_sem, ldS_at hd, stX_at hd, ldS_sv hlt, stX_sv hlt, sv_ext hlt, sv_ext_sv hlt]
  refine hR _ _ (kq1 _ _ ?_); clear hR R; try clear kq1 kz1
  try simp only [go_sem, ldS_at hd, stX_at hd, ldS_sv hlt, stX_sv hlt, sv_ext hlt, sv_ext_sv hlt]
  refine W_seq fun kz2 kq2 => ?_
  refine W_seq fun kz3 kq3 => ?_
  refine W_region [0, 1, 6] fun R hR => ?_   -- r1
  simp only [go_sem, ldS_at hd, stX_at hd, ldS_sv hlt, stX_sv hlt, sv_ext hlt, sv_ext_sv hlt]
  refine hR _ _ (kq3 _ _ ?_); clear hR R; try clear kq3 kz3
  try simp only [go_sem, ldS_at hd, stX_at hd, ldS_sv hlt, stX_sv hlt, sv_ext hlt, sv_ext_sv hlt]
  refine W_cond rfl (fun c1 => ?_) (fun c1 => ?_)
  · -- c1 true
    try simp only [nrm] at c1
    exfalso
    omega
  · -- c1 false
    try simp only [nrm] at c1
    refine W_skip (kq2 _ _ ?_)
    refine W_seq fun kz4 kq4 => ?_
    refine W_region [4] fun R hR => ?_   -- r3
    simp only [go_sem, ldS_at hd, stX_at hd, ldS_sv hlt, stX_sv hlt, sv_ext hlt, sv_ext_sv hlt, e4, e1, e2, e3]
    refine GCall_of (hit_pc Y _ d b hd) ?_   -- t8
    simp only [go_sem, ldS_at hd, stX_at hd, ldS_sv hlt, stX_sv hlt, sv_ext hlt, sv_ext_sv hlt, e4, e1, e2, e3]
    try simp (disch := omega) only [wrapI, wrapU]
    refine hR _ _ (kq4 _ _ ?_); clear hR R; try clear kq4 kz4
    try simp only [go_sem, ldS_at hd, stX_at hd, ldS_sv hlt, stX_sv hlt, sv_ext hlt, sv_ext_sv hlt]
    refine W_ret ?_
    simp only [go_sem, ldS_at hd, stX_at hd, ldS_sv hlt, stX_sv hlt, sv_ext hlt, sv_ext_sv hlt]
    refine ⟨.inr (by trivial), ?_⟩
    first | refine Fin_set hcl (by simp only [go_sem]) rfl (Wk_eq ?_ (by simp only [go_sem])) | refine Fin_set0 hcl (by simp only [go_sem]) rfl (Wk_eq ?_ (by simp only [go_sem]))
    try simp only [go_sem]
    all_goals
      first | rfl | (simp_all; done) | (simp_all; omega)
theorem Roll_pc (Y : YEnv) (σ : Sg) (d : Nat) (b : Int) (hd : σ.store[d]? = some (some [.int .u64 b])) (n : Int) (hn2 : n < 2 ^ 62) : PC Try.prog Y 27 [.ptr d 0, I n] σ (I (roll n b).1) (σ.setVar d [.int .u64 (roll n b).2]) := by
  rw [roll_eq]
  dsimp only
  by_cases h : n < 2
  · rw [if_pos h]; simp only []; rw [sv_self hd]; exact Roll_lo Y σ d n h
  · rw [if_neg h]; exact Roll_hi Y σ d b hd n (by omega) hn2
set_option maxHeartbeats 2000000 in
theorem Mid_pc (Y : YEnv) (σ : Sg) (d : Nat) (b : Int) (hd : σ.store[d]? = some (some [.int .u64 b])) (lo hi : Int) (h1 : -2 ^ 60 ≤ lo) (h2 : lo ≤ 2 ^ 60) (h3 : -2 ^ 60 ≤ hi) (h4 : hi ≤ 2 ^ 60) :
    PC Try.prog Y 19 [.ptr d 0, I lo, I hi] σ (I (mid lo hi b).1) (σ.setVar d [.int .u64 (mid lo hi b).2]) := by
  refine PC_of_W Try.func19 rfl (by kernel_rfl) Try.ntmps19 (by simp) fun hcl hca => ?_
  have hlt := lt_of_get hd
  have hr := roll_bd (hi - lo + 1) b
  simp only [] at hr
  refine W_seq fun kz1 kq1 => ?_
  refine W_region [0, 1, 2] fun R hR => ?_   -- r0
  simp only [go_sem, ldS_at hd, stX_at hd, ldS_sv hlt, stX_sv hlt, sv_ext hlt, sv_ext_sv hlt]
  refine hR _ _ (kq1 _ _ ?_); clear hR R; try clear kq1 kz1
  try simp only [go_sem, ldS_at hd, stX_at hd, ldS_sv hlt, stX_sv hlt, sv_ext hlt, sv_ext_sv hlt]
  refine W_seq fun kz2 kq2 => ?_
  refine W_region [6] fun R hR => ?_   -- r1
  simp only [go_sem, ldS_at hd, stX_at hd, ldS_sv hlt, stX_sv hlt, sv_ext hlt, sv_ext_sv hlt]
  try simp (disch := omega) only [wrapI, wrapU]
  refine GCall_of (Roll_pc Y _ d b (by first | exact hd | exact sv_get hlt | exact get_svx hlt | exact get_extx hd) _ (by omega)) ?_   -- t13
  simp only [go_sem, ldS_at hd, stX_at hd, ldS_sv hlt, stX_sv hlt, sv_ext hlt, sv_ext_sv hlt]
  try simp (disch := omega) only [wrapI, wrapU]
  refine hR _ _ (kq2 _ _ ?_); clear hR R; try clear kq2 kz2
  try simp only [go_sem, ldS_at hd, stX_at hd, ldS_sv hlt, stX_sv hlt, sv_ext hlt, sv_ext_sv hlt]
  refine W_ret ?_
  simp only [go_sem, ldS_at hd, stX_at hd, ldS_sv hlt, stX_sv hlt, sv_ext hlt, sv_ext_sv hlt]
  refine ⟨.inr (by trivial), ?_⟩
  first | refine Fin_set hcl (by simp only [go_sem]) rfl (Wk_eq ?_ (by simp only [go_sem])) | refine Fin_set0 hcl (by simp only [go_sem]) rfl (Wk_eq ?_ (by simp only [go_sem]))
  try simp only [go_sem]
  all_goals
    first | rfl | (simp_all; done) | (simp_all; omega)
set_option maxHeartbeats 2000000 in
theorem Any_pc (Y : YEnv) (σ : Sg) (d : Nat) (b : Int) (hd : σ.store[d]? = some (some [.int .u64 b])) (l : List Int) (hl : l ≠ []) (hl2 : l.length < 2 ^ 50) :
    PC Try.prog Y 36 [.ptr d 0, .isl (l.map I) .exact] σ (I (anyOf l b).1) (σ.setVar d [.int .u64 (anyOf l b).2]) := by
  refine PC_of_W Try.func36 rfl (by kernel_rfl) Try.ntmps36 (by simp) fun hcl hca => ?_
  have hlt := lt_of_get hd
  have hr := roll_bd l.length b
  simp only [] at hr
  have hl0 : 0 < l.length := by cases l with | nil => exact absurd rfl hl | cons => simp
  have hlt2 : (roll (l.length : Int) b).1.toNat < l.length := by omega
  obtain ⟨x, hx⟩ : ∃ x, l[(roll (l.length : Int) b).1.toNat]? = some x := ⟨_, List.getElem?_eq_getElem hlt2⟩
  have hnn := hr.1
  refine W_seq fun kz1 kq1 => ?_
  refine W_region [0, 1] fun R hR => ?_   -- r0
  simp only [go_sem, ldS_at hd, stX_at hd, ldS_sv hlt, stX_sv hlt, sv_ext hlt, sv_ext_sv hlt]
  refine hR _ _ (kq1 _ _ ?_); clear hR R; try clear kq1 kz1
  try simp only [go_sem, ldS_at hd, stX_at hd, ldS_sv hlt, stX_sv hlt, sv_ext hlt, sv_ext_sv hlt]
  refine W_seq fun kz2 kq2 => ?_
  refine W_seq fun kz3 kq3 => ?_
  refine W_region [0, 1, 7] fun R hR => ?_   -- r1
  simp only [go_sem, ldS_at hd, stX_at hd, ldS_sv hlt, stX_sv hlt, sv_ext hlt, sv_ext_sv hlt]
  refine hR _ _ (kq3 _ _ ?_); clear hR R; try clear kq3 kz3
  try simp only [go_sem, ldS_at hd, stX_at hd, ldS_sv hlt, stX_sv hlt, sv_ext hlt, sv_ext_sv hlt]
  refine W_cond rfl (fun c1 => ?_) (fun c1 => ?_)
  · -- c1 true
    try simp only [nrm] at c1
    exfalso
    omega
  · -- c1 false
    try simp only [nrm] at c1
    refine W_skip (kq2 _ _ ?_)
    refine W_seq fun kz4 kq4 => ?_
    refine W_region [4] fun R hR => ?_   -- r3
    simp only [go_sem, ldS_at hd, stX_at hd, ldS_sv hlt, stX_sv hlt, sv_ext hlt, sv_ext_sv hlt, hnn, hx]
    refine GCall_of (Roll_pc Y _ d b (by first | exact hd | exact sv_get hlt | exact get_svx hlt | exact get_extx hd) _ (by omega)) ?_   -- t12
    simp only [go_sem, ldS_at hd, stX_at hd, ldS_sv hlt, stX_sv hlt, sv_ext hlt, sv_ext_sv hlt, hnn, hx]
    refine hR _ _ (kq4 _ _ ?_); clear hR R; try clear kq4 kz4
    try simp only [go_sem, ldS_at hd, stX_at hd, ldS_sv hlt, stX_sv hlt, sv_ext hlt, sv_ext_sv hlt]
    refine W_ret ?_
    simp only [go_sem, ldS_at hd, stX_at hd, ldS_sv hlt, stX_sv hlt, sv_ext hlt, sv_ext_sv hlt]
    refine ⟨.inr (by trivial), ?_⟩
    first | refine Fin_set hcl (by simp only [go_sem]) rfl (Wk_eq ?_ (by simp only [go_sem])) | refine Fin_set0 hcl (by simp only [go_sem]) rfl (Wk_eq ?_ (by simp only [go_sem]))
    try simp only [go_sem]
    all_goals
      simp only [anyOf, hx, Option.getD_some]
end Go.Proofs.Ytnolifglhhjdnaa
namespace Go.Proofs.Ytnolifglhhjdnaa
open Go Go.RowKit
set_option maxRecDepth 100000
def drumB : List Int → Int → Int
  | [], b => b
  | x :: r, b => drumB r (hitB (xorU b (IntKind.u64.wrap x)))
set_option maxHeartbeats 2000000 in
theorem DrumOf_pc (Y : YEnv) (σ : Sg) (nums : List Int) (hl : nums.length < 2 ^ 60) :
    PC Try.prog Y 10 [ints nums] σ (.ptr σ.store.length 0) (σ.ext [some [.int .u64 (drumB nums 2685821657736338717)]] []) := by
  refine PC_of_W Try.func10 rfl (by kernel_rfl) Try.ntmps10 (by simp) fun hcl hca => ?_
  refine W_seq fun kz1 kq1 => ?_
  refine W_region [0] fun R hR => ?_   -- r0
  simp only [go_sem]
  refine hR _ _ (kq1 _ _ ?_); clear hR R; try clear kq1 kz1
  try simp only [go_sem]
  refine W_seq fun kz2 kq2 => ?_
  refine W_region [0, 3] fun R hR => ?_   -- r1
  simp only [go_sem]
  refine hR _ _ (kq2 _ _ ?_); clear hR R; try clear kq2 kz2
  try simp only [go_sem]
  refine W_seq fun kz3 kq3 => ?_
  refine W_seq fun kz4 kq4 => ?_
  refine W_region [0, 3, 4] fun R hR => ?_   -- r2
  simp only [go_sem]
  refine hR _ _ (kq4 _ _ ?_); clear hR R; try clear kq4 kz4
  try simp only [go_sem]
  refine W_block ?_
  refine W_loopT (α := Nat × Int) (fun ⟨i, b⟩ => [(4, I i)]) (fun ⟨i, b⟩ => σ.ext [some [.int .u64 b]] []) (fun ⟨i, b⟩ => i ≤ nums.length ∧ drumB nums 2685821657736338717 = drumB (nums.drop i) b) (fun ⟨i, b⟩ => nums.length - i) ((0, 2685821657736338717)) rfl (by first | rfl | (simp only [go_sem]; done) | (simp only [go_sem]; rfl)) (⟨Nat.zero_le _, rfl⟩) ?_
  rintro ⟨i, b⟩ ⟨hi, hb⟩
  refine W_seq fun kz5 kq5 => ?_
  refine W_seq fun kz6 kq6 => ?_
  refine W_region [0, 3, 4, 10] fun R hR => ?_   -- r3
  simp only [go_sem]
  refine hR _ _ (kq6 _ _ ?_); clear hR R; try clear kq6 kz6
  try simp only [go_sem]
  refine W_cond rfl (fun c1 => ?_) (fun c1 => ?_)
  · -- c1 true
    try simp only [nrm] at c1
    have hi' : i < nums.length := by first | assumption | omega
    obtain ⟨x, hx⟩ : ∃ x, nums[i]? = some x := ⟨nums[i], by simp [hi']⟩
    have hdrop : nums.drop i = x :: nums.drop (i + 1) := by
      rw [List.drop_eq_getElem_cons hi']; congr 1; exact (List.getElem?_eq_some_iff.1 hx).2
    rw [hdrop] at hb
    simp only [drumB] at hb
    refine W_skip (kq5 _ _ ?_)
    refine W_seq fun kz7 kq7 => ?_
    refine W_block ?_
    refine W_seq fun kz8 kq8 => ?_
    refine W_draw [0, 3, 4] [0, 1, 2, 3, 4, 5, 6, 7, 8, 9, 10, 11, 12, 13] [] [[], [], [1], [1, 2], [1, 2, 3], [], [], [5, 6], [5, 6, 7], [5, 6, 7, 8], [1, 2, 3, 4, 5, 6, 7, 8, 9], [0, 1, 2, 3, 4, 5, 6, 7, 8, 9, 10], [0, 1, 2, 3, 4, 5, 6, 7, 8, 9, 10, 11], [0, 1, 2, 3, 4, 5, 6, 7, 8, 9, 10, 11, 12]] mixed (by kernel_rfl) fun R hR => ?_   -- r5
    simp only [go_sem, hx]
    try simp (disch := omega) only [wrapI, wrapU]
    try refine And.intro (by repeat' (first | refine And.intro ?_ ?_ | exact GOr_right (fun _ => by simp only [go_sem, hx]))) ?_
    refine hR _ _ (kq8 _ _ ?_); clear hR R; try clear kq8 kz8
    try simp only [go_sem, hx]
    refine W_region [0, 3, 4] fun R hR => ?_   -- r6
    simp only [go_sem, hx]
    refine GCall_of (hit_pc Y _ _ _ (Sg.get_ext0 _ _ _ _)) ?_   -- t27
    simp only [go_sem, hx]
    refine hR _ _ (kq7 _ _ ?_); clear hR R; try clear kq7 kz7
    try simp only [go_sem, hx]
    refine W_region [0, 3, 4] fun R hR => ?_   -- r4
    simp only [go_sem, hx]
    try simp (disch := omega) only [wrapI, wrapU]
    refine hR _ _ ?_; clear hR R
    try simp only [go_sem, hx]
    refine ⟨(i + 1, hitB (xorU b (IntKind.u64.wrap x))), ?_, by (try simp only []); omega, ?_⟩
    · exact Weak.eq (by rfl) (by simp only [xorU, go_sem]; simp (disch := omega) only [wrapU])
    · try dsimp only
      exact ⟨hi', hb⟩
  · -- c1 false
    try simp only [nrm] at c1
    have hdrop : nums.drop i = [] := List.drop_eq_nil_of_le (by omega)
    rw [hdrop] at hb
    simp only [drumB] at hb
    refine W_exit ?_
    simp only [go_sem]
    refine kq3 _ _ ?_
    refine W_seq fun kz9 kq9 => ?_
    refine W_region [2] fun R hR => ?_   -- r7
    simp only [go_sem]
    refine hR _ _ (kq9 _ _ ?_); clear hR R; try clear kq9 kz9
    try simp only [go_sem]
    refine W_ret ?_
    simp only [go_sem]
    refine ⟨.inr (by trivial), ?_⟩
    rw [hb]; exact Fin_ext 1 0 hcl rfl (Wk_eq rfl (by simp only [go_sem] <;> omega)) (by show CleanLs _ _ _ _; simp only [go_sem])
    try simp only [go_sem]
    all_goals
      skip
end Go.Proofs.Ytnolifglhhjdnaa
namespace Go.Proofs.Ytnolifglhhjdnaa
open Go Go.RowKit
set_option maxRecDepth 100000
/-- Two places exchanged. -/
def swapAt (l : List Int) (i k : Nat) : List Int := (l.set i ((l[k]?).getD 0)).set k ((l[i]?).getD 0)
theorem swapAt_len (l : List Int) (i k : Nat) : (swapAt l i k).length = l.length := by simp [swapAt]
theorem swapAt_perm {l : List Int} {i k : Nat} (hi : i < l.length) (hk : k < l.length) : (swapAt l i k).Perm l := by
  unfold swapAt
  rw [List.getElem?_eq_getElem hi, List.getElem?_eq_getElem hk]
  exact List.set_set_perm hi hk
noncomputable def orderA (n : Nat) : Nat → List Int → D (List Int)
  | 0, acc => dret acc
  | j + 1, acc => dbind (roll (((n - (j + 1) : Nat) : Int) + 1)) fun k => orderA n j (swapAt (acc ++ [((n - (j + 1) : Nat) : Int)]) (n - (j + 1)) k.toNat)
noncomputable def orderD (n : Nat) : D (List Int) := orderA n n []
theorem orderA_perm (n : Nat) : ∀ (j : Nat) (acc : List Int), j ≤ n → acc.Perm ((List.range (n - j)).map fun (i : Nat) => (i : Int)) → Holds (orderA n j acc) fun l => l.Perm ((List.range n).map fun (i : Nat) => (i : Int)) := by
  intro j
  induction j with
  | zero => intro acc _ h; exact .ret h
  | succ j ih =>
    intro acc hj h
    refine (roll_bd _).bind fun k hk => ih _ (by omega) ?_
    have hl : acc.length = n - (j + 1) := by rw [h.length_eq]; simp
    have hkl : k.toNat < (acc ++ [((n - (j + 1) : Nat) : Int)]).length := by simp; omega
    refine (swapAt_perm (by simp; omega) hkl).trans ?_
    have e : n - j = (n - (j + 1)) + 1 := by omega
    rw [e, List.range_succ, List.map_append]
    exact h.append_right _
theorem orderD_perm (n : Nat) : Holds (orderD n) fun l => l.Perm ((List.range n).map fun (i : Nat) => (i : Int)) := orderA_perm n n [] (Nat.le_refl _) (by simp)
theorem glI_of {l : List Int} {m : Nat} (h : l.length = m + 1) (n : Nat) : glI n l = .gsl (n + m) (m + 1) 1 := by
  cases l with
  | nil => simp at h
  | cons x l => simp only [List.length_cons] at h; simp only [glI]; rw [show l.length = m by omega]
theorem gsI_of {l : List Int} {m : Nat} (h : l.length = m + 1) : gsI l = List.replicate m none ++ [some (l.map I)] := by
  cases l with
  | nil => simp at h
  | cons x l => simp only [List.length_cons] at h; simp only [gsI]; rw [show l.length = m by omega]
theorem Weak.ungnilT {N : Nat} {lo : Nat × Nat} {E : Env} {σ : Sg} {t : Nat} (ht : E.get t = .gnil) : Weak N lo E σ (E.put (some t) (.isl [] .ro)) σ := by
  intro Ψ0 Ψ D a w hb le hr
  refine ⟨Ψ, le, hr.size, fun t' => ?_, hr.sg, hr.dsub, hr.defs⟩
  rw [get_put1]
  split
  · rename_i e
    subst e
    have hv := hr.env t'
    rw [ht] at hv
    exact VR.of_gnil hv
  · exact hr.env t'
/-- Read at last. -/
theorem Weak.readI {N : Nat} {lo : Nat × Nat} {E : Env} {σ : Sg} {t : Nat} {A : List (Option (List PV))} {rm : List Nat} {ys : List LState} {out : List Int} (ht : E.get t = glI (σ.store.length + A.length) out) :
    Weak N lo E (σ.ext (A ++ gsI out) rm ys) (E.put (some t) (ints out)) (σ.ext (A ++ List.replicate out.length none) rm ys) := by
  cases out with
  | nil =>
    have h := Weak.ungnilT (N := N) (lo := lo) (E := E) (σ := σ.ext A rm ys) (t := t) ht
    simp only [gsI, List.append_nil, List.length_nil, List.replicate_zero]
    exact h
  | cons z zs =>
    have h := Weak.freeze (N := N) (lo := lo) (E := E) (σ := σ.ext (A ++ gsI (z :: zs)) rm ys) (t := t) (id := σ.store.length + (A.length + zs.length)) (len := zs.length + 1) (es := 1) (l := (z :: zs).map I) (by rw [ht]; simp only [glI, Nat.add_assoc]) (by rw [Sg.get_ext, rowC_ints]; exact gsI_get) (by simp) (fun q hq => by obtain ⟨x, _, rfl⟩ := List.mem_map.1 hq; rfl)
    rw [Sg.drop_ext, gsI_set] at h
    have e : List.replicate (z :: zs).length (none : Option (List PV)) = List.replicate zs.length none ++ [none] := by simp [List.replicate_succ']
    rw [e]
    exact h
set_option maxHeartbeats 4000000 in
theorem Order_pc (Y : YEnv) (σ : Sg) (d : Nat) (b : Int) (hd : σ.store[d]? = some (some [.int .u64 b])) (n : Nat) (hn : n < 2 ^ 40) :
    PC Try.prog Y 23 [.ptr d 0, I n] σ (ints (orderD n b).1) (σ.setVar d [.int .u64 (orderD n b).2]) := by
  refine PC_of_W Try.func23 rfl (by kernel_rfl) Try.ntmps23 (by simp) fun hcl hca => ?_
  have hlt := lt_of_get hd
  obtain ⟨res, hres⟩ : ∃ r, orderD n b = r := ⟨_, rfl⟩
  rw [hres]
  refine W_seq fun kz1 kq1 => ?_
  refine W_region [0, 1] fun R hR => ?_   -- r0
  simp only [go_sem, ldS_at hd, stX_at hd, ldS_sv hlt, stX_sv hlt, sv_ext hlt, sv_ext_sv hlt]
  refine hR _ _ (kq1 _ _ ?_); clear hR R; try clear kq1 kz1
  try simp only [go_sem, ldS_at hd, stX_at hd, ldS_sv hlt, stX_sv hlt, sv_ext hlt, sv_ext_sv hlt]
  refine W_seq fun kz2 kq2 => ?_
  refine W_region [0, 1, 5] fun R hR => ?_   -- r1
  simp only [go_sem, ldS_at hd, stX_at hd, ldS_sv hlt, stX_sv hlt, sv_ext hlt, sv_ext_sv hlt]
  refine hR _ _ (kq2 _ _ ?_); clear hR R; try clear kq2 kz2
  try simp only [go_sem, ldS_at hd, stX_at hd, ldS_sv hlt, stX_sv hlt, sv_ext hlt, sv_ext_sv hlt]
  refine W_seq fun kz3 kq3 => ?_
  refine W_seq fun kz4 kq4 => ?_
  refine W_region [0, 1, 5, 6] fun R hR => ?_   -- r2
  simp only [go_sem, ldS_at hd, stX_at hd, ldS_sv hlt, stX_sv hlt, sv_ext hlt, sv_ext_sv hlt]
  refine hR _ _ (kq4 _ _ ?_); clear hR R; try clear kq4 kz4
  try simp only [go_sem, ldS_at hd, stX_at hd, ldS_sv hlt, stX_sv hlt, sv_ext hlt, sv_ext_sv hlt]
  refine W_block ?_
  refine W_weak (Weak.gnil (t := 5) rfl) ?_
  refine W_weak (Weak.keep [0, 1, 5, 6]) ?_
  simp only [go_sem]
  refine W_loopT (α := Nat × (List Int) × Int) (fun ⟨i, acc, b⟩ => [(5, glI σ.store.length acc), (6, I i)]) (fun ⟨i, acc, b⟩ => (σ.setVar d [.int .u64 b]).ext (gsI acc) []) (fun ⟨i, acc, b⟩ => i ≤ n ∧ acc.length = i ∧ res = orderA n (n - i) acc b) (fun ⟨i, acc, b⟩ => n - i) ((0, [], b)) rfl (by simp only [gsI, go_sem, sv_self hd]) (⟨Nat.zero_le _, rfl, hres.symm⟩) ?_
  rintro ⟨i, acc, b⟩ ⟨hi, hal, hinv⟩
  refine W_seq fun kz5 kq5 => ?_
  refine W_seq fun kz6 kq6 => ?_
  refine W_region [0, 1, 5, 6, 10] fun R hR => ?_   -- r3
  simp only [go_sem, ldS_at hd, stX_at hd, ldS_sv hlt, stX_sv hlt, sv_ext hlt, sv_ext_sv hlt]
  refine hR _ _ (kq6 _ _ ?_); clear hR R; try clear kq6 kz6
  try simp only [go_sem, ldS_at hd, stX_at hd, ldS_sv hlt, stX_sv hlt, sv_ext hlt, sv_ext_sv hlt]
  refine W_cond rfl (fun c1 => ?_) (fun c1 => ?_)
  · -- c1 true
    try simp only [nrm] at c1
    have hin : i < n := by first | omega | (simp at c1; omega)
    rw [show n - i = (n - (i + 1)) + 1 by omega] at hinv
    simp only [orderA, dbind] at hinv
    rw [show (n - (n - (i + 1) + 1) : Nat) = i by omega] at hinv
    have hkb := roll_bd ((i : Int) + 1) b
    obtain ⟨kz, hkz⟩ : ∃ z, (roll ((i : Int) + 1) b).1 = z := ⟨_, rfl⟩
    obtain ⟨b1, hb1⟩ : ∃ z, (roll ((i : Int) + 1) b).2 = z := ⟨_, rfl⟩
    simp only [hkz] at hkb
    obtain ⟨k, rfl⟩ : ∃ k : Nat, kz = k := ⟨kz.toNat, by omega⟩
    rw [hkz, hb1, Int.toNat_natCast] at hinv
    have hki : k < i + 1 := by omega
    have hL : (σ.setVar d [.int .u64 b1]).store.length = σ.store.length := sv_len
    have happ := appG_gl (σ := σ.setVar d [.int .u64 b1]) (A := []) (rm := []) (ys := []) (out := acc) (i : Int) (by omega)
    have hal2 : (acc ++ [(i : Int)]).length = i + 1 := by simp [hal]
    rw [glI_of hal2, gsI_of hal2] at happ
    obtain ⟨ac2, hac2⟩ : ∃ z, acc ++ [(i : Int)] = z := ⟨_, rfl⟩
    rw [hac2] at happ hal2 hinv
    simp only [go_sem, List.length_nil, hL] at happ
    obtain ⟨x, hx⟩ : ∃ z, ac2[i]? = some z := ⟨ac2[i]'(by omega), by simp⟩
    obtain ⟨y, hy⟩ : ∃ z, ac2[k]? = some z := ⟨ac2[k]'(by omega), by simp⟩
    have hsw : swapAt ac2 i k = (ac2.set i y).set k x := by simp only [swapAt, hx, hy, Option.getD_some]
    have hI1 : (i : Int) < ((i + 1 : Nat) : Int) := by omega
    have hI2 : (k : Int) < ((i + 1 : Nat) : Int) := by omega
    have hg1 : ∀ c : Option (List PV), (List.replicate i none ++ [c])[i]? = some c := fun c => by rw [List.getElem?_append_right (by simp)]; simp
    have hg2 : ∀ c c2 : Option (List PV), (List.replicate i none ++ [c]).set i c2 = List.replicate i none ++ [c2] := fun c c2 => by rw [List.set_append_right _ _ (by simp)]; simp
    have hm1 : i + 1 ≤ ac2.length := by omega
    have hm2 : k + 1 ≤ ac2.length := by omega
    have hsl : (swapAt ac2 i k).length = i + 1 := by rw [swapAt_len]; exact hal2
    refine W_skip (kq5 _ _ ?_)
    refine W_seq fun kz7 kq7 => ?_
    refine W_block ?_
    refine W_seq fun kz8 kq8 => ?_
    refine W_region [0, 1, 5, 6, 7] fun R hR => ?_   -- r5
    simp only [go_sem, ldS_at hd, stX_at hd, ldS_sv hlt, stX_sv hlt, sv_ext hlt, sv_ext_sv hlt, hkz, hb1, hL]
    try simp (disch := omega) only [wrapI, wrapU]
    refine GCall_of (Roll_pc Y _ d b (by first | exact hd | exact sv_get hlt | exact get_svx hlt | exact get_extx hd) ((i : Int) + 1) (by omega)) ?_   -- t16
    simp only [go_sem, ldS_at hd, stX_at hd, ldS_sv hlt, stX_sv hlt, sv_ext hlt, sv_ext_sv hlt, hkz, hb1, hL]
    try simp (disch := omega) only [wrapI, wrapU]
    refine hR _ _ (kq8 _ _ ?_); clear hR R; try clear kq8 kz8
    try simp only [go_sem, ldS_at hd, stX_at hd, ldS_sv hlt, stX_sv hlt, sv_ext hlt, sv_ext_sv hlt, hkz, hb1, hL]
    refine W_seq fun kz9 kq9 => ?_
    refine W_region [0, 1, 5, 6, 7] fun R hR => ?_   -- r6
    simp only [go_sem, ldS_at hd, stX_at hd, ldS_sv hlt, stX_sv hlt, sv_ext hlt, sv_ext_sv hlt, hkz, hb1, hL, happ]
    try simp (disch := first | omega | (simp only [go_sem] <;> omega)) only [wrapI, wrapU, appX_exact, appX_tok]
    try simp only [go_sem, ldS_at hd, stX_at hd, ldS_sv hlt, stX_sv hlt, sv_ext hlt, sv_ext_sv hlt, hkz, hb1, hL, happ]
    refine hR _ _ (kq9 _ _ ?_); clear hR R; try clear kq9 kz9
    try simp only [go_sem, ldS_at hd, stX_at hd, ldS_sv hlt, stX_sv hlt, sv_ext hlt, sv_ext_sv hlt, hkz, hb1, hL]
    refine W_draw [0, 1, 5, 6] [0, 1, 2, 3, 4, 5, 6, 7, 8, 9, 10, 11, 12, 13, 14, 15] [(2, 15), (3, 15)] [[], [], [], [], [], [], [4, 5], [4, 5, 6], [], [], [8, 9], [8, 9, 10], [0, 1, 4, 5, 6, 7, 8, 9, 10, 11], [0, 1, 4, 5, 6, 7, 8, 9, 10, 11, 12], [0, 1, 2, 3, 4, 5, 6, 7, 8, 9, 10, 11, 12, 13], [0, 1, 2, 3, 4, 5, 6, 7, 8, 9, 10, 11, 12, 13, 14]] mixed (by kernel_rfl) fun R hR => ?_   -- r7
    simp only [go_sem, ldS_at hd, stX_at hd, ldS_sv hlt, stX_sv hlt, sv_ext hlt, sv_ext_sv hlt, hkz, hb1, hL, hI1, hI2, iaM_nat (Int.ofNat_lt.1 hI1), iaM_nat (Int.ofNat_lt.1 hI2), Nat.mul_one, Nat.zero_add, hg1, hg2, hx, hy, hm1, hm2, List.getElem?_map, List.length_set]
    try refine And.intro (by repeat' (first | refine And.intro ?_ ?_ | exact GOr_right (fun _ => by simp only [go_sem, ldS_at hd, stX_at hd, ldS_sv hlt, stX_sv hlt, sv_ext hlt, sv_ext_sv hlt, hkz, hb1, hL, hI1, hI2, iaM_nat (Int.ofNat_lt.1 hI1), iaM_nat (Int.ofNat_lt.1 hI2), Nat.mul_one, Nat.zero_add, hg1, hg2, hx, hy, hm1, hm2, List.getElem?_map, List.length_set]))) ?_
    refine hR _ _ (kq7 _ _ ?_); clear hR R; try clear kq7 kz7
    try simp only [go_sem, ldS_at hd, stX_at hd, ldS_sv hlt, stX_sv hlt, sv_ext hlt, sv_ext_sv hlt, hkz, hb1, hL]
    refine W_region [0, 1, 5, 6] fun R hR => ?_   -- r4
    simp only [go_sem, ldS_at hd, stX_at hd, ldS_sv hlt, stX_sv hlt, sv_ext hlt, sv_ext_sv hlt, hkz, hb1, hL]
    try simp (disch := omega) only [wrapI, wrapU]
    refine hR _ _ ?_; clear hR R
    try simp only [go_sem, ldS_at hd, stX_at hd, ldS_sv hlt, stX_sv hlt, sv_ext hlt, sv_ext_sv hlt, hkz, hb1, hL]
    refine ⟨(i + 1, swapAt ac2 i k, b1), ?_, by (try simp only []); omega, ?_⟩
    · refine Weak.eq ?_ ?_
      · simp only [go_sem, glI_of hsl]
        first | done | rfl | simp
      · rw [gsI_of hsl, hsw]
    · try dsimp only
      exact ⟨by omega, hsl, by rw [hinv]⟩
  · -- c1 false
    try simp only [nrm] at c1
    have hie : n = i := by first | omega | (simp at c1; omega)
    subst hie
    rw [Nat.sub_self] at hinv
    simp only [orderA, dret] at hinv
    refine W_exit ?_
    simp only [go_sem, ldS_at hd, stX_at hd, ldS_sv hlt, stX_sv hlt, sv_ext hlt, sv_ext_sv hlt]
    refine kq3 _ _ ?_
    refine W_seq fun kz10 kq10 => ?_
    refine W_weak (Weak.readI (t := 5) (A := []) (out := acc) (by simp only [go_sem, sv_len])) ?_
    refine W_weak (Weak.keep [5]) ?_
    simp only [go_sem]
    refine W_region [4] fun R hR => ?_   -- r8
    simp only [go_sem, ldS_at hd, stX_at hd, ldS_sv hlt, stX_sv hlt, sv_ext hlt, sv_ext_sv hlt]
    refine hR _ _ (kq10 _ _ ?_); clear hR R; try clear kq10 kz10
    try simp only [go_sem, ldS_at hd, stX_at hd, ldS_sv hlt, stX_sv hlt, sv_ext hlt, sv_ext_sv hlt]
    refine W_ret ?_
    simp only [go_sem, ldS_at hd, stX_at hd, ldS_sv hlt, stX_sv hlt, sv_ext hlt, sv_ext_sv hlt]
    refine ⟨.inr (by trivial), ?_⟩
    rw [hinv]; refine Fin_set hcl (by simp only [go_sem]) rfl (Wk_eq rfl ?_)
    try simp only [go_sem]
    all_goals
      simp only [go_sem]
end Go.Proofs.Ytnolifglhhjdnaa
namespace Go.Proofs.Ytnolifglhhjdnaa
open Go Go.RowKit
set_option maxRecDepth 100000
theorem mem2 {a b r : Int} (h : r ∈ [a, b]) : r = a ∨ r = b := by simpa using h
theorem chkRow_of {n : Int} : ∀ {l p : List Int}, (∀ x, x ∈ l → 0 ≤ x ∧ x ≤ n - 1) → l.Nodup → (∀ x, x ∈ l → x ∉ p) → chkRow n p l = 0 := by
  intro l
  induction l with
  | nil => intro p _ _ _; rfl
  | cons x l ih =>
    intro p h1 h2 h3
    obtain ⟨a1, a2⟩ := List.nodup_cons.1 h2
    have hin : inR x 0 (n - 1) = true := by rw [inR_true]; exact h1 x (by simp)
    have hh : has p x = false := by
      cases h : has p x with
      | false => rfl
      | true => exact absurd (has_iff.1 h) (h3 x (by simp))
    simp only [chkRow, hin, hh]
    refine ih (fun y hy => h1 y (by simp [hy])) a2 (fun y hy hp => ?_)
    rcases List.mem_append.1 hp with hp | hp
    · exact h3 y (by simp [hy]) hp
    · simp only [List.mem_singleton] at hp
      subst hp
      exact a1 hy
theorem nodup_range (n : Nat) : ((List.range n).map fun (i : Nat) => (i : Int)).Nodup := by
  rw [List.nodup_iff_pairwise_ne, List.pairwise_map]
  refine List.Pairwise.imp ?_ (List.nodup_range (n := n))
  intro a b h e
  exact h (by omega)
noncomputable def prefsC (N : Nat) : Nat → List (List Int) → D (List (List Int))
  | 0, acc => dret acc
  | k + 1, acc => dbind (orderD N) fun o => dbind (roll ((N : Int) + 1)) fun r => dbind (anyOf [(N : Int), r]) fun a => prefsC N k (acc ++ [o.take a.toNat])
noncomputable def prefsD (N : Nat) (most : Int) : D (List (List Int)) := dbind (roll (most + 1)) fun k => prefsC N k.toNat []
theorem prefsC_ok (N : Nat) : ∀ (k : Nat) (acc : List (List Int)), (∀ l, l ∈ acc → chkRow N [] l = 0 ∧ l.length ≤ N) → Holds (prefsC N k acc) fun ls => ls.length = acc.length + k ∧ ∀ l, l ∈ ls → chkRow N [] l = 0 ∧ l.length ≤ N := by
  intro k
  induction k with
  | zero => intro acc ha; exact .ret ⟨rfl, ha⟩
  | succ k ih =>
    intro acc ha
    refine (orderD_perm N).bind fun o ho => (roll_bd ((N : Int) + 1)).bind fun r hr => (anyOf_mem [(N : Int), r] (by simp)).bind fun a ha2 => (ih (acc ++ [o.take a.toNat]) fun l hl => ?_).mono fun l hl => ⟨by rw [hl.1]; simp; omega, hl.2⟩
    rcases List.mem_append.1 hl with hl | hl
    · exact ha l hl
    · simp only [List.mem_singleton] at hl
      subst hl
      have hlen : o.length = N := by rw [ho.length_eq]; simp
      refine ⟨chkRow_of (fun x hx => ?_) ((List.take_sublist _ _).nodup (ho.nodup_iff.2 (nodup_range _))) (fun x _ h => by cases h), by rw [List.length_take]; omega⟩
      obtain ⟨i, h1, rfl⟩ := List.mem_map.1 (ho.mem_iff.1 (List.mem_of_mem_take hx))
      have := List.mem_range.1 h1
      omega
theorem prefsD_ok (N : Nat) (most : Int) (h : 0 ≤ most) : Holds (prefsD N most) fun ls => (ls.length : Int) ≤ most ∧ ∀ l, l ∈ ls → chkRow N [] l = 0 ∧ l.length ≤ N := by
  unfold prefsD
  refine (roll_bd (most + 1)).bind fun k hk => (prefsC_ok N k.toNat [] (fun l hl => by cases hl)).mono fun l hl => ⟨by rw [hl.1]; simp; omega, hl.2⟩
set_option maxHeartbeats 8000000 in
theorem PrefsOf_pc (Y : YEnv) (σ : Sg) (d : Nat) (b : Int) (hd : σ.store[d]? = some (some [.int .u64 b])) (N : Nat) (hN : N < 2 ^ 20) (most : Int) (hm : 0 ≤ most) (hm2 : most ≤ 2 ^ 20) :
    PC Try.prog Y 20 [.ptr d 0, I N, I most] σ (lls (prefsD N most b).1) (σ.setVar d [.int .u64 (prefsD N most b).2]) := by
  refine PC_of_W Try.func20 rfl (by kernel_rfl) Try.ntmps20 (by simp) fun hcl hca => ?_
  have hlt := lt_of_get hd
  obtain ⟨res, hres⟩ : ∃ r, prefsD N most b = r := ⟨_, rfl⟩
  rw [hres]
  simp only [prefsD, dbind] at hres
  obtain ⟨k0, hk0⟩ : ∃ zz, (roll (most + 1) b).1 = zz := ⟨_, rfl⟩
  obtain ⟨b0, hb0⟩ : ∃ zz, (roll (most + 1) b).2 = zz := ⟨_, rfl⟩
  have dk0 := roll_bd (most + 1) b
  simp only [hk0] at dk0
  simp only [hk0, hb0] at hres
  obtain ⟨kn, hkn⟩ : ∃ z : Nat, k0 = z := ⟨k0.toNat, by omega⟩
  subst hkn
  rw [Int.toNat_natCast] at hres
  refine W_seq fun kz1 kq1 => ?_
  refine W_region [0, 1, 2] fun R hR => ?_   -- r0
  simp only [go_sem, ldS_at hd, stX_at hd, ldS_sv hlt, stX_sv hlt, sv_ext hlt, sv_ext_sv hlt, hk0, hb0]
  refine hR _ _ (kq1 _ _ ?_); clear hR R; try clear kq1 kz1
  try simp only [go_sem, ldS_at hd, stX_at hd, ldS_sv hlt, stX_sv hlt, sv_ext hlt, sv_ext_sv hlt, hk0, hb0]
  refine W_seq fun kz2 kq2 => ?_
  refine W_region [0, 1, 2, 7] fun R hR => ?_   -- r1
  simp only [go_sem, ldS_at hd, stX_at hd, ldS_sv hlt, stX_sv hlt, sv_ext hlt, sv_ext_sv hlt, hk0, hb0]
  refine hR _ _ (kq2 _ _ ?_); clear hR R; try clear kq2 kz2
  try simp only [go_sem, ldS_at hd, stX_at hd, ldS_sv hlt, stX_sv hlt, sv_ext hlt, sv_ext_sv hlt, hk0, hb0]
  refine W_seq fun kz3 kq3 => ?_
  refine W_seq fun kz4 kq4 => ?_
  refine W_region [0, 1, 7, 8] fun R hR => ?_   -- r2
  simp only [go_sem, ldS_at hd, stX_at hd, ldS_sv hlt, stX_sv hlt, sv_ext hlt, sv_ext_sv hlt, hk0, hb0]
  try simp (disch := omega) only [wrapI]
  try simp (disch := omega) only [wrapI, wrapU]
  refine GCall_of (Roll_pc Y _ d b (by first | exact hd | exact sv_get hlt | exact get_svx hlt | exact get_extx hd) (most + 1) (by omega)) ?_   -- t12
  simp only [go_sem, ldS_at hd, stX_at hd, ldS_sv hlt, stX_sv hlt, sv_ext hlt, sv_ext_sv hlt, hk0, hb0]
  try simp (disch := omega) only [wrapI, wrapU]
  refine hR _ _ (kq4 _ _ ?_); clear hR R; try clear kq4 kz4
  try simp only [go_sem, ldS_at hd, stX_at hd, ldS_sv hlt, stX_sv hlt, sv_ext hlt, sv_ext_sv hlt, hk0, hb0]
  refine W_block ?_
  refine W_weak (Weak.room (t := 7) (es := 1) rfl (by simp)) ?_
  refine W_weak (Weak.keep [0, 1, 7, 8]) ?_
  simp only [go_sem, ldS_at hd, stX_at hd, ldS_sv hlt, stX_sv hlt, sv_ext hlt, sv_ext_sv hlt, hk0, hb0]
  refine W_loopT (α := Nat × (List (List Int)) × Int) (fun ⟨k, acc, b⟩ => [(7, .isl (acc.map llPV) (.tok σ.rooms.length acc.length 1)), (8, I k)]) (fun ⟨k, acc, b⟩ => (σ.setVar d [.int .u64 b]).ext [] [acc.length]) (fun ⟨k, acc, b⟩ => k ≤ kn ∧ acc.length + k = kn ∧ res = prefsC N k acc b) (fun ⟨k, acc, b⟩ => k) ((kn, [], b0)) rfl (by first | rfl | (simp only [go_sem]; done) | (simp only [go_sem]; rfl)) (⟨Nat.le_refl _, by simp, hres.symm⟩) ?_
  rintro ⟨k, acc, b⟩ ⟨hk, hal, hinv⟩
  refine W_seq fun kz5 kq5 => ?_
  refine W_seq fun kz6 kq6 => ?_
  refine W_region [0, 1, 7, 8, 14] fun R hR => ?_   -- r3
  simp only [go_sem, ldS_at hd, stX_at hd, ldS_sv hlt, stX_sv hlt, sv_ext hlt, sv_ext_sv hlt, hk0, hb0]
  refine hR _ _ (kq6 _ _ ?_); clear hR R; try clear kq6 kz6
  try simp only [go_sem, ldS_at hd, stX_at hd, ldS_sv hlt, stX_sv hlt, sv_ext hlt, sv_ext_sv hlt, hk0, hb0]
  refine W_cond rfl (fun c1 => ?_) (fun c1 => ?_)
  · -- c1 true
    try simp only [nrm] at c1
    obtain ⟨k, rfl⟩ : ∃ z, k = z + 1 := ⟨k - 1, by first | omega | (simp at c1; omega)⟩
    simp only [prefsC, dbind] at hinv
    have hk1 : ((k + 1 : Nat) : Int) - 1 = (k : Int) := by omega
    obtain ⟨od, hod⟩ : ∃ zz, (orderD N b).1 = zz := ⟨_, rfl⟩
    obtain ⟨b1, hb1⟩ : ∃ zz, (orderD N b).2 = zz := ⟨_, rfl⟩
    have dod := orderD_perm N b
    simp only [hod] at dod
    obtain ⟨r, hr⟩ : ∃ zz, (roll ((N : Int) + 1) b1).1 = zz := ⟨_, rfl⟩
    obtain ⟨b2, hb2⟩ : ∃ zz, (roll ((N : Int) + 1) b1).2 = zz := ⟨_, rfl⟩
    have dr := roll_bd ((N : Int) + 1) b1
    simp only [hr] at dr
    obtain ⟨a, ha⟩ : ∃ zz, (anyOf [(N : Int), r] b2).1 = zz := ⟨_, rfl⟩
    obtain ⟨b3, hb3⟩ : ∃ zz, (anyOf [(N : Int), r] b2).2 = zz := ⟨_, rfl⟩
    have da := anyOf_mem [(N : Int), r] (by simp) b2
    simp only [ha] at da
    simp only [hod, hb1, hr, hb2, ha, hb3] at hinv
    have hol : od.length = N := by rw [dod.length_eq]; simp
    obtain ⟨an, han⟩ : ∃ z : Nat, a = z := ⟨a.toNat, by rcases mem2 da with h | h <;> omega⟩
    subst han
    have han2 : an ≤ N := by rcases mem2 da with h | h <;> omega
    have han3 : (an : Int) ≤ (N : Int) := by omega
    rw [Int.toNat_natCast] at hinv
    refine W_skip (kq5 _ _ ?_)
    refine W_seq fun kz7 kq7 => ?_
    refine W_block ?_
    refine W_region [0, 1, 7, 8] fun R hR => ?_   -- r5
    simp only [go_sem, ldS_at hd, stX_at hd, ldS_sv hlt, stX_sv hlt, sv_ext hlt, sv_ext_sv hlt, hk0, hb0, hod, hb1, hr, hb2, ha, hb3, hol, han3, han2, ← List.map_take]
    refine GCall_of (Order_pc Y _ d b (by first | exact hd | exact sv_get hlt | exact get_svx hlt | exact get_extx hd) N (by omega)) ?_   -- t20
    simp only [go_sem, ldS_at hd, stX_at hd, ldS_sv hlt, stX_sv hlt, sv_ext hlt, sv_ext_sv hlt, hk0, hb0, hod, hb1, hr, hb2, ha, hb3, hol, han3, han2, ← List.map_take]
    try simp (disch := omega) only [wrapI]
    try simp (disch := omega) only [wrapI, wrapU]
    refine GCall_of (Roll_pc Y _ d b1 (by first | exact hd | exact sv_get hlt | exact get_svx hlt | exact get_extx hd) ((N : Int) + 1) (by omega)) ?_   -- t26
    simp only [go_sem, ldS_at hd, stX_at hd, ldS_sv hlt, stX_sv hlt, sv_ext hlt, sv_ext_sv hlt, hk0, hb0, hod, hb1, hr, hb2, ha, hb3, hol, han3, han2, ← List.map_take]
    try simp (disch := omega) only [wrapI, wrapU]
    refine GCall_of (Any_pc Y _ d b2 (by first | exact hd | exact sv_get hlt | exact get_svx hlt | exact get_extx hd) [(N : Int), r] (by simp) (by simp)) ?_   -- t28
    simp only [go_sem, ldS_at hd, stX_at hd, ldS_sv hlt, stX_sv hlt, sv_ext hlt, sv_ext_sv hlt, hk0, hb0, hod, hb1, hr, hb2, ha, hb3, hol, han3, han2, ← List.map_take]
    try simp (disch := first | omega | (simp only [go_sem] <;> omega)) only [wrapI, wrapU, appX_exact, appX_tok]
    try simp only [go_sem, ldS_at hd, stX_at hd, ldS_sv hlt, stX_sv hlt, sv_ext hlt, sv_ext_sv hlt, hk0, hb0, hod, hb1, hr, hb2, ha, hb3, hol, han3, han2, ← List.map_take]
    refine hR _ _ (kq7 _ _ ?_); clear hR R; try clear kq7 kz7
    try simp only [go_sem, ldS_at hd, stX_at hd, ldS_sv hlt, stX_sv hlt, sv_ext hlt, sv_ext_sv hlt, hk0, hb0, hod, hb1, hr, hb2, ha, hb3, hol, han3, han2, ← List.map_take]
    refine W_region [0, 1, 7, 8] fun R hR => ?_   -- r4
    simp only [go_sem, ldS_at hd, stX_at hd, ldS_sv hlt, stX_sv hlt, sv_ext hlt, sv_ext_sv hlt, hk0, hb0, hod, hb1, hr, hb2, ha, hb3, hol, han3, han2, ← List.map_take]
    try simp (disch := omega) only [wrapI, wrapU]
    refine hR _ _ ?_; clear hR R
    try simp only [go_sem, ldS_at hd, stX_at hd, ldS_sv hlt, stX_sv hlt, sv_ext hlt, sv_ext_sv hlt, hk0, hb0, hod, hb1, hr, hb2, ha, hb3, hol, han3, han2, ← List.map_take]
    refine ⟨(k, acc ++ [od.take an], b3), ?_, by (try simp only []); omega, ?_⟩
    · refine Weak.eq ?_ ?_
      · simp only [hk1, List.map_append, List.map_cons, List.map_nil, List.length_append, List.length_cons, List.length_nil]; first | done | rfl
      · simp only [List.length_append, List.length_cons, List.length_nil]; first | done | rfl
    · try dsimp only
      exact ⟨by omega, by simp; omega, hinv⟩
  · -- c1 false
    try simp only [nrm] at c1
    have hke : k = 0 := by first | omega | (simp at c1; omega)
    subst hke
    simp only [prefsC, dret] at hinv
    refine W_exit ?_
    simp only [go_sem, ldS_at hd, stX_at hd, ldS_sv hlt, stX_sv hlt, sv_ext hlt, sv_ext_sv hlt, hk0, hb0]
    refine kq3 _ _ ?_
    refine W_seq fun kz8 kq8 => ?_
    refine W_region [6] fun R hR => ?_   -- r6
    simp only [go_sem, ldS_at hd, stX_at hd, ldS_sv hlt, stX_sv hlt, sv_ext hlt, sv_ext_sv hlt, hk0, hb0]
    refine hR _ _ (kq8 _ _ ?_); clear hR R; try clear kq8 kz8
    try simp only [go_sem, ldS_at hd, stX_at hd, ldS_sv hlt, stX_sv hlt, sv_ext hlt, sv_ext_sv hlt, hk0, hb0]
    refine W_ret ?_
    simp only [go_sem, ldS_at hd, stX_at hd, ldS_sv hlt, stX_sv hlt, sv_ext hlt, sv_ext_sv hlt, hk0, hb0]
    refine ⟨.inr (by trivial), ?_⟩
    rw [hinv]; refine Fin_set hcl (by simp only [go_sem]) rfl (Wk.ro (by simp only [go_sem]) ?_)
    try simp only [go_sem]
    all_goals
      first | done | rfl | simp only [go_sem]
end Go.Proofs.Ytnolifglhhjdnaa
namespace Go.Proofs.Ytnolifglhhjdnaa
open Go Go.RowKit
set_option maxRecDepth 100000
end Go.Proofs.Ytnolifglhhjdnaa
namespace Go.Proofs.Ytnolifglhhjdnaa
open Go
set_option maxRecDepth 100000
/-- The place of a song in a list, or the list's length. -/
def atF (v : Int) : List Int → Nat
  | [] => 0
  | x :: l => if x = v then 0 else atF v l + 1
theorem atF_le {v : Int} : ∀ l, atF v l ≤ l.length := by
  intro l
  induction l with
  | nil => simp [atF]
  | cons x l ih =>
    simp only [atF, List.length_cons]
    split <;> omega
theorem fIdx_atF {v : Int} : ∀ (l : List Int) (i : Nat), fIdx (fun x => decide (v = x)) i l = if atF v l < l.length then ((i + atF v l : Nat) : Int) else -1 := by
  intro l
  induction l with
  | nil => intro i; simp [fIdx, atF]
  | cons x l ih =>
    intro i
    by_cases h : x = v
    · subst h; simp [fIdx, atF]
    · have h' : ¬ v = x := fun e => h e.symm
      simp only [fIdx, atF, h, h', decide_false, Bool.false_eq_true, if_false, ih, List.length_cons]
      by_cases q : atF v l < l.length
      · rw [if_pos q, if_pos (by omega)]; omega
      · rw [if_neg q, if_neg (by omega)]
theorem has_take {b : Int} : ∀ (l : List Int) (k : Nat), k ≤ l.length → has (l.take k) b = decide (atF b l < k) := by
  intro l
  induction l with
  | nil => intro k hk; simp at hk; subst hk; simp [has]
  | cons x l ih =>
    intro k hk
    cases k with
    | zero => simp [has]
    | succ k =>
      have := ih k (by simpa using hk)
      by_cases h : x = b
      · subst h; simp [has, atF]
      · rw [List.take_succ_cons]
        have e : has (x :: l.take k) b = has (l.take k) b := by simp [has, h]
        rw [e, this]
        simp only [atF, h, if_false]
        rw [decide_eq_decide]; omega
theorem atF_inj {a b : Int} : ∀ {l : List Int}, atF a l < l.length → atF a l = atF b l → a = b := by
  intro l
  induction l with
  | nil => intro h; simp [atF] at h
  | cons x l ih =>
    intro h e
    simp only [atF, List.length_cons] at h e
    by_cases h1 : x = a
    · by_cases h2 : x = b
      · exact h1.symm.trans h2
      · rw [if_pos h1, if_neg h2] at e
        omega
    · by_cases h2 : x = b
      · rw [if_neg h1, if_pos h2] at e; omega
      · rw [if_neg h1] at h e; rw [if_neg h2] at e
        exact ih (by omega) (by omega)
/-- Is one song before the other one? -/
def bef (l : List Int) (a b : Int) : Bool := decide (atF a l < atF b l)
theorem bef_no {l : List Int} {a : Int} (b : Int) (h : ¬ 0 ≤ fIdx (fun x => decide (a = x)) 0 l) : bef l a b = false := by
  rw [fIdx_atF] at h
  split at h
  · omega
  · have := atF_le (v := b) l
    simp only [bef, decide_eq_false_iff_not]; omega
theorem bef_self (l : List Int) (a : Int) : bef l a a = false := by simp [bef]
theorem bef_take {l : List Int} {a b : Int} {k : Nat} (h : fIdx (fun x => decide (a = x)) 0 l = (k : Int)) (hne : b ≠ a) : k < l.length ∧ bef l a b = !has (l.take k) b := by
  rw [fIdx_atF] at h
  split at h
  · rename_i q
    have hk : k = atF a l := by omega
    subst hk
    refine ⟨q, ?_⟩
    rw [has_take l _ (by omega)]
    have : atF a l ≠ atF b l := fun e => hne (atF_inj q e).symm
    rw [Bool.eq_iff_iff]
    simp [bef]; omega
  · omega
/-- In how many lists is one before the other one? -/
def cntD (ls : List (List Int)) (a b : Int) : Nat := ls.countP fun l => bef l a b
theorem cntD_snoc (ls : List (List Int)) (l : List Int) (a b : Int) : cntD (ls ++ [l]) a b = cntD ls a b + (if bef l a b = true then 1 else 0) := by
  simp [cntD, List.countP_append, List.countP_cons]
theorem cntD_le (ls : List (List Int)) (a b : Int) : cntD ls a b ≤ ls.length := List.countP_le_length
def rowG (f : Nat → Int) (N : Nat) : List Int := (List.range N).map f
theorem rowG_len (f : Nat → Int) (N : Nat) : (rowG f N).length = N := by simp [rowG]
theorem rowG_get {f : Nat → Int} {N s : Nat} (h : s < N) : (rowG f N)[s]? = some (f s) := by simp [rowG, h]
theorem rowG_congr {f g : Nat → Int} {N : Nat} (h : ∀ x, x < N → f x = g x) : rowG f N = rowG g N := by
  unfold rowG
  exact List.map_congr_left fun x hx => h x (List.mem_range.1 hx)
theorem rowG_set {f : Nat → Int} {N s : Nat} {v : Int} : (rowG f N).set s v = rowG (fun x => if x = s then v else f x) N := by
  apply List.ext_getElem?
  intro i
  by_cases hi : i < N
  · rw [rowG_get hi]
    by_cases e : s = i
    · subst e; rw [List.getElem?_set_self (by rw [rowG_len]; exact hi)]; simp
    · rw [List.getElem?_set_ne e, rowG_get hi, if_neg (fun h => e h.symm)]
  · rw [List.getElem?_eq_none (by simp [rowG_len]; omega), List.getElem?_eq_none (by simp [rowG_len]; omega)]
theorem rowG_zero (N : Nat) : rowG (fun _ => 0) N = List.replicate N 0 := by unfold rowG; rw [List.map_const', List.length_range]
/-- The row of a song. -/
def rowD (ls : List (List Int)) (N a : Nat) : List Int := rowG (fun b => (cntD ls a b : Int)) N
def overP (ls : List (List Int)) (N a : Nat) : List (List Int) := (List.range a).map fun x => rowD ls N x
theorem overP_succ (ls : List (List Int)) (N a : Nat) : overP ls N (a + 1) = overP ls N a ++ [rowD ls N a] := by simp [overP, List.range_succ]
theorem overP_len (ls : List (List Int)) (N a : Nat) : (overP ls N a).length = a := by simp [overP]
theorem overP_get {ls : List (List Int)} {N a x : Nat} (h : x < a) : (overP ls N a)[x]? = some (rowD ls N x) := by simp [overP, h]
theorem rowD_get {ls : List (List Int)} {N a b : Nat} (h : b < N) : (rowD ls N a)[b]? = some (cntD ls a b : Int) := rowG_get h
/-- Is it over the first so many songs? -/
def beatP (ls : List (List Int)) (a b : Nat) : Bool := (List.range b).all fun x => decide (a = x) || decide (cntD ls x a < cntD ls a x)
theorem beatP_succ (ls : List (List Int)) (a b : Nat) : beatP ls a (b + 1) = (beatP ls a b && (decide (a = b) || decide (cntD ls b a < cntD ls a b))) := by simp [beatP, List.range_succ]
theorem beatP_iff {ls : List (List Int)} {a b : Nat} : beatP ls a b = true ↔ ∀ x, x < b → a = x ∨ cntD ls x a < cntD ls a x := by simp [beatP]
theorem beatP_no {ls : List (List Int)} {a b n : Nat} (hb : b < n) (h : a ≠ b) (h2 : cntD ls a b ≤ cntD ls b a) : beatP ls a n = false := by
  cases e : beatP ls a n with
  | false => rfl
  | true => rcases beatP_iff.1 e b hb with h3 | h3
            · exact absurd h3 h
            · omega
/-- The last song of the first so many that is over each other one. -/
def bestF (ls : List (List Int)) (N : Nat) : Nat → Int
  | 0 => -1
  | i + 1 => if beatP ls i N then (i : Int) else bestF ls N i
theorem bestF_uni {ls : List (List Int)} {N a : Nat} (ha : a < N) (h : beatP ls a N = true) : ∀ i, i ≤ N → a < i → bestF ls N i = (a : Int) := by
  intro i
  induction i with
  | zero => intro _ h; omega
  | succ i ih =>
    intro h1 h2
    simp only [bestF]
    by_cases e : i = a
    · subst e; rw [if_pos h]
    · have : beatP ls i N = false := by
        cases q : beatP ls i N with
        | false => rfl
        | true =>
          have q1 := beatP_iff.1 q a ha
          have q2 := beatP_iff.1 h i (by omega)
          omega
      rw [if_neg (by simp [this])]
      exact ih (by omega) (by omega)
/-- Who is before whom how often, the song that is over each other one, an error. -/
def duelsA (n : Int) (ls : List (List Int)) : List (List Int) × Int × Int :=
  if chkPf n ls ≠ 0 then ([], 0, chkPf n ls) else (overP ls n.toNat n.toNat, bestF ls n.toNat n.toNat, 0)
end Go.Proofs.Ytnolifglhhjdnaa
namespace Go.Proofs.Ytnolifglhhjdnaa
open Go Go.RowKit
set_option maxRecDepth 100000
set_option maxHeartbeats 2000000 in
theorem rat_pc (Y : YEnv) (σ : Sg) (l : List Int) (o : Own) (v : Int) (hl : l.length < 2 ^ 40) :
    PC Try.prog Y 58 [intsO o l, I v] σ (I (atF v l : Nat)) (σ) := by
  refine PC_of_W Try.func58 rfl (by kernel_rfl) Try.ntmps58 (by simp) fun hcl hca => ?_
  obtain ⟨res, hres⟩ : ∃ r, atF v l = r := ⟨_, rfl⟩
  rw [hres]
  refine W_seq fun kz1 kq1 => ?_
  refine W_region [0, 1] fun R hR => ?_   -- r0
  simp only [go_sem]
  refine hR _ _ (kq1 _ _ ?_); clear hR R; try clear kq1 kz1
  try simp only [go_sem]
  refine W_seq fun kz2 kq2 => ?_
  refine W_region [0, 1, 5] fun R hR => ?_   -- r1
  simp only [go_sem]
  refine hR _ _ (kq2 _ _ ?_); clear hR R; try clear kq2 kz2
  try simp only [go_sem]
  refine W_seq fun kz3 kq3 => ?_
  refine W_block ?_
  refine W_loopS (α := Nat) (fun (i : Nat) => [(5, I i)]) (fun (i : Nat) => i ≤ l.length ∧ res = i + atF v (l.drop i)) (fun (i : Nat) => l.length - i) (0) rfl (⟨Nat.zero_le _, by rw [List.drop_zero, Nat.zero_add]; exact hres.symm⟩) ?_
  rintro i ⟨hi, hinv⟩
  refine W_seq fun kz4 kq4 => ?_
  refine W_seq fun kz5 kq5 => ?_
  refine W_region [0, 1, 5, 17] fun R hR => ?_   -- r2
  simp only [go_sem]
  refine GWant_split (fun g1 => ?_) (fun g1 => ?_)
  · try simp only [Bool.not_eq_true', Bool.not_eq_false'] at g1
    have n1 := g1; try simp only [nrm] at n1
    have hil : i < l.length := by simpa using g1
    have hi' : i < l.length := by exact hil
    obtain ⟨x, hx⟩ : ∃ x, l[i]? = some x := ⟨l[i], by simp [hi']⟩
    have hdrop : l.drop i = x :: l.drop (i + 1) := by
      rw [List.drop_eq_getElem_cons hi']; congr 1; exact (List.getElem?_eq_some_iff.1 hx).2
    rw [hdrop] at hinv
    simp only [atF] at hinv
    simp only [go_sem, hx, g1]
    refine hR _ _ (kq5 _ _ ?_); clear hR R; try clear kq5 kz5
    try simp only [go_sem, hx]
    refine W_cond rfl (fun c1 => ?_) (fun c1 => ?_)
    · -- c1 true
      try simp only [nrm] at c1
      refine W_skip (kq4 _ _ ?_)
      refine W_block ?_
      refine W_region [0, 1, 5] fun R hR => ?_   -- r3
      simp only [go_sem, hx]
      try simp (disch := omega) only [wrapI, wrapU]
      refine hR _ _ ?_; clear hR R
      try simp only [go_sem, hx]
      refine ⟨i + 1, ?_, by (try simp only []); omega, ?_⟩
      · first | exact Weak.refl | exact Weak.eq (by first | rfl | (simp only [go_sem]; done) | (simp only [go_sem]; rfl) | (simp [go_sem]; done) | (simp [go_sem]; omega)) (by first | rfl | (simp only [go_sem]; done) | (simp [go_sem]; done))
      · try dsimp only
        refine ⟨hi', ?_⟩
        rw [hinv]
        have hxv : ¬ x = v := by simpa using c1
        rw [if_neg hxv]; omega
    · -- c1 false
      try simp only [nrm] at c1
      refine W_exit ?_
      simp only [go_sem, hx]
      refine kq3 _ _ ?_
      refine W_seq fun kz6 kq6 => ?_
      refine W_region [4] fun R hR => ?_   -- r4
      simp only [go_sem, hx]
      refine hR _ _ (kq6 _ _ ?_); clear hR R; try clear kq6 kz6
      try simp only [go_sem, hx]
      refine W_ret ?_
      simp only [go_sem, hx]
      refine ⟨.inr (by trivial), ?_⟩
      first | refine Fin_same hcl rfl (Wk_eq ?_ (by simp only [go_sem])) | refine Fin_self hcl rfl (Wk_eq ?_ (by simp only [go_sem]))
      try simp only [go_sem]
      all_goals
        first | (rw [hinv]; done) | (have hxv : x = v := (by simpa using c1); rw [if_pos hxv, Nat.add_zero] at hinv; rw [hinv]; done) | simp_all
  · try simp only [Bool.not_eq_true', Bool.not_eq_false'] at g1
    have n1 := g1; try simp only [nrm] at n1
    have hil : ¬ i < l.length := by simpa using g1
    have hdrop : l.drop i = [] := List.drop_eq_nil_of_le (by omega)
    rw [hdrop] at hinv
    simp only [atF] at hinv
    rw [Nat.add_zero] at hinv
    simp only [go_sem, g1]
    refine hR _ _ (kq5 _ _ ?_); clear hR R; try clear kq5 kz5
    try simp only [go_sem]
    refine W_cond_false rfl ?_
    refine W_exit ?_
    simp only [go_sem]
    refine kq3 _ _ ?_
    refine W_seq fun kz7 kq7 => ?_
    refine W_region [4] fun R hR => ?_   -- r4
    simp only [go_sem]
    refine hR _ _ (kq7 _ _ ?_); clear hR R; try clear kq7 kz7
    try simp only [go_sem]
    refine W_ret ?_
    simp only [go_sem]
    refine ⟨.inr (by trivial), ?_⟩
    first | refine Fin_same hcl rfl (Wk_eq ?_ (by simp only [go_sem])) | refine Fin_self hcl rfl (Wk_eq ?_ (by simp only [go_sem]))
    try simp only [go_sem]
    all_goals
      first | (rw [hinv]; done) | (have hxv : x = v := (by simpa using c1); rw [if_pos hxv, Nat.add_zero] at hinv; rw [hinv]; done) | simp_all
set_option maxHeartbeats 4000000 in
theorem wins_pc (Y : YEnv) (σ : Sg) (N a : Nat) (ls : List (List Int)) (o : Own) (i1 i2 : Nat) (h1 : σ.store[i1]? = some (some [I N])) (h2 : σ.store[i2]? = some (some [.isl ((overP ls N N).map llPV) o])) (hN : N ≤ 8) (ha : a < N) :
    PC Try.prog Y 57 [I a, .ptr i1 0, .ptr i2 0] σ (.bool (beatP ls a N)) (σ) := by
  refine PC_of_W Try.func57 rfl (by kernel_rfl) Try.ntmps57 (by simp) fun hcl hca => ?_
  have hol := overP_len ls N N
  have haI : (a : Int) < (N : Int) := by omega
  have hra := overP_get (ls := ls) (N := N) ha
  have hla := rowG_len (fun b => (cntD ls a b : Int)) N
  refine W_seq fun kz1 kq1 => ?_
  refine W_region [0, 1, 2] fun R hR => ?_   -- r0
  simp only [go_sem, ldS_at h1, ldS_at h2]
  refine hR _ _ (kq1 _ _ ?_); clear hR R; try clear kq1 kz1
  try simp only [go_sem, ldS_at h1, ldS_at h2]
  refine W_seq fun kz2 kq2 => ?_
  refine W_seq fun kz3 kq3 => ?_
  refine W_region [0, 2, 6, 7] fun R hR => ?_   -- r1
  simp only [go_sem, ldS_at h1, ldS_at h2]
  refine hR _ _ (kq3 _ _ ?_); clear hR R; try clear kq3 kz3
  try simp only [go_sem, ldS_at h1, ldS_at h2]
  refine W_block ?_
  refine W_loopS (α := Nat) (fun (b : Nat) => [(7, I b)]) (fun (b : Nat) => b ≤ N ∧ beatP ls a b = true) (fun (b : Nat) => N - b) (0) rfl (⟨Nat.zero_le _, rfl⟩) ?_
  rintro b ⟨hb, hbt⟩
  refine W_seq fun kz4 kq4 => ?_
  refine W_region [0, 2, 6, 7, 8] fun R hR => ?_   -- r2
  simp only [go_sem, ldS_at h1, ldS_at h2]
  refine hR _ _ (kq4 _ _ ?_); clear hR R; try clear kq4 kz4
  try simp only [go_sem, ldS_at h1, ldS_at h2]
  refine W_seq fun kz5 kq5 => ?_
  refine W_cond rfl (fun c1 => ?_) (fun c1 => ?_)
  · -- c1 true
    try simp only [nrm] at c1
    have hbN : b < N := by first | omega | (simp at c1; omega)
    have hbI : (b : Int) < (N : Int) := by omega
    have hrb := overP_get (ls := ls) (N := N) hbN
    have hab := rowD_get (ls := ls) (a := a) hbN
    have hba := rowD_get (ls := ls) (a := b) ha
    refine W_skip (kq5 _ _ ?_)
    refine W_seq fun kz6 kq6 => ?_
    refine W_block ?_
    refine W_seq fun kz7 kq7 => ?_
    refine W_region [0, 2, 5, 6, 7] fun R hR => ?_   -- r3
    simp only [go_sem, ldS_at h1, ldS_at h2, hbI, haI, hra, hrb, hab, hba, hol, List.getElem?_map, llPV, Nat.mul_one]
    refine hR _ _ (kq7 _ _ ?_); clear hR R; try clear kq7 kz7
    try simp only [go_sem, ldS_at h1, ldS_at h2, hbI, haI, hra, hrb, hab, hba, hol, List.getElem?_map, llPV, Nat.mul_one]
    refine W_seq fun kz8 kq8 => ?_
    refine W_drawJ [0, 2, 6, 7, 29] [(29, .bool (!decide (b = a) && decide (cntD ls a b ≤ cntD ls b a)))] [0, 1, 2, 3, 4, 5, 6, 7, 8, 9, 10, 11, 12, 13, 14, 15, 16, 17, 18, 19] [] [[], [], [0, 1], [0, 1, 2], [0, 1, 2, 3], [0, 1, 2, 3], [0, 1, 2, 3, 4, 5], [0, 1, 2, 3, 4, 5, 6], [0, 1, 2, 3], [0, 1, 2, 3, 4, 5, 6, 7, 8], [0, 1, 2, 3, 4, 5, 6, 7, 8, 9], [0, 1, 2, 3], [0, 1, 2, 3], [0, 1, 2, 3, 11, 12], [0, 1, 2, 3, 11, 12, 13], [0, 1, 2, 3], [0, 1, 2, 3, 11, 12, 13, 14, 15], [0, 1, 2, 3, 11, 12, 13, 14, 15, 16], [0, 1, 2, 3, 4, 5, 6, 7, 8, 9, 10, 11, 12, 13, 14, 15, 16, 17], [0, 1, 2, 3, 4, 5, 6, 7, 8, 9, 10, 11, 12, 13, 14, 15, 16, 17, 18]] mixed (by kernel_rfl) ?_ fun R hR => ?_   -- r4
    · refine kq8 _ _ ?_
      simp only [go_sem, ldS_at h1, ldS_at h2, hbI, haI, hra, hrb, hab, hba, hol, List.getElem?_map, llPV, Nat.mul_one]
      refine W_cond rfl (fun c2 => ?_) (fun c2 => ?_)
      · -- c2 true
        try simp only [nrm] at c2
        refine W_seq fun kz9 kq9 => ?_
        refine W_region [4] fun R hR => ?_   -- r5
        simp only [go_sem, ldS_at h1, ldS_at h2, hbI, haI, hra, hrb, hab, hba, hol, List.getElem?_map, llPV, Nat.mul_one]
        refine hR _ _ (kq9 _ _ ?_); clear hR R; try clear kq9 kz9
        try simp only [go_sem, ldS_at h1, ldS_at h2, hbI, haI, hra, hrb, hab, hba, hol, List.getElem?_map, llPV, Nat.mul_one]
        refine W_ret ?_
        simp only [go_sem, ldS_at h1, ldS_at h2, hbI, haI, hra, hrb, hab, hba, hol, List.getElem?_map, llPV, Nat.mul_one]
        refine ⟨.inr (by trivial), ?_⟩
        first | refine Fin_same hcl rfl (Wk_eq ?_ (by simp only [go_sem])) | refine Fin_self hcl rfl (Wk_eq ?_ (by simp only [go_sem]))
        try simp only [go_sem]
        all_goals
          rw [beatP_no hbN (by have := c2; simp at this; omega) (by have := c2; simp at this; omega)]
      · -- c2 false
        try simp only [nrm] at c2
        refine W_skip (kq6 _ _ ?_)
        refine W_region [0, 2, 6, 7] fun R hR => ?_   -- r6
        simp only [go_sem, ldS_at h1, ldS_at h2, hbI, haI, hra, hrb, hab, hba, hol, List.getElem?_map, llPV, Nat.mul_one]
        try simp (disch := omega) only [wrapI, wrapU]
        refine hR _ _ ?_; clear hR R
        try simp only [go_sem, ldS_at h1, ldS_at h2, hbI, haI, hra, hrb, hab, hba, hol, List.getElem?_map, llPV, Nat.mul_one]
        refine ⟨b + 1, ?_, by (try simp only []); omega, ?_⟩
        · first | exact Weak.refl | exact Weak.eq (by first | rfl | (simp only [go_sem]; done) | (simp only [go_sem]; rfl) | (simp [go_sem]; done) | (simp [go_sem]; omega)) (by first | rfl | (simp only [go_sem]; done) | (simp [go_sem]; done))
        · try dsimp only
          refine ⟨hbN, ?_⟩
          rw [beatP_succ, hbt, Bool.true_and]
          have := c2
          simp at this ⊢
          omega
    · simp only [go_sem, ldS_at h1, ldS_at h2, hbI, haI, hra, hrb, hab, hba, hol, List.getElem?_map, llPV, Nat.mul_one]
      refine GWant_split (fun g1 => ?_) (fun g1 => ?_)
      · try simp only [Bool.not_eq_true', Bool.not_eq_false'] at g1
        have n1 := g1; try simp only [nrm] at n1
        simp only [go_sem, ldS_at h1, ldS_at h2, hbI, haI, hra, hrb, hab, hba, hol, List.getElem?_map, llPV, Nat.mul_one, g1]
        try refine And.intro (by repeat' (first | refine And.intro ?_ ?_ | exact GOr_right (fun _ => by simp only [go_sem, ldS_at h1, ldS_at h2, hbI, haI, hra, hrb, hab, hba, hol, List.getElem?_map, llPV, Nat.mul_one]))) ?_
        refine hR _ ?_
        all_goals try simp only [go_sem, ldS_at h1, ldS_at h2, hbI, haI, hra, hrb, hab, hba, hol, List.getElem?_map, llPV, Nat.mul_one]
        all_goals
          first | rfl | (simp [*]; done) | (simp_all; done) | (simp_all; omega)
      · try simp only [Bool.not_eq_true', Bool.not_eq_false'] at g1
        have n1 := g1; try simp only [nrm] at n1
        simp only [go_sem, ldS_at h1, ldS_at h2, hbI, haI, hra, hrb, hab, hba, hol, List.getElem?_map, llPV, Nat.mul_one, g1]
        try refine And.intro (by repeat' (first | refine And.intro ?_ ?_ | exact GOr_right (fun _ => by simp only [go_sem, ldS_at h1, ldS_at h2, hbI, haI, hra, hrb, hab, hba, hol, List.getElem?_map, llPV, Nat.mul_one]))) ?_
        refine hR _ ?_
        all_goals try simp only [go_sem, ldS_at h1, ldS_at h2, hbI, haI, hra, hrb, hab, hba, hol, List.getElem?_map, llPV, Nat.mul_one]
        all_goals
          first | rfl | (simp [*]; done) | (simp_all; done) | (simp_all; omega)
  · -- c1 false
    try simp only [nrm] at c1
    have hbe : b = N := by first | omega | (simp at c1; omega)
    subst hbe
    refine W_exit ?_
    simp only [go_sem, ldS_at h1, ldS_at h2]
    refine kq2 _ _ ?_
    refine W_seq fun kz10 kq10 => ?_
    refine W_region [4] fun R hR => ?_   -- r7
    simp only [go_sem, ldS_at h1, ldS_at h2]
    refine hR _ _ (kq10 _ _ ?_); clear hR R; try clear kq10 kz10
    try simp only [go_sem, ldS_at h1, ldS_at h2]
    refine W_ret ?_
    simp only [go_sem, ldS_at h1, ldS_at h2]
    refine ⟨.inr (by trivial), ?_⟩
    first | refine Fin_same hcl rfl (Wk_eq ?_ (by simp only [go_sem])) | refine Fin_self hcl rfl (Wk_eq ?_ (by simp only [go_sem]))
    try simp only [go_sem]
    all_goals
      rw [hbt]
end Go.Proofs.Ytnolifglhhjdnaa
namespace Go.Proofs.Ytnolifglhhjdnaa
open Go Go.RowKit
set_option maxRecDepth 100000
end Go.Proofs.Ytnolifglhhjdnaa
namespace Go.Proofs.Ytnolifglhhjdnaa
open Go Go.RowKit
set_option maxRecDepth 100000
set_option maxHeartbeats 8000000 in
theorem Duels_pc (Y : YEnv) (σ : Sg) (n : Int) (ls : List (List Int)) (hl : ls.length < 2 ^ 40) (hl2 : ∀ l, l ∈ ls → l.length < 2 ^ 40) :
    PC Try.prog Y 31 [I n, lls ls] σ (.tuple [lls (duelsA n ls).1, I (duelsA n ls).2.1, I (duelsA n ls).2.2]) (σ) := by
  refine PC_of_W Try.func31 rfl (by kernel_rfl) Try.ntmps31 (by simp) fun hcl hca => ?_
  refine W_seq fun kz1 kq1 => ?_
  refine W_region [1, 2, 4] fun R hR => ?_   -- r0
  simp only [go_sem]
  refine hR _ _ (kq1 _ _ ?_); clear hR R; try clear kq1 kz1
  try simp only [go_sem]
  refine W_seq fun kz2 kq2 => ?_
  refine W_seq fun kz3 kq3 => ?_
  refine W_region [1, 2, 4, 7] fun R hR => ?_   -- r1
  simp only [go_sem]
  refine GCall_of (chkPf_pc Y _ n ls hl hl2) ?_   -- t18
  simp only [go_sem]
  refine hR _ _ (kq3 _ _ ?_); clear hR R; try clear kq3 kz3
  try simp only [go_sem]
  refine W_seq fun kz4 kq4 => ?_
  refine W_region [1, 2, 4, 7, 20] fun R hR => ?_   -- r2
  simp only [go_sem]
  refine hR _ _ (kq4 _ _ ?_); clear hR R; try clear kq4 kz4
  try simp only [go_sem]
  refine W_cond rfl (fun c1 => ?_) (fun c1 => ?_)
  · -- c1 true
    try simp only [nrm] at c1
    refine W_seq fun kz5 kq5 => ?_
    refine W_region [4, 5, 6] fun R hR => ?_   -- r3
    simp only [go_sem]
    refine hR _ _ (kq5 _ _ ?_); clear hR R; try clear kq5 kz5
    try simp only [go_sem]
    refine W_ret ?_
    simp only [go_sem]
    refine ⟨.inr (by trivial), ?_⟩
    first | (rw [hall]; refine Fin_same hcl (by show resPV Try.prog _ _ [.cell 4 48, .tmp 5, .tmp 6] = some _; simp only [resPV, go_sem]; rfl) (Wk.ro (by simp only [go_sem]) ?_)) | refine Fin_same hcl (by show resPV Try.prog _ _ [.cell 4 48, .tmp 5, .tmp 6] = some _; simp only [resPV, go_sem]; rfl) (Wk.ro (by simp only [go_sem]) ?_) | refine Fin_self hcl (by show resPV Try.prog _ _ [.cell 4 48, .tmp 5, .tmp 6] = some _; simp only [resPV, go_sem]; rfl) (Wk.ro (by simp only [go_sem]) ?_)
    try simp only [go_sem]
    all_goals
      simp only [duelsA]; rw [if_pos c1]; first | rfl | simp only [go_sem]
  · -- c1 false
    try simp only [nrm] at c1
    have hV := pfV_iff.1 c1
    have hn1 := hV.nb
    obtain ⟨N, hN⟩ : ∃ z : Nat, n = z := ⟨n.toNat, by omega⟩
    have hall : duelsA n ls = (overP ls N N, bestF ls N N, 0) := by
      unfold duelsA
      rw [if_neg (by simp [c1]), hN, Int.toNat_natCast]
    subst hN
    have hmem := fun l (h : l ∈ ls) => (chkRow_mem (hV.ck l h)).1
    refine W_skip (kq2 _ _ ?_)
    refine W_seq fun kz6 kq6 => ?_
    refine W_seq fun kz7 kq7 => ?_
    refine W_region [1, 2, 4, 22, 23] fun R hR => ?_   -- r4
    simp only [go_sem]
    refine hR _ _ (kq7 _ _ ?_); clear hR R; try clear kq7 kz7
    try simp only [go_sem]
    refine W_block ?_
    refine W_weak (Weak.roomX (j := 1) (off := 0) (es := 1) rfl rfl (by simp)) ?_
    simp only [go_sem]
    refine W_loopT (α := Nat) (fun (a : Nat) => [(23, I a)]) (fun (a : Nat) => σ.ext [some [I N], some [.isl ((overP ls N a).map llPV) (.tok σ.rooms.length a 1)]] [a]) (fun (a : Nat) => a ≤ N) (fun (a : Nat) => N - a) (0) rfl (by first | rfl | (simp only [go_sem]; done) | (simp only [go_sem]; rfl)) (Nat.zero_le _) ?_
    rintro a ha
    refine W_seq fun kz8 kq8 => ?_
    refine W_region [1, 2, 4, 22, 23, 24] fun R hR => ?_   -- r5
    simp only [go_sem]
    refine hR _ _ (kq8 _ _ ?_); clear hR R; try clear kq8 kz8
    try simp only [go_sem]
    refine W_seq fun kz9 kq9 => ?_
    refine W_cond rfl (fun c2 => ?_) (fun c2 => ?_)
    · -- c2 true
      try simp only [nrm] at c2
      have haN : a < N := by first | omega | (simp at c2; omega)
      have hop := overP_len ls N a
      refine W_skip (kq9 _ _ ?_)
      refine W_seq fun kz10 kq10 => ?_
      refine W_block ?_
      refine W_seq fun kz11 kq11 => ?_
      refine W_region [1, 2, 4, 8, 22, 23] fun R hR => ?_   -- r6
      simp only [go_sem, hop]
      refine hR _ _ (kq11 _ _ ?_); clear hR R; try clear kq11 kz11
      try simp only [go_sem, hop]
      refine W_seq fun kz12 kq12 => ?_
      refine W_region [1, 2, 4, 8, 9, 22, 23] fun R hR => ?_   -- r7
      simp only [go_sem, hop, mkI (k := N) (by omega)]
      refine hR _ _ (kq12 _ _ ?_); clear hR R; try clear kq12 kz12
      try simp only [go_sem, hop]
      refine W_seq fun kz13 kq13 => ?_
      refine W_seq fun kz14 kq14 => ?_
      refine W_region [1, 2, 4, 8, 9, 22, 23, 28, 29, 30] fun R hR => ?_   -- r8
      simp only [go_sem, hop]
      refine hR _ _ (kq14 _ _ ?_); clear hR R; try clear kq14 kz14
      try simp only [go_sem, hop]
      refine W_block ?_
      refine W_loopT (α := Nat) (fun (j : Nat) => [(30, I j)]) (fun (j : Nat) => σ.ext [some [I N], some [.isl ((overP ls N a).map llPV) (.tok σ.rooms.length a 1)], some ((rowG (fun x => (cntD (ls.take j) a x : Int)) N).map I)] [a]) (fun (j : Nat) => j ≤ ls.length) (fun (j : Nat) => ls.length - j) (0) rfl (by rw [show rowG (fun x => (cntD (ls.take 0) a x : Int)) N = List.replicate N 0 by rw [← rowG_zero]; exact rowG_congr fun x _ => by simp [cntD]]) (Nat.zero_le _) ?_
      rintro j hj
      refine W_seq fun kz15 kq15 => ?_
      refine W_region [1, 2, 4, 8, 9, 22, 23, 28, 29, 30, 31] fun R hR => ?_   -- r9
      simp only [go_sem, hop]
      refine hR _ _ (kq15 _ _ ?_); clear hR R; try clear kq15 kz15
      try simp only [go_sem, hop]
      refine W_seq fun kz16 kq16 => ?_
      refine W_cond rfl (fun c3 => ?_) (fun c3 => ?_)
      · -- c3 true
        try simp only [nrm] at c3
        have hj' : j < ls.length := by first | assumption | omega
        obtain ⟨l, hlj⟩ : ∃ l, ls[j]? = some l := ⟨ls[j], by simp [hj']⟩
        have hdrop : ls.drop j = l :: ls.drop (j + 1) := by
          rw [List.drop_eq_getElem_cons hj']; congr 1; exact (List.getElem?_eq_some_iff.1 hlj).2
        have hsn : ls.take (j + 1) = ls.take j ++ [l] := by rw [List.take_add_one, hlj]; rfl
        have hj2 : j + 1 ≤ ls.length := hj'
        have hjI : (j : Int) < (ls.length : Int) := by omega
        have hll := hl2 l (List.mem_of_getElem? hlj)
        have hd0 : rowG (fun x => if x < 0 then (cntD (ls.take (j + 1)) a x : Int) else (cntD (ls.take j) a x : Int)) N = rowG (fun x => (cntD (ls.take j) a x : Int)) N := rowG_congr fun x _ => if_neg (by omega)
        refine W_skip (kq16 _ _ ?_)
        refine W_seq fun kz17 kq17 => ?_
        refine W_block ?_
        refine W_seq fun kz18 kq18 => ?_
        refine W_region [1, 2, 4, 8, 9, 11, 22, 23, 28, 29, 30] fun R hR => ?_   -- r10
        simp only [go_sem, hop, hlj, llPV, hjI]
        refine hR _ _ (kq18 _ _ ?_); clear hR R; try clear kq18 kz18
        try simp only [go_sem, hop, hlj, llPV, hjI]
        refine W_seq fun kz19 kq19 => ?_
        refine W_region [1, 2, 4, 8, 9, 11, 12, 22, 23, 28, 29, 30] fun R hR => ?_   -- r11
        simp only [go_sem, hop, hlj, llPV, hjI]
        refine GCall_of (index_pc Y _ l _ a (by omega)) ?_   -- t36
        simp only [go_sem, hop, hlj, llPV, hjI]
        refine hR _ _ (kq19 _ _ ?_); clear hR R; try clear kq19 kz19
        try simp only [go_sem, hop, hlj, llPV, hjI]
        refine W_seq fun kz20 kq20 => ?_
        refine W_region [1, 2, 4, 8, 9, 11, 12, 22, 23, 28, 29, 30, 37, 38] fun R hR => ?_   -- r12
        simp only [go_sem, hop, hlj, llPV, hjI]
        refine hR _ _ (kq20 _ _ ?_); clear hR R; try clear kq20 kz20
        try simp only [go_sem, hop, hlj, llPV, hjI]
        refine W_block ?_
        obtain ⟨at', hat⟩ : ∃ z, fIdx (fun x => decide ((a : Int) = x)) 0 l = z := ⟨_, rfl⟩
        rw [hat]
        refine W_loopT (α := Nat) (fun (b : Nat) => [(38, I b)]) (fun (b : Nat) => σ.ext [some [I N], some [.isl ((overP ls N a).map llPV) (.tok σ.rooms.length a 1)], some ((rowG (fun x => if x < b then (cntD (ls.take (j + 1)) a x : Int) else (cntD (ls.take j) a x : Int)) N).map I)] [a]) (fun (b : Nat) => b ≤ N) (fun (b : Nat) => N - b) (0) rfl (by rw [hd0]) (Nat.zero_le _) ?_
        rintro b hb
        refine W_seq fun kz21 kq21 => ?_
        refine W_region [1, 2, 4, 8, 9, 11, 12, 22, 23, 28, 29, 30, 37, 38, 39] fun R hR => ?_   -- r13
        simp only [go_sem, hop, hlj, llPV, hjI]
        refine hR _ _ (kq21 _ _ ?_); clear hR R; try clear kq21 kz21
        try simp only [go_sem, hop, hlj, llPV, hjI]
        refine W_seq fun kz22 kq22 => ?_
        refine W_cond rfl (fun c4 => ?_) (fun c4 => ?_)
        · -- c4 true
          try simp only [nrm] at c4
          have hbN : b < N := by first | omega | (simp at c4; omega)
          have hbI : (b : Int) < (N : Int) := by omega
          have hbN1 : b + 1 ≤ N := hbN
          have hrb := rowG_get (f := (fun x => if x < b then (cntD (ls.take (j + 1)) a x : Int) else (cntD (ls.take j) a x : Int))) hbN
          rw [if_neg (by omega)] at hrb
          have hcl3 := cntD_le (ls.take j) a b
          rw [List.length_take] at hcl3
          have hrl := rowG_len (fun x => if x < b then (cntD (ls.take (j + 1)) a x : Int) else (cntD (ls.take j) a x : Int)) N
          refine W_skip (kq22 _ _ ?_)
          refine W_seq fun kz23 kq23 => ?_
          refine W_block ?_
          refine W_seq fun kz24 kq24 => ?_
          refine W_region [1, 2, 4, 8, 9, 11, 12, 13, 22, 23, 28, 29, 30, 37, 38] fun R hR => ?_   -- r14
          simp only [go_sem, hop, hlj, llPV, hjI, hbI, hbN1, hrb, hrl, List.getElem?_map, Nat.mul_one]
          refine hR _ _ (kq24 _ _ ?_); clear hR R; try clear kq24 kz24
          try simp only [go_sem, hop, hlj, llPV, hjI, hbI, hbN1, hrb, hrl, List.getElem?_map, Nat.mul_one]
          refine W_seq fun kz25 kq25 => ?_
          refine W_regionJ [1, 2, 4, 8, 9, 11, 12, 13, 22, 23, 28, 29, 30, 37, 38, 55] [(55, .bool (bef l a b))] ?_ fun R hR => ?_   -- r15
          · refine kq25 _ _ ?_
            simp only [go_sem, hop, hlj, llPV, hjI, hbI, hbN1, hrb, hrl, List.getElem?_map, Nat.mul_one]
            refine W_cond rfl (fun c5 => ?_) (fun c5 => ?_)
            · -- c5 true
              try simp only [nrm] at c5
              have hbf : bef l a b = true := c5
              have hrs : (rowG (fun x => if x < b then (cntD (ls.take (j + 1)) a x : Int) else (cntD (ls.take j) a x : Int)) N).set b ((cntD (ls.take j) a b : Int) + 1) = rowG (fun x => if x < b + 1 then (cntD (ls.take (j + 1)) a x : Int) else (cntD (ls.take j) a x : Int)) N := by
                rw [rowG_set]
                refine rowG_congr fun x _ => ?_
                by_cases e : x = b
                · subst e; rw [if_pos rfl, if_pos (by omega), hsn, cntD_snoc, if_pos hbf]; omega
                · by_cases q : x < b
                  · rw [if_neg e, if_pos q, if_pos (by omega)]
                  · rw [if_neg e, if_neg q, if_neg (by omega)]
              refine W_region [1, 2, 4, 8, 9, 11, 12, 22, 23, 28, 29, 30, 37, 38] fun R hR => ?_   -- r16
              simp only [go_sem, hop, hlj, llPV, hjI, hbI, hbN1, hrb, hrl, List.getElem?_map, Nat.mul_one, hrs]
              try simp (disch := omega) only [wrapI, wrapU]
              refine hR _ _ (kq23 _ _ ?_); clear hR R; try clear kq23 kz23
              try simp only [go_sem, hop, hlj, llPV, hjI, hbI, hbN1, hrb, hrl, List.getElem?_map, Nat.mul_one, hrs]
              refine W_region [1, 2, 4, 8, 9, 11, 12, 22, 23, 28, 29, 30, 37, 38] fun R hR => ?_   -- r17
              simp only [go_sem, hop, hlj, llPV, hjI, hbI, hbN1, hrb, hrl, List.getElem?_map, Nat.mul_one, hrs]
              try simp (disch := omega) only [wrapI, wrapU]
              refine hR _ _ ?_; clear hR R
              try simp only [go_sem, hop, hlj, llPV, hjI, hbI, hbN1, hrb, hrl, List.getElem?_map, Nat.mul_one, hrs]
              refine ⟨b + 1, ?_, by (try simp only []); omega, ?_⟩
              · first | exact Weak.refl | exact Weak.eq rfl (by rw [hrs])
              · try dsimp only
                exact hbN
            · -- c5 false
              try simp only [nrm] at c5
              have hbf : bef l a b = false := c5
              have hrs : rowG (fun x => if x < b then (cntD (ls.take (j + 1)) a x : Int) else (cntD (ls.take j) a x : Int)) N = rowG (fun x => if x < b + 1 then (cntD (ls.take (j + 1)) a x : Int) else (cntD (ls.take j) a x : Int)) N := by
                refine rowG_congr fun x _ => ?_
                by_cases e : x = b
                · subst e; rw [if_neg (by omega), if_pos (by omega), hsn, cntD_snoc, if_neg (by rw [hbf]; simp), Nat.add_zero]
                · by_cases q : x < b
                  · rw [if_pos q, if_pos (by omega)]
                  · rw [if_neg q, if_neg (by omega)]
              refine W_skip (kq23 _ _ ?_)
              refine W_region [1, 2, 4, 8, 9, 11, 12, 22, 23, 28, 29, 30, 37, 38] fun R hR => ?_   -- r17
              simp only [go_sem, hop, hlj, llPV, hjI, hbI, hbN1, hrb, hrl, List.getElem?_map, Nat.mul_one]
              try simp (disch := omega) only [wrapI, wrapU]
              refine hR _ _ ?_; clear hR R
              try simp only [go_sem, hop, hlj, llPV, hjI, hbI, hbN1, hrb, hrl, List.getElem?_map, Nat.mul_one]
              refine ⟨b + 1, ?_, by (try simp only []); omega, ?_⟩
              · first | exact Weak.refl | exact Weak.eq rfl (by rw [hrs])
              · try dsimp only
                exact hbN
          · simp only [go_sem, hop, hlj, llPV, hjI, hbI, hbN1, hrb, hrl, List.getElem?_map, Nat.mul_one]
            refine GWant_split (fun g1 => ?_) (fun g1 => ?_)
            · try simp only [Bool.not_eq_true', Bool.not_eq_false'] at g1
              have n1 := g1; try simp only [nrm] at n1
              obtain ⟨an, han⟩ : ∃ z : Nat, at' = z := ⟨at'.toNat, by simp at g1; omega⟩
              subst han
              simp only [go_sem, hop, hlj, llPV, hjI, hbI, hbN1, hrb, hrl, List.getElem?_map, Nat.mul_one, g1]
              refine GWant_split (fun g2 => ?_) (fun g2 => ?_)
              · try simp only [Bool.not_eq_true', Bool.not_eq_false'] at g2
                have n2 := g2; try simp only [nrm] at n2
                obtain ⟨hk1, hbt⟩ := bef_take (b := b) hat (by simpa using g2)
                have hk : (an : Int) ≤ (l.length : Int) := by omega
                have hk2 : an ≤ l.length := by omega
                simp only [go_sem, hop, hlj, llPV, hjI, hbI, hbN1, hrb, hrl, List.getElem?_map, Nat.mul_one, hk, hk2, ← List.map_take, g1, g2]
                refine GCall_of (contains_pc Y _ (l.take an) _ b (by rw [List.length_take]; omega)) ?_   -- t53
                simp only [go_sem, hop, hlj, llPV, hjI, hbI, hbN1, hrb, hrl, List.getElem?_map, Nat.mul_one, hk, hk2, ← List.map_take, g1, g2]
                refine hR _ ?_
                all_goals try simp only [go_sem, hop, hlj, llPV, hjI, hbI, hbN1, hrb, hrl, List.getElem?_map, Nat.mul_one, hk, hk2, ← List.map_take]
                all_goals
                  first | rfl | (rw [hbf]; first | done | rfl) | (rw [hbt]; first | done | rfl) | (simp [*]; done)
              · try simp only [Bool.not_eq_true', Bool.not_eq_false'] at g2
                have n2 := g2; try simp only [nrm] at n2
                have hba : (b : Int) = a := by simpa using g2
                have hbf : bef l a b = false := by rw [hba]; exact bef_self l a
                simp only [go_sem, hop, hlj, llPV, hjI, hbI, hbN1, hrb, hrl, List.getElem?_map, Nat.mul_one, g1, g2]
                refine hR _ ?_
                all_goals try simp only [go_sem, hop, hlj, llPV, hjI, hbI, hbN1, hrb, hrl, List.getElem?_map, Nat.mul_one]
                all_goals
                  first | rfl | (rw [hbf]; first | done | rfl) | (rw [hbt]; first | done | rfl) | (simp [*]; done)
            · try simp only [Bool.not_eq_true', Bool.not_eq_false'] at g1
              have n1 := g1; try simp only [nrm] at n1
              have hbf : bef l a b = false := bef_no b (by rw [hat]; simpa using g1)
              simp only [go_sem, hop, hlj, llPV, hjI, hbI, hbN1, hrb, hrl, List.getElem?_map, Nat.mul_one, g1]
              refine hR _ ?_
              all_goals try simp only [go_sem, hop, hlj, llPV, hjI, hbI, hbN1, hrb, hrl, List.getElem?_map, Nat.mul_one]
              all_goals
                first | rfl | (rw [hbf]; first | done | rfl) | (rw [hbt]; first | done | rfl) | (simp [*]; done)
        · -- c4 false
          try simp only [nrm] at c4
          have hbe : b = N := by first | omega | (simp at c4; omega)
          have hd1 : rowG (fun x => if x < b then (cntD (ls.take (j + 1)) a x : Int) else (cntD (ls.take j) a x : Int)) N = rowG (fun x => (cntD (ls.take (j + 1)) a x : Int)) N := rowG_congr fun x hx => if_pos (by omega)
          refine W_exit ?_
          simp only [go_sem, hop, hlj, llPV, hjI]
          refine kq17 _ _ ?_
          refine W_region [1, 2, 4, 8, 9, 22, 23, 28, 29, 30] fun R hR => ?_   -- r18
          simp only [go_sem, hop, hlj, llPV, hjI]
          try simp (disch := omega) only [wrapI, wrapU]
          refine hR _ _ ?_; clear hR R
          try simp only [go_sem, hop, hlj, llPV, hjI]
          refine ⟨j + 1, ?_, by (try simp only []); omega, ?_⟩
          · exact Weak.eq rfl (by rw [hd1])
          · try dsimp only
            exact hj2
      · -- c3 false
        try simp only [nrm] at c3
        have hje : j = ls.length := by omega
        subst hje
        rw [List.take_length]
        have hrw : rowG (fun x => (cntD ls a x : Int)) N = rowD ls N a := rfl
        rw [hrw]
        refine W_exit ?_
        simp only [go_sem, hop]
        refine kq13 _ _ ?_
        refine W_weak (Weak.freezeI (t := 9) (j := 2) (xs := rowD ls N a) (by unfold rowD; rw [rowG_len]; rfl) rfl) ?_
        refine W_weak (Weak.keep [1, 2, 4, 9, 22, 23]) ?_
        simp only [go_sem]
        refine W_region [1, 2, 4, 22, 23] fun R hR => ?_   -- r19
        simp only [go_sem, hop]
        try simp (disch := first | omega | (simp only [go_sem] <;> omega)) only [wrapI, wrapU, appX_exact, appX_tok]
        try simp only [go_sem, hop]
        refine hR _ _ (kq10 _ _ ?_); clear hR R; try clear kq10 kz10
        try simp only [go_sem, hop]
        refine W_region [1, 2, 4, 22, 23] fun R hR => ?_   -- r20
        simp only [go_sem, hop]
        try simp (disch := omega) only [wrapI, wrapU]
        refine hR _ _ ?_; clear hR R
        try simp only [go_sem, hop]
        refine ⟨a + 1, ?_, by (try simp only []); omega, ?_⟩
        · refine Weak.trans (Weak.cutX 2 1 (by omega) (by omega) hcl (by simp only [go_sem] <;> omega) (by simp only [go_sem] <;> omega)) ?_
          simp only [go_sem]
          refine Weak.eq rfl ?_
          simp only [overP_succ, List.map_append, List.map_cons, List.map_nil]; first | done | rfl
        · try dsimp only
          exact haN
    · -- c2 false
      try simp only [nrm] at c2
      have hae : N = a := by first | omega | (simp at c2; omega)
      subst hae
      have hoN := overP_len ls N N
      refine W_exit ?_
      simp only [go_sem, hoN]
      refine kq6 _ _ ?_
      refine W_seq fun kz26 kq26 => ?_
      refine W_region [2, 4, 14] fun R hR => ?_   -- r21
      simp only [go_sem, hoN]
      refine hR _ _ (kq26 _ _ ?_); clear hR R; try clear kq26 kz26
      try simp only [go_sem, hoN]
      refine W_seq fun kz27 kq27 => ?_
      refine W_seq fun kz28 kq28 => ?_
      refine W_region [4, 14, 70, 71] fun R hR => ?_   -- r22
      simp only [go_sem, hoN]
      refine hR _ _ (kq28 _ _ ?_); clear hR R; try clear kq28 kz28
      try simp only [go_sem, hoN]
      refine W_block ?_
      refine W_loopS (α := Nat) (fun (a : Nat) => [(71, I a)]) (fun (a : Nat) => a ≤ N ∧ bestF ls N a = -1) (fun (a : Nat) => N - a) (0) rfl (⟨Nat.zero_le _, rfl⟩) ?_
      rintro a ⟨ha, hbs⟩
      refine W_seq fun kz29 kq29 => ?_
      refine W_region [4, 14, 70, 71, 72] fun R hR => ?_   -- r23
      simp only [go_sem, hoN]
      refine hR _ _ (kq29 _ _ ?_); clear hR R; try clear kq29 kz29
      try simp only [go_sem, hoN]
      refine W_seq fun kz30 kq30 => ?_
      refine W_cond rfl (fun c6 => ?_) (fun c6 => ?_)
      · -- c6 true
        try simp only [nrm] at c6
        have haN : a < N := by first | omega | (simp at c6; omega)
        refine W_skip (kq30 _ _ ?_)
        refine W_seq fun kz31 kq31 => ?_
        refine W_block ?_
        refine W_seq fun kz32 kq32 => ?_
        refine W_region [4, 14, 15, 70, 71] fun R hR => ?_   -- r24
        simp only [go_sem, hoN]
        refine hR _ _ (kq32 _ _ ?_); clear hR R; try clear kq32 kz32
        try simp only [go_sem, hoN]
        refine W_seq fun kz33 kq33 => ?_
        refine W_region [4, 14, 15, 70, 71, 76] fun R hR => ?_   -- r25
        simp only [go_sem, hoN]
        refine GCall_of (wins_pc Y (σ.ext [some [I N], some [.isl ((overP ls N N).map llPV) (.tok σ.rooms.length N 1)]] [N]) N a ls _ _ _ (Sg.get_ext0 ..) (Sg.get_ext ..) (by omega) haN) ?_   -- t76
        simp only [go_sem, hoN]
        refine hR _ _ (kq33 _ _ ?_); clear hR R; try clear kq33 kz33
        try simp only [go_sem, hoN]
        refine W_cond rfl (fun c7 => ?_) (fun c7 => ?_)
        · -- c7 true
          try simp only [nrm] at c7
          refine W_seq fun kz34 kq34 => ?_
          refine W_region [4, 5, 6] fun R hR => ?_   -- r26
          simp only [go_sem, hoN]
          refine hR _ _ (kq34 _ _ ?_); clear hR R; try clear kq34 kz34
          try simp only [go_sem, hoN]
          refine W_ret ?_
          simp only [go_sem, hoN]
          refine ⟨.inr (by trivial), ?_⟩
          first | (rw [hall]; refine Fin_same hcl (by show resPV Try.prog _ _ [.cell 4 48, .tmp 5, .tmp 6] = some _; simp only [resPV, go_sem]; rfl) (Wk.ro (by simp only [go_sem]) ?_)) | refine Fin_same hcl (by show resPV Try.prog _ _ [.cell 4 48, .tmp 5, .tmp 6] = some _; simp only [resPV, go_sem]; rfl) (Wk.ro (by simp only [go_sem]) ?_) | refine Fin_self hcl (by show resPV Try.prog _ _ [.cell 4 48, .tmp 5, .tmp 6] = some _; simp only [resPV, go_sem]; rfl) (Wk.ro (by simp only [go_sem]) ?_)
          try simp only [go_sem]
          all_goals
            rw [bestF_uni haN c7 N (Nat.le_refl _) haN]
        · -- c7 false
          try simp only [nrm] at c7
          refine W_skip (kq31 _ _ ?_)
          refine W_region [4, 14, 70, 71] fun R hR => ?_   -- r27
          simp only [go_sem, hoN]
          try simp (disch := omega) only [wrapI, wrapU]
          refine hR _ _ ?_; clear hR R
          try simp only [go_sem, hoN]
          refine ⟨a + 1, ?_, by (try simp only []); omega, ?_⟩
          · first | exact Weak.refl | exact Weak.eq (by first | rfl | (simp only [go_sem]; done) | (simp only [go_sem]; rfl) | (simp [go_sem]; done) | (simp [go_sem]; omega)) (by first | rfl | (simp only [go_sem]; done) | (simp [go_sem]; done))
          · try dsimp only
            refine ⟨haN, ?_⟩
            simp only [bestF]
            rw [if_neg (by rw [c7]; simp)]; exact hbs
      · -- c6 false
        try simp only [nrm] at c6
        have hae : N = a := by first | omega | (simp at c6; omega)
        subst hae
        refine W_exit ?_
        simp only [go_sem, hoN]
        refine kq27 _ _ ?_
        refine W_seq fun kz35 kq35 => ?_
        refine W_region [4, 5, 6] fun R hR => ?_   -- r28
        simp only [go_sem, hoN]
        refine hR _ _ (kq35 _ _ ?_); clear hR R; try clear kq35 kz35
        try simp only [go_sem, hoN]
        refine W_ret ?_
        simp only [go_sem, hoN]
        refine ⟨.inr (by trivial), ?_⟩
        first | (rw [hall]; refine Fin_same hcl (by show resPV Try.prog _ _ [.cell 4 48, .tmp 5, .tmp 6] = some _; simp only [resPV, go_sem]; rfl) (Wk.ro (by simp only [go_sem]) ?_)) | refine Fin_same hcl (by show resPV Try.prog _ _ [.cell 4 48, .tmp 5, .tmp 6] = some _; simp only [resPV, go_sem]; rfl) (Wk.ro (by simp only [go_sem]) ?_) | refine Fin_self hcl (by show resPV Try.prog _ _ [.cell 4 48, .tmp 5, .tmp 6] = some _; simp only [resPV, go_sem]; rfl) (Wk.ro (by simp only [go_sem]) ?_)
        try simp only [go_sem]
        all_goals
          rw [hbs]
end Go.Proofs.Ytnolifglhhjdnaa
namespace Go.Proofs.Ytnolifglhhjdnaa
open Go
set_option maxRecDepth 100000
theorem worst_min {out : List Int} {ls : List (List Int)} : ∀ (i s : Nat), s < i → has out s = false → manyFor out ls (worstF out ls i) < manyFor out ls s ∨ (manyFor out ls (worstF out ls i) = manyFor out ls s ∧ (s : Int) ≤ worstF out ls i) := by
  intro i
  induction i with
  | zero => intro s h; omega
  | succ i ih =>
    intro s hs hh
    simp only [worstF]
    by_cases e : s = i
    · subst e
      split
      · right; exact ⟨rfl, Int.le_refl _⟩
      · rename_i h
        simp [hh] at h
        omega
    · have h1 := ih s (by omega) hh
      split
      · rename_i h
        simp only [Bool.and_eq_true, Bool.or_eq_true, decide_eq_true_eq] at h
        rcases h.2 with h2 | h2
        · rcases worstF_bd out ls i with ⟨_, h3⟩ | h3
          · rw [h3 s (by omega)] at hh; cases hh
          · omega
        · rcases h1 with h1 | h1
          · left; omega
          · rcases Nat.lt_or_ge (manyFor out ls (i : Int)) (manyFor out ls s) with q | q
            · left; exact q
            · right; exact ⟨by omega, by omega⟩
      · exact h1
theorem only_left {N s w : Nat} {out : List Int} (hs : s < N) (hw : w < N) (h1 : has out s = false) (h2 : has out w = false) (hl : N ≤ out.length + 1) (hr : ∀ x, x ∈ out → 0 ≤ x ∧ x < N) (hd : out.Nodup) : s = w := by
  refine Classical.byContradiction fun hne => ?_
  have n1 : (s : Int) ∉ out := fun h => by rw [has_iff.2 h] at h1; cases h1
  have n2 : (w : Int) ∉ out := fun h => by rw [has_iff.2 h] at h2; cases h2
  have := sub_len (l := (s : Int) :: (w : Int) :: out) (l' := (List.range N).map fun (i : Nat) => (i : Int)) (by
    simp only [List.nodup_cons, List.mem_cons, not_or]
    exact ⟨⟨by omega, n1⟩, n2, hd⟩) (fun x hx => by
    simp only [List.mem_cons] at hx
    refine List.mem_map.2 ⟨x.toNat, List.mem_range.2 ?_, ?_⟩
    · rcases hx with rfl | rfl | hx
      · omega
      · omega
      · have := hr x hx; omega
    · rcases hx with rfl | rfl | hx
      · omega
      · omega
      · have := hr x hx; omega)
  simp at this
  omega
theorem runU_take (N : Nat) (ls : List (List Int)) : ∀ (n i : Nat), i ≤ n → (runU N ls n).take i = runU N ls i := by
  intro n
  induction n with
  | zero => intro i h; have : i = 0 := by omega
            subst this; rfl
  | succ n ih =>
    intro i h
    by_cases e : i = n + 1
    · subst e; rw [List.take_of_length_le (by rw [runU_len]; exact Nat.le_refl _)]
    · simp only [runU]
      rw [List.take_append_of_le_length (by rw [runU_len]; omega)]
      exact ih i (by omega)
theorem runU_get {N n i : Nat} {ls : List (List Int)} (h : i < n) : (runU N ls n)[i]? = some (worstF (runU N ls i) ls N) := by
  have h1 := runU_take N ls n (i + 1) (by omega)
  have h2 : ((runU N ls n).take (i + 1))[i]? = (runU N ls n)[i]? := by rw [List.getElem?_take]; simp
  rw [← h2, h1]
  simp only [runU]
  rw [List.getElem?_append_right (by rw [runU_len]; exact Nat.le_refl _), runU_len, Nat.sub_self]
  rfl
theorem prefs_ok {N : Nat} {ls : List (List Int)} (h1 : 1 ≤ N) (h2 : N ≤ 8) (h3 : ls.length ≤ 200) (h4 : ∀ l, l ∈ ls → chkRow N [] l = 0 ∧ l.length ≤ N) : chkPf N ls = 0 := pfV_iff.2 ⟨by omega, h3, fun l hl => (h4 l hl).1⟩
theorem runoffA_ok {N : Nat} {ls : List (List Int)} (h : chkPf N ls = 0) : runoffA N ls = (runU N ls (N - 1), winF (runU N ls (N - 1)) N 0, 0) := by
  unfold runoffA
  rw [if_neg (by simp [h]), Int.toNat_natCast]
theorem duelsA_ok {N : Nat} {ls : List (List Int)} (h : chkPf N ls = 0) : duelsA N ls = (overP ls N N, bestF ls N N, 0) := by
  unfold duelsA
  rw [if_neg (by simp [h]), Int.toNat_natCast]
theorem winner (N : Nat) (ls : List (List Int)) (h : 0 < N) : ∃ w : Nat, winF (runU N ls (N - 1)) N 0 = w ∧ w < N ∧ has (runU N ls (N - 1)) w = false := by
  obtain ⟨s, h1, h2⟩ := some_left (n := N) (out := runU N ls (N - 1)) (by rw [runU_len]; omega)
  obtain ⟨w, h3, _, h4, h5, _⟩ := winF_bd (n := N) (out := runU N ls (N - 1)) N 0 (by omega) ⟨s, Nat.zero_le _, h1, h2⟩
  exact ⟨w, h3, h4, h5⟩
end Go.Proofs.Ytnolifglhhjdnaa
namespace Go.Proofs.Ytnolifglhhjdnaa
open Go
set_option maxRecDepth 100000
theorem cntD_self (ls : List (List Int)) (a : Int) : cntD ls a a = 0 := by
  unfold cntD
  rw [List.countP_eq_zero]
  intro l _
  rw [bef_self]; simp
theorem cntD_two (a b : Int) : ∀ ls : List (List Int), cntD ls a b + cntD ls b a ≤ ls.length := by
  intro ls
  induction ls with
  | nil => simp [cntD]
  | cons l ls ih =>
    simp only [cntD, List.countP_cons, List.length_cons, bef, decide_eq_true_eq] at *
    split <;> split <;> omega
theorem bestF_bd (ls : List (List Int)) (N : Nat) : ∀ i, bestF ls N i = -1 ∨ (0 ≤ bestF ls N i ∧ bestF ls N i < i ∧ beatP ls (bestF ls N i).toNat N = true) := by
  intro i
  induction i with
  | zero => left; rfl
  | succ i ih =>
    simp only [bestF]
    split
    · rename_i h; right; exact ⟨by omega, by omega, by simpa using h⟩
    · rcases ih with h | h
      · left; exact h
      · right; exact ⟨h.1, by omega, h.2.2⟩
theorem best_iff {ls : List (List Int)} {N a : Nat} (ha : a < N) : beatP ls a N = decide ((a : Int) = bestF ls N N) := by
  rw [Bool.eq_iff_iff, decide_eq_true_eq]
  constructor
  · intro h; exact (bestF_uni ha h N (Nat.le_refl _) ha).symm
  · intro h
    rcases bestF_bd ls N N with h2 | h2
    · omega
    · rw [← h] at h2; simpa using h2.2.2
theorem first_two {out : List Int} {w x : Int} (hne : w ≠ x) (hw : has out w = false) (hx : has out x = false) : ∀ l : List Int, (∀ y, y ∈ l → has out y = false → y = w ∨ y = x) → (firstLeft out l = some w ↔ atF w l < atF x l) := by
  intro l
  induction l with
  | nil => intro _; simp [firstLeft, atF]
  | cons y l ih =>
    intro h
    have ih := ih fun z hz => h z (by simp [hz])
    simp only [firstLeft, List.find?_cons, atF] at *
    cases e : has out y with
    | true =>
      have h1 : y ≠ w := fun q => by rw [q, hw] at e; cases e
      have h2 : y ≠ x := fun q => by rw [q, hx] at e; cases e
      simp only [Bool.not_true, if_neg h1, if_neg h2]
      rw [ih]; omega
    | false =>
      simp only [Bool.not_false]
      rcases h y (by simp) e with q | q
      · subst q
        rw [if_pos rfl, if_neg hne]
        simp
      · subst q
        rw [if_pos rfl, if_neg (fun q => hne q.symm)]
        simp only [Nat.not_lt_zero, iff_false]
        intro q; injection q with q; exact hne q.symm
theorem many_two {out : List Int} {w x : Int} {ls : List (List Int)} (hne : w ≠ x) (hw : has out w = false) (hx : has out x = false) (h : ∀ l, l ∈ ls → ∀ y, y ∈ l → has out y = false → y = w ∨ y = x) : manyFor out ls w = cntD ls w x := by
  refine List.countP_congr fun l hl => ?_
  simp only [decide_eq_true_eq, bef]
  exact first_two hne hw hx l (h l hl)
theorem not_last {N : Nat} {ls : List (List Int)} (hN : 2 ≤ N) {w : Nat} (hw : w < N) (hb : beatP ls w N = true) (hm : ∀ l, l ∈ ls → ∀ y, y ∈ l → 0 ≤ y ∧ y ≤ (N : Int) - 1) : (runU N ls (N - 1))[N - 2]? ≠ some (w : Int) := by
  rw [runU_get (by omega)]
  intro e
  injection e with e
  have hl := runU_len N ls (N - 2)
  obtain ⟨hr, hd⟩ := runU_ok N ls (N - 2) (by omega)
  obtain ⟨_, _, w3⟩ := worst_ok (n := N) (out := runU N ls (N - 2)) ls (by omega)
  rw [e] at w3
  obtain ⟨t, ht, ht2⟩ := some_left (n := N) (out := runU N ls (N - 2) ++ [(w : Int)]) (by simp [hl]; omega)
  rw [has_snoc] at ht2
  simp only [Bool.or_eq_false_iff, decide_eq_false_iff_not] at ht2
  have hmin := worst_min (out := runU N ls (N - 2)) (ls := ls) N t ht ht2.1
  rw [e] at hmin
  have hall : ∀ l, l ∈ ls → ∀ y, y ∈ l → has (runU N ls (N - 2)) y = false → y = (w : Int) ∨ y = (t : Int) := fun l h1 y h2 h3 => by
    have hy := hm l h1 y h2
    by_cases q : y = (w : Int)
    · exact .inl q
    · right
      have := only_left (N := N) (s := y.toNat) (w := t) (out := runU N ls (N - 2) ++ [(w : Int)]) (by omega) ht (by
          rw [has_snoc, show ((y.toNat : Nat) : Int) = y by omega, h3]
          simp; omega) (by rw [has_snoc, ht2.1]; simp; omega) (by simp [hl]; omega) (fun z hz => by
          rcases List.mem_append.1 hz with hz | hz
          · exact hr z hz
          · simp at hz; subst hz; omega) (by
          rw [List.nodup_append]
          refine ⟨hd, by simp, fun a ha b hb2 e2 => ?_⟩
          simp at hb2; subst hb2 e2
          rw [has_iff.2 ha] at w3; cases w3)
      omega
  have m1 := many_two (fun q => ht2.2 q) w3 ht2.1 hall
  have m2 := many_two (fun q => ht2.2 q.symm) ht2.1 w3 (fun l h1 y h2 h3 => (hall l h1 y h2 h3).symm)
  rw [m1, m2] at hmin
  rcases beatP_iff.1 hb t ht with q | q
  · exact ht2.2 (by omega)
  · omega
theorem one_best (ls : List (List Int)) : bestF ls 1 1 = 0 := by simp [bestF, beatP]
end Go.Proofs.Ytnolifglhhjdnaa
namespace Go.Proofs.Ytnolifglhhjdnaa
open Go Go.RowKit
set_option maxRecDepth 100000
set_option maxHeartbeats 8000000 in
theorem SongDuels_pc (Y : YEnv) (σ : Sg) (hA : ∀ (Y : YEnv) (σ : Sg), PC Try.prog Y 18 [] σ (.bool true) σ) (nums : List Int) (hn : nums.length < 2 ^ 60) :
    PC Try.prog Y 9 [ints nums] σ (.bool true) (σ) := by
  refine PC_of_W Try.func9 rfl (by kernel_rfl) Try.ntmps9 (by simp) fun hcl hca => ?_
  obtain ⟨b0, hb0⟩ : ∃ z, drumB nums 2685821657736338717 = z := ⟨_, rfl⟩
  obtain ⟨many, hmany⟩ : ∃ zz, (mid 1 5 b0).1 = zz := ⟨_, rfl⟩
  obtain ⟨b1, hb1⟩ : ∃ zz, (mid 1 5 b0).2 = zz := ⟨_, rfl⟩
  have dmany := mid_bd 1 5 (by omega) b0
  simp only [hmany] at dmany
  obtain ⟨N, hN⟩ : ∃ z : Nat, many = z := ⟨many.toNat, by omega⟩
  subst hN
  obtain ⟨ls, hls⟩ : ∃ zz, (prefsD N 12 b1).1 = zz := ⟨_, rfl⟩
  obtain ⟨b2, hb2⟩ : ∃ zz, (prefsD N 12 b1).2 = zz := ⟨_, rfl⟩
  have dls := prefsD_ok N 12 (by omega) b1
  simp only [hls] at dls
  have hll : ls.length ≤ 12 := by have := dls.1; omega
  have hl2 : ∀ l, l ∈ ls → l.length < 2 ^ 40 := fun l h => by have := (dls.2 l h).2; omega
  have hck := prefs_ok (N := N) (ls := ls) (by omega) (by omega) (by omega) dls.2
  have hmem := fun l (h : l ∈ ls) => (chkRow_mem ((pfV_iff.1 hck).ck l h)).1
  obtain ⟨w, hw1, hw2, hw3⟩ := winner N ls (by omega)
  have hrun := runoffA_ok hck
  rw [hw1] at hrun
  have hdu := duelsA_ok hck
  have hrl := runU_len N ls (N - 1)
  have hoN := overP_len ls N N
  have hnl := fun (h : 2 ≤ N) (x : Nat) (hx : x < N) (hb : beatP ls x N = true) => not_last (ls := ls) h hx hb hmem
  have hbi := fun (x : Nat) (hx : x < N) => best_iff (ls := ls) hx
  have hbd := bestF_bd ls N N
  have hone : N = 1 → bestF ls N N = (w : Int) := fun h => by subst h; rw [one_best]; omega
  obtain ⟨out, hout⟩ : ∃ z, runU N ls (N - 1) = z := ⟨_, rfl⟩
  rw [hout] at hw3 hrun hrl hnl
  obtain ⟨bb, hbb⟩ : ∃ z, bestF ls N N = z := ⟨_, rfl⟩
  rw [hbb] at hdu hbi hbd hone
  have hNs : (N : Int) - 1 = ((N - 1 : Nat) : Int) := by omega
  have hNw : IntKind.i64.wrap ((N - 1 : Nat) : Int) = ((N - 1 : Nat) : Int) := wrapI (by omega) (by omega)
  have hb1' : ¬ bb < -1 := by omega
  have hb2' : ¬ (N : Int) ≤ bb := by omega
  refine W_seq fun kz1 kq1 => ?_
  refine W_region [0] fun R hR => ?_   -- r0
  simp only [go_sem, hb0, hmany, hb1, hls, hb2]
  refine hR _ _ (kq1 _ _ ?_); clear hR R; try clear kq1 kz1
  try simp only [go_sem, hb0, hmany, hb1, hls, hb2]
  refine W_seq fun kz2 kq2 => ?_
  refine W_region [3] fun R hR => ?_   -- r1
  simp only [go_sem, hb0, hmany, hb1, hls, hb2]
  refine GCall_of (DrumOf_pc Y _ nums hn) ?_   -- t17
  simp only [go_sem, hb0, hmany, hb1, hls, hb2]
  refine hR _ _ (kq2 _ _ ?_); clear hR R; try clear kq2 kz2
  try simp only [go_sem, hb0, hmany, hb1, hls, hb2]
  refine W_seq fun kz3 kq3 => ?_
  refine W_region [3, 4] fun R hR => ?_   -- r2
  simp only [go_sem, hb0, hmany, hb1, hls, hb2]
  refine GCall_of (Mid_pc Y _ _ b0 (Sg.get_ext0 ..) 1 5 (by omega) (by omega) (by omega) (by omega)) ?_   -- t19
  simp only [go_sem, hb0, hmany, hb1, hls, hb2]
  refine hR _ _ (kq3 _ _ ?_); clear hR R; try clear kq3 kz3
  try simp only [go_sem, hb0, hmany, hb1, hls, hb2]
  refine W_seq fun kz4 kq4 => ?_
  refine W_region [4, 5] fun R hR => ?_   -- r3
  simp only [go_sem, hb0, hmany, hb1, hls, hb2]
  refine GCall_of (PrefsOf_pc Y _ _ b1 (Sg.get_ext0 ..) N (by omega) 12 (by omega) (by omega)) ?_   -- t22
  simp only [go_sem, hb0, hmany, hb1, hls, hb2]
  refine hR _ _ (kq4 _ _ ?_); clear hR R; try clear kq4 kz4
  try simp only [go_sem, hb0, hmany, hb1, hls, hb2]
  refine W_seq fun kz5 kq5 => ?_
  refine W_region [4, 5, 6, 7, 8] fun R hR => ?_   -- r4
  simp only [go_sem, hb0, hmany, hb1, hls, hb2]
  refine GCall_of (PC.val (v' := .tuple [lls (overP ls N N), I bb, I 0]) (Duels_pc Y _ N ls (by omega) hl2) (by rw [hdu])) ?_   -- t26
  simp only [go_sem, hb0, hmany, hb1, hls, hb2]
  refine hR _ _ (kq5 _ _ ?_); clear hR R; try clear kq5 kz5
  try simp only [go_sem, hb0, hmany, hb1, hls, hb2]
  refine W_seq fun kz6 kq6 => ?_
  refine W_region [4, 5, 6, 7, 8, 9, 10, 11] fun R hR => ?_   -- r5
  simp only [go_sem, hb0, hmany, hb1, hls, hb2]
  refine GCall_of (PC.val (v' := .tuple [ints out, I w, I 0]) (Runoff_pc Y _ N ls (by omega) hl2) (by rw [hrun])) ?_   -- t33
  simp only [go_sem, hb0, hmany, hb1, hls, hb2]
  refine hR _ _ (kq6 _ _ ?_); clear hR R; try clear kq6 kz6
  try simp only [go_sem, hb0, hmany, hb1, hls, hb2]
  refine W_seq fun kz7 kq7 => ?_
  refine W_seq fun kz8 kq8 => ?_
  refine W_region [4, 5, 6, 7, 9, 10, 64] fun R hR => ?_   -- r6
  simp only [go_sem, hb0, hmany, hb1, hls, hb2, hNs, hNw, hrl, hoN, hb1', hb2', bne_self_eq_false, Bool.not_false]
  try simp (disch := omega) only [wrapI, wrapU]
  refine hR _ _ (kq8 _ _ ?_); clear hR R; try clear kq8 kz8
  try simp only [go_sem, hb0, hmany, hb1, hls, hb2]
  refine W_cond rfl (fun c1 => ?_) (fun c1 => ?_)
  · -- c1 true
    try simp only [nrm] at c1
    exfalso
    simp at c1
  · -- c1 false
    try simp only [nrm] at c1
    refine W_skip (kq7 _ _ ?_)
    refine W_seq fun kz9 kq9 => ?_
    refine W_seq fun kz10 kq10 => ?_
    refine W_region [4, 5, 6, 7, 9, 10, 12] fun R hR => ?_   -- r8
    simp only [go_sem, hb0, hmany, hb1, hls, hb2]
    refine hR _ _ (kq10 _ _ ?_); clear hR R; try clear kq10 kz10
    try simp only [go_sem, hb0, hmany, hb1, hls, hb2]
    refine W_block ?_
    refine W_loopS (α := Nat) (fun (a : Nat) => [(12, I a)]) (fun (a : Nat) => a ≤ N) (fun (a : Nat) => N - a) (0) rfl (Nat.zero_le _) ?_
    rintro a ha
    refine W_seq fun kz11 kq11 => ?_
    refine W_seq fun kz12 kq12 => ?_
    refine W_region [4, 5, 6, 7, 9, 10, 12, 67] fun R hR => ?_   -- r9
    simp only [go_sem, hb0, hmany, hb1, hls, hb2]
    refine hR _ _ (kq12 _ _ ?_); clear hR R; try clear kq12 kz12
    try simp only [go_sem, hb0, hmany, hb1, hls, hb2]
    refine W_cond rfl (fun c2 => ?_) (fun c2 => ?_)
    · -- c2 true
      try simp only [nrm] at c2
      have ha' : a < N := by first | omega | (simp at c2; omega)
      have haI : (a : Int) < (N : Int) := by omega
      have hra := overP_get (ls := ls) (N := N) ha'
      have hlaN := rowG_len (fun b => (cntD ls a b : Int)) N
      have hla : (rowD ls N a).length = N := hlaN
      have haa := rowD_get (ls := ls) (a := a) ha'
      rw [cntD_self] at haa
      have haz : (((0 : Nat) : Int) != 0) = false := by simp
      refine W_skip (kq11 _ _ ?_)
      refine W_seq fun kz13 kq13 => ?_
      refine W_block ?_
      refine W_seq fun kz14 kq14 => ?_
      refine W_region [4, 5, 6, 7, 9, 10, 12, 86] fun R hR => ?_   -- r11
      simp only [go_sem, hb0, hmany, hb1, hls, hb2, haI, hra, hla, haa, hoN, List.getElem?_map, llPV, bne_self_eq_false, Nat.mul_one, haz]
      refine hR _ _ (kq14 _ _ ?_); clear hR R; try clear kq14 kz14
      try simp only [go_sem, hb0, hmany, hb1, hls, hb2, haI, hra, hla, haa, hoN, List.getElem?_map, llPV, bne_self_eq_false, Nat.mul_one, haz]
      refine W_cond rfl (fun c3 => ?_) (fun c3 => ?_)
      · -- c3 true
        try simp only [nrm] at c3
        exfalso
        simp at c3
      · -- c3 false
        try simp only [nrm] at c3
        refine W_skip (kq13 _ _ ?_)
        refine W_region [4, 5, 6, 7, 9, 10, 12] fun R hR => ?_   -- r10
        simp only [go_sem, hb0, hmany, hb1, hls, hb2, haI, hra, hla, haa, hoN, List.getElem?_map, llPV, bne_self_eq_false, Nat.mul_one, haz]
        try simp (disch := omega) only [wrapI, wrapU]
        refine hR _ _ ?_; clear hR R
        try simp only [go_sem, hb0, hmany, hb1, hls, hb2, haI, hra, hla, haa, hoN, List.getElem?_map, llPV, bne_self_eq_false, Nat.mul_one, haz]
        refine ⟨a + 1, ?_, by (try simp only []); omega, ?_⟩
        · first | exact Weak.refl | exact Weak.eq (by first | rfl | (simp only [go_sem]; done) | (simp only [go_sem]; rfl) | (simp [go_sem]; done) | (simp [go_sem]; omega)) (by first | rfl | (simp only [go_sem]; done) | (simp [go_sem]; done))
        · try dsimp only
          omega
    · -- c2 false
      try simp only [nrm] at c2
      skip
      refine W_exit ?_
      simp only [go_sem, hb0, hmany, hb1, hls, hb2]
      refine kq9 _ _ ?_
      refine W_seq fun kz15 kq15 => ?_
      refine W_seq fun kz16 kq16 => ?_
      refine W_region [4, 5, 6, 7, 9, 10, 13] fun R hR => ?_   -- r13
      simp only [go_sem, hb0, hmany, hb1, hls, hb2]
      refine hR _ _ (kq16 _ _ ?_); clear hR R; try clear kq16 kz16
      try simp only [go_sem, hb0, hmany, hb1, hls, hb2]
      refine W_block ?_
      refine W_loopS (α := Nat) (fun (a : Nat) => [(13, I a)]) (fun (a : Nat) => a ≤ N) (fun (a : Nat) => N - a) (0) rfl (Nat.zero_le _) ?_
      rintro a ha
      refine W_seq fun kz17 kq17 => ?_
      refine W_seq fun kz18 kq18 => ?_
      refine W_region [4, 5, 6, 7, 9, 10, 13, 89] fun R hR => ?_   -- r14
      simp only [go_sem, hb0, hmany, hb1, hls, hb2]
      refine hR _ _ (kq18 _ _ ?_); clear hR R; try clear kq18 kz18
      try simp only [go_sem, hb0, hmany, hb1, hls, hb2]
      refine W_cond rfl (fun c4 => ?_) (fun c4 => ?_)
      · -- c4 true
        try simp only [nrm] at c4
        have ha' : a < N := by first | omega | (simp at c4; omega)
        have haI : (a : Int) < (N : Int) := by omega
        have hra := overP_get (ls := ls) (N := N) ha'
        have hlaN := rowG_len (fun b => (cntD ls a b : Int)) N
        have hla : (rowD ls N a).length = N := hlaN
        refine W_skip (kq17 _ _ ?_)
        refine W_seq fun kz19 kq19 => ?_
        refine W_block ?_
        refine W_seq fun kz20 kq20 => ?_
        refine W_region [4, 5, 6, 7, 9, 10, 13, 14] fun R hR => ?_   -- r16
        simp only [go_sem, hb0, hmany, hb1, hls, hb2, haI, hra, hla, hoN, List.getElem?_map, llPV, Nat.mul_one]
        refine hR _ _ (kq20 _ _ ?_); clear hR R; try clear kq20 kz20
        try simp only [go_sem, hb0, hmany, hb1, hls, hb2, haI, hra, hla, hoN, List.getElem?_map, llPV, Nat.mul_one]
        refine W_seq fun kz21 kq21 => ?_
        refine W_seq fun kz22 kq22 => ?_
        refine W_region [4, 5, 6, 7, 9, 10, 13, 14, 15] fun R hR => ?_   -- r17
        simp only [go_sem, hb0, hmany, hb1, hls, hb2, haI, hra, hla, hoN, List.getElem?_map, llPV, Nat.mul_one]
        refine hR _ _ (kq22 _ _ ?_); clear hR R; try clear kq22 kz22
        try simp only [go_sem, hb0, hmany, hb1, hls, hb2, haI, hra, hla, hoN, List.getElem?_map, llPV, Nat.mul_one]
        refine W_block ?_
        refine W_loopS (α := Nat) (fun (b : Nat) => [(14, .bool (beatP ls a b)), (15, I b)]) (fun (b : Nat) => b ≤ N) (fun (b : Nat) => N - b) (0) rfl (Nat.zero_le _) ?_
        rintro b hb
        refine W_seq fun kz23 kq23 => ?_
        refine W_seq fun kz24 kq24 => ?_
        refine W_region [4, 5, 6, 7, 9, 10, 13, 14, 15, 94] fun R hR => ?_   -- r18
        simp only [go_sem, hb0, hmany, hb1, hls, hb2, haI, hra, hla, hoN, List.getElem?_map, llPV, Nat.mul_one]
        refine hR _ _ (kq24 _ _ ?_); clear hR R; try clear kq24 kz24
        try simp only [go_sem, hb0, hmany, hb1, hls, hb2, haI, hra, hla, hoN, List.getElem?_map, llPV, Nat.mul_one]
        refine W_cond rfl (fun c5 => ?_) (fun c5 => ?_)
        · -- c5 true
          try simp only [nrm] at c5
          have hbN : b < N := by first | omega | (simp at c5; omega)
          have hbI : (b : Int) < (N : Int) := by omega
          have hrb := overP_get (ls := ls) (N := N) hbN
          have hab := rowD_get (ls := ls) (a := a) hbN
          have hba := rowD_get (ls := ls) (a := b) ha'
          have hlb : (rowD ls N b).length = N := rowG_len (fun x => (cntD ls b x : Int)) N
          have hc0 : ¬ ((cntD ls a b : Nat) : Int) < 0 := by omega
          have hc2 := cntD_two a b ls
          have hcw : IntKind.i64.wrap (((cntD ls a b : Nat) : Int) + ((cntD ls b a : Nat) : Int)) = ((cntD ls a b : Nat) : Int) + ((cntD ls b a : Nat) : Int) := wrapI (by omega) (by omega)
          have hcs : ¬ (ls.length : Int) < ((cntD ls a b : Nat) : Int) + ((cntD ls b a : Nat) : Int) := by omega
          refine W_skip (kq23 _ _ ?_)
          refine W_seq fun kz25 kq25 => ?_
          refine W_block ?_
          refine W_seq fun kz26 kq26 => ?_
          refine W_seq fun kz27 kq27 => ?_
          refine W_draw [4, 5, 6, 7, 9, 10, 13, 14, 15, 124] [0, 1, 2, 3, 4, 5, 6, 7, 8, 9, 10, 11, 12, 13, 14, 15, 16, 17, 18, 19, 20, 21, 22, 23, 24, 25, 26, 27] [] [[], [], [0, 1], [0, 1, 2], [], [0, 1, 2, 3, 4], [0, 1, 2, 3, 4, 5], [0, 1, 2, 3, 4, 5, 6], [0, 1, 2, 3, 4, 5, 6, 7], [0, 1, 2, 3, 4, 5, 6, 7, 8], [0, 1, 2, 3, 4, 5, 6, 7, 8], [0, 1, 2, 3, 4, 5, 6, 7, 8, 9, 10], [0, 1, 2, 3, 4, 5, 6, 7, 8, 9, 10, 11], [0, 1, 2, 3, 4, 5, 6, 7, 8], [0, 1, 2, 3, 4, 5, 6, 7, 8, 9, 10, 11, 12, 13], [0, 1, 2, 3, 4, 5, 6, 7, 8, 9, 10, 11, 12, 13, 14], [0, 1, 2, 3, 4, 5, 6, 7, 8], [0, 1, 2, 3, 4, 5, 6, 7, 8], [0, 1, 2, 3, 4, 5, 6, 7, 8, 16, 17], [0, 1, 2, 3, 4, 5, 6, 7, 8, 16, 17, 18], [0, 1, 2, 3, 4, 5, 6, 7, 8], [0, 1, 2, 3, 4, 5, 6, 7, 8, 16, 17, 18, 19, 20], [0, 1, 2, 3, 4, 5, 6, 7, 8, 16, 17, 18, 19, 20, 21], [0, 1, 2, 3, 4, 5, 6, 7, 8, 9, 10, 11, 12, 13, 14, 15, 16, 17, 18, 19, 20, 21, 22], [0, 1, 2, 3, 4, 5, 6, 7, 8], [0, 1, 2, 3, 4, 5, 6, 7, 8, 24], [0, 1, 2, 3, 4, 5, 6, 7, 8, 9, 10, 11, 12, 13, 14, 15, 16, 17, 18, 19, 20, 21, 22, 23, 24, 25], [0, 1, 2, 3, 4, 5, 6, 7, 8, 9, 10, 11, 12, 13, 14, 15, 16, 17, 18, 19, 20, 21, 22, 23, 24, 25, 26]] mixed (by kernel_rfl) fun R hR => ?_   -- r20
          simp only [go_sem, hb0, hmany, hb1, hls, hb2, haI, hra, hla, hoN, List.getElem?_map, llPV, Nat.mul_one, hbI, hrb, hab, hba, hlb, hc0, hcw, hcs]
          try simp (disch := omega) only [wrapI, wrapU]
          try refine And.intro (by repeat' (first | refine And.intro ?_ ?_ | exact GOr_right (fun _ => by simp only [go_sem, hb0, hmany, hb1, hls, hb2, haI, hra, hla, hoN, List.getElem?_map, llPV, Nat.mul_one, hbI, hrb, hab, hba, hlb, hc0, hcw, hcs]))) ?_
          refine hR _ _ (kq27 _ _ ?_); clear hR R; try clear kq27 kz27
          try simp only [go_sem, hb0, hmany, hb1, hls, hb2, haI, hra, hla, hoN, List.getElem?_map, llPV, Nat.mul_one, hbI, hrb, hab, hba, hlb, hc0, hcw, hcs]
          refine W_cond rfl (fun c6 => ?_) (fun c6 => ?_)
          · -- c6 true
            try simp only [nrm] at c6
            exfalso
            simp at c6
          · -- c6 false
            try simp only [nrm] at c6
            refine W_skip (kq26 _ _ ?_)
            refine W_drawJ [4, 5, 6, 7, 9, 10, 13, 14, 15] [(14, .bool (beatP ls a (b + 1)))] [0, 1, 2, 3, 4, 5, 6, 7, 8, 9, 10, 11, 12, 13, 14, 15, 16, 17, 18, 19, 20, 21, 22, 23] [] [[], [0], [0, 1], [0, 1], [0, 1, 2, 3], [0, 1, 2, 3, 4], [0, 1, 2, 3, 4, 5], [0, 1, 2, 3, 4, 5], [0, 1, 2, 3, 4, 5, 6, 7], [0, 1, 2, 3, 4, 5, 6, 7, 8], [0, 1, 2, 3, 4, 5], [0, 1, 2, 3, 4, 5, 6, 7, 8, 9, 10], [0, 1, 2, 3, 4, 5, 6, 7, 8, 9, 10, 11], [0, 1, 2, 3, 4, 5], [0, 1, 2, 3, 4, 5], [0, 1, 2, 3, 4, 5, 13, 14], [0, 1, 2, 3, 4, 5, 13, 14, 15], [0, 1, 2, 3, 4, 5], [0, 1, 2, 3, 4, 5, 13, 14, 15, 16, 17], [0, 1, 2, 3, 4, 5, 13, 14, 15, 16, 17, 18], [0, 1, 2, 3, 4, 5, 6, 7, 8, 9, 10, 11, 12, 13, 14, 15, 16, 17, 18, 19], [0, 1, 2, 3, 4, 5, 6, 7, 8, 9, 10, 11, 12, 13, 14, 15, 16, 17, 18, 19, 20], [0, 1, 2, 3, 4, 5, 6, 7, 8, 9, 10, 11, 12, 13, 14, 15, 16, 17, 18, 19, 20, 21], [0, 1, 2, 3, 4, 5, 6, 7, 8, 9, 10, 11, 12, 13, 14, 15, 16, 17, 18, 19, 20, 21, 22]] mixed (by kernel_rfl) ?_ fun R hR => ?_   -- r22
            · refine kq25 _ _ ?_
              simp only [go_sem, hb0, hmany, hb1, hls, hb2, haI, hra, hla, hoN, List.getElem?_map, llPV, Nat.mul_one, hbI, hrb, hab, hba, hlb, hc0, hcw, hcs]
              refine W_region [4, 5, 6, 7, 9, 10, 13, 14, 15] fun R hR => ?_   -- r19
              simp only [go_sem, hb0, hmany, hb1, hls, hb2, haI, hra, hla, hoN, List.getElem?_map, llPV, Nat.mul_one, hbI, hrb, hab, hba, hlb, hc0, hcw, hcs]
              try simp (disch := omega) only [wrapI, wrapU]
              refine hR _ _ ?_; clear hR R
              try simp only [go_sem, hb0, hmany, hb1, hls, hb2, haI, hra, hla, hoN, List.getElem?_map, llPV, Nat.mul_one, hbI, hrb, hab, hba, hlb, hc0, hcw, hcs]
              refine ⟨b + 1, ?_, by (try simp only []); omega, ?_⟩
              · first | exact Weak.refl | exact Weak.eq (by first | rfl | (simp only [go_sem]; done) | (simp only [go_sem]; rfl) | (simp [go_sem]; done) | (simp [go_sem]; omega)) (by first | rfl | (simp only [go_sem]; done) | (simp [go_sem]; done))
              · try dsimp only
                omega
            · simp only [go_sem, hb0, hmany, hb1, hls, hb2, haI, hra, hla, hoN, List.getElem?_map, llPV, Nat.mul_one, hbI, hrb, hab, hba, hlb, hc0, hcw, hcs]
              refine GWant_split (fun g1 => ?_) (fun g1 => ?_)
              · try simp only [Bool.not_eq_true', Bool.not_eq_false'] at g1
                have n1 := g1; try simp only [nrm] at n1
                simp only [go_sem, hb0, hmany, hb1, hls, hb2, haI, hra, hla, hoN, List.getElem?_map, llPV, Nat.mul_one, hbI, hrb, hab, hba, hlb, hc0, hcw, hcs, g1]
                refine GWant_split (fun g2 => ?_) (fun g2 => ?_)
                · try simp only [Bool.not_eq_true', Bool.not_eq_false'] at g2
                  have n2 := g2; try simp only [nrm] at n2
                  simp only [go_sem, hb0, hmany, hb1, hls, hb2, haI, hra, hla, hoN, List.getElem?_map, llPV, Nat.mul_one, hbI, hrb, hab, hba, hlb, hc0, hcw, hcs, g1, g2]
                  try refine And.intro (by repeat' (first | refine And.intro ?_ ?_ | exact GOr_right (fun _ => by simp only [go_sem, hb0, hmany, hb1, hls, hb2, haI, hra, hla, hoN, List.getElem?_map, llPV, Nat.mul_one, hbI, hrb, hab, hba, hlb, hc0, hcw, hcs]))) ?_
                  refine hR _ ?_
                  all_goals try simp only [go_sem, hb0, hmany, hb1, hls, hb2, haI, hra, hla, hoN, List.getElem?_map, llPV, Nat.mul_one, hbI, hrb, hab, hba, hlb, hc0, hcw, hcs]
                  all_goals
                    first | (rw [beatP_succ]; first | rfl | (simp [*]; done) | (simp_all; done) | (simp_all; omega))
                · try simp only [Bool.not_eq_true', Bool.not_eq_false'] at g2
                  have n2 := g2; try simp only [nrm] at n2
                  simp only [go_sem, hb0, hmany, hb1, hls, hb2, haI, hra, hla, hoN, List.getElem?_map, llPV, Nat.mul_one, hbI, hrb, hab, hba, hlb, hc0, hcw, hcs, g1, g2]
                  try refine And.intro (by repeat' (first | refine And.intro ?_ ?_ | exact GOr_right (fun _ => by simp only [go_sem, hb0, hmany, hb1, hls, hb2, haI, hra, hla, hoN, List.getElem?_map, llPV, Nat.mul_one, hbI, hrb, hab, hba, hlb, hc0, hcw, hcs]))) ?_
                  refine hR _ ?_
                  all_goals try simp only [go_sem, hb0, hmany, hb1, hls, hb2, haI, hra, hla, hoN, List.getElem?_map, llPV, Nat.mul_one, hbI, hrb, hab, hba, hlb, hc0, hcw, hcs]
                  all_goals
                    first | (rw [beatP_succ]; first | rfl | (simp [*]; done) | (simp_all; done) | (simp_all; omega))
              · try simp only [Bool.not_eq_true', Bool.not_eq_false'] at g1
                have n1 := g1; try simp only [nrm] at n1
                simp only [go_sem, hb0, hmany, hb1, hls, hb2, haI, hra, hla, hoN, List.getElem?_map, llPV, Nat.mul_one, hbI, hrb, hab, hba, hlb, hc0, hcw, hcs, g1]
                try refine And.intro (by repeat' (first | refine And.intro ?_ ?_ | exact GOr_right (fun _ => by simp only [go_sem, hb0, hmany, hb1, hls, hb2, haI, hra, hla, hoN, List.getElem?_map, llPV, Nat.mul_one, hbI, hrb, hab, hba, hlb, hc0, hcw, hcs]))) ?_
                refine hR _ ?_
                all_goals try simp only [go_sem, hb0, hmany, hb1, hls, hb2, haI, hra, hla, hoN, List.getElem?_map, llPV, Nat.mul_one, hbI, hrb, hab, hba, hlb, hc0, hcw, hcs]
                all_goals
                  first | (rw [beatP_succ]; first | rfl | (simp [*]; done) | (simp_all; done) | (simp_all; omega))
        · -- c5 false
          try simp only [nrm] at c5
          have hbe : N = b := by first | omega | (simp at c5; omega)
          subst hbe
          have hbi2 := hbi a ha'
          refine W_exit ?_
          simp only [go_sem, hb0, hmany, hb1, hls, hb2, haI, hra, hla, hoN, List.getElem?_map, llPV, Nat.mul_one, hbi2, bne_self_eq_false]
          refine kq21 _ _ ?_
          refine W_seq fun kz28 kq28 => ?_
          refine W_region [4, 5, 6, 7, 9, 10, 13, 152] fun R hR => ?_   -- r23
          simp only [go_sem, hb0, hmany, hb1, hls, hb2, haI, hra, hla, hoN, List.getElem?_map, llPV, Nat.mul_one, hbi2, bne_self_eq_false]
          refine hR _ _ (kq28 _ _ ?_); clear hR R; try clear kq28 kz28
          try simp only [go_sem, hb0, hmany, hb1, hls, hb2, haI, hra, hla, hoN, List.getElem?_map, llPV, Nat.mul_one, hbi2, bne_self_eq_false]
          refine W_cond rfl (fun c7 => ?_) (fun c7 => ?_)
          · -- c7 true
            try simp only [nrm] at c7
            exfalso
            by_cases q : (a : Int) = bb <;> simp [q] at c7
          · -- c7 false
            try simp only [nrm] at c7
            refine W_skip (kq19 _ _ ?_)
            refine W_region [4, 5, 6, 7, 9, 10, 13] fun R hR => ?_   -- r15
            simp only [go_sem, hb0, hmany, hb1, hls, hb2, haI, hra, hla, hoN, List.getElem?_map, llPV, Nat.mul_one, hbi2, bne_self_eq_false]
            try simp (disch := omega) only [wrapI, wrapU]
            refine hR _ _ ?_; clear hR R
            try simp only [go_sem, hb0, hmany, hb1, hls, hb2, haI, hra, hla, hoN, List.getElem?_map, llPV, Nat.mul_one, hbi2, bne_self_eq_false]
            refine ⟨a + 1, ?_, by (try simp only []); omega, ?_⟩
            · first | exact Weak.refl | exact Weak.eq (by first | rfl | (simp only [go_sem]; done) | (simp only [go_sem]; rfl) | (simp [go_sem]; done) | (simp [go_sem]; omega)) (by first | rfl | (simp only [go_sem]; done) | (simp [go_sem]; done))
            · try dsimp only
              omega
      · -- c4 false
        try simp only [nrm] at c4
        skip
        refine W_exit ?_
        simp only [go_sem, hb0, hmany, hb1, hls, hb2]
        refine kq15 _ _ ?_
        refine W_seq fun kz29 kq29 => ?_
        refine W_seq fun kz30 kq30 => ?_
        refine W_regionJ [4, 7, 10, 167] [(167, .bool false)] ?_ fun R hR => ?_   -- r25
        · refine kq30 _ _ ?_
          simp only [go_sem, hb0, hmany, hb1, hls, hb2]
          refine W_cond rfl (fun c8 => ?_) (fun c8 => ?_)
          · -- c8 true
            try simp only [nrm] at c8
            exfalso
            simp at c8
          · -- c8 false
            try simp only [nrm] at c8
            refine W_skip (kq29 _ _ ?_)
            refine W_seq fun kz31 kq31 => ?_
            refine W_regionJ [2] [(2, .bool true)] ?_ fun R hR => ?_   -- r27
            · refine kq31 _ _ ?_
              simp only [go_sem, hb0, hmany, hb1, hls, hb2]
              refine W_ret ?_
              simp only [go_sem, hb0, hmany, hb1, hls, hb2]
              refine ⟨.inr (by trivial), ?_⟩
              first | refine Fin_same hcl rfl (Wk_eq ?_ (by simp only [go_sem])) | refine Fin_self hcl rfl (Wk_eq ?_ (by simp only [go_sem]))
              try simp only [go_sem]
              all_goals
                first | rfl | (simp_all; done) | (simp_all; omega)
            · simp only [go_sem, hb0, hmany, hb1, hls, hb2]
              refine GWant_split (fun g3 => ?_) (fun g3 => ?_)
              · try simp only [Bool.not_eq_true', Bool.not_eq_false'] at g3
                have n3 := g3; try simp only [nrm] at n3
                simp only [go_sem, hb0, hmany, hb1, hls, hb2, g3]
                refine GWant_split (fun g4 => ?_) (fun g4 => ?_)
                · try simp only [Bool.not_eq_true', Bool.not_eq_false'] at g4
                  have n4 := g4; try simp only [nrm] at n4
                  simp only [go_sem, hb0, hmany, hb1, hls, hb2, g3, g4]
                  refine GWant_split (fun g5 => ?_) (fun g5 => ?_)
                  · try simp only [Bool.not_eq_true', Bool.not_eq_false'] at g5
                    have n5 := g5; try simp only [nrm] at n5
                    simp only [go_sem, hb0, hmany, hb1, hls, hb2, g3, g4, g5]
                    refine GCall_of (hA Y _) ?_   -- t180
                    simp only [go_sem, hb0, hmany, hb1, hls, hb2, g3, g4, g5]
                    refine hR _ ?_
                    all_goals try simp only [go_sem, hb0, hmany, hb1, hls, hb2]
                    all_goals
                      first | rfl | (simp_all; done) | (exfalso; simp at *; omega)
                  · try simp only [Bool.not_eq_true', Bool.not_eq_false'] at g5
                    have n5 := g5; try simp only [nrm] at n5
                    simp only [go_sem, hb0, hmany, hb1, hls, hb2, g3, g4, g5]
                    refine hR _ ?_
                    all_goals try simp only [go_sem, hb0, hmany, hb1, hls, hb2]
                    all_goals
                      first | rfl | (simp_all; done) | (exfalso; simp at *; omega)
                · try simp only [Bool.not_eq_true', Bool.not_eq_false'] at g4
                  have n4 := g4; try simp only [nrm] at n4
                  simp only [go_sem, hb0, hmany, hb1, hls, hb2, g3, g4]
                  refine GCall_of (hA Y _) ?_   -- t180
                  simp only [go_sem, hb0, hmany, hb1, hls, hb2, g3, g4]
                  refine hR _ ?_
                  all_goals try simp only [go_sem, hb0, hmany, hb1, hls, hb2]
                  all_goals
                    first | rfl | (simp_all; done) | (exfalso; simp at *; omega)
              · try simp only [Bool.not_eq_true', Bool.not_eq_false'] at g3
                have n3 := g3; try simp only [nrm] at n3
                simp only [go_sem, hb0, hmany, hb1, hls, hb2, g3]
                refine GCall_of (hA Y _) ?_   -- t180
                simp only [go_sem, hb0, hmany, hb1, hls, hb2, g3]
                refine hR _ ?_
                all_goals try simp only [go_sem, hb0, hmany, hb1, hls, hb2]
                all_goals
                  first | rfl | (simp_all; done) | (exfalso; simp at *; omega)
        · simp only [go_sem, hb0, hmany, hb1, hls, hb2]
          refine GWant_split (fun g6 => ?_) (fun g6 => ?_)
          · try simp only [Bool.not_eq_true', Bool.not_eq_false'] at g6
            have n6 := g6; try simp only [nrm] at n6
            simp only [go_sem, hb0, hmany, hb1, hls, hb2, g6]
            refine GWant_split (fun g7 => ?_) (fun g7 => ?_)
            · try simp only [Bool.not_eq_true', Bool.not_eq_false'] at g7
              have n7 := g7; try simp only [nrm] at n7
              have hN2 : 2 ≤ N := by simp at g7; omega
              have hi0 : (0 : Int) ≤ (N : Int) - 2 := by omega
              have hw2 : IntKind.i64.wrap ((N : Int) - 2) = (N : Int) - 2 := wrapI (by omega) (by omega)
              have hi1 : ((N : Int) - 2).toNat = N - 2 := by omega
              obtain ⟨z, hz⟩ : ∃ z, out[N - 2]? = some z := ⟨out[N - 2]'(by omega), by simp⟩
              have hzb : ¬ z = bb := fun e => by
                have h0 : 0 ≤ bb := by simpa using g6
                rcases hbd with h | h
                · omega
                · exact hnl hN2 bb.toNat (by omega) h.2.2 (by rw [hz, e]; congr 1; omega)
              simp only [go_sem, hb0, hmany, hb1, hls, hb2, hw2, hi0, hi1, hz, hzb, g6, g7]
              try simp (disch := omega) only [wrapI, wrapU]
              refine hR _ ?_
              all_goals try simp only [go_sem, hb0, hmany, hb1, hls, hb2, hw2, hi0, hi1, hz, hzb]
              all_goals
                first | rfl | (simp_all; done) | (exfalso; simp at *; omega)
            · try simp only [Bool.not_eq_true', Bool.not_eq_false'] at g7
              have n7 := g7; try simp only [nrm] at n7
              simp only [go_sem, hb0, hmany, hb1, hls, hb2, g6, g7]
              try simp (disch := omega) only [wrapI, wrapU]
              refine hR _ ?_
              all_goals try simp only [go_sem, hb0, hmany, hb1, hls, hb2]
              all_goals
                first | rfl | (simp_all; done) | (exfalso; simp at *; omega)
          · try simp only [Bool.not_eq_true', Bool.not_eq_false'] at g6
            have n6 := g6; try simp only [nrm] at n6
            simp only [go_sem, hb0, hmany, hb1, hls, hb2, g6]
            try simp (disch := omega) only [wrapI, wrapU]
            refine hR _ ?_
            all_goals try simp only [go_sem, hb0, hmany, hb1, hls, hb2]
            all_goals
              first | rfl | (simp_all; done) | (exfalso; simp at *; omega)
end Go.Proofs.Ytnolifglhhjdnaa
namespace Go.Proofs.Ytnolifglhhjdnaa
open Go Go.RowKit
theorem rdSongDuelsArgs : All2 (fun t R => Rd Try.prog t R) Try.f9.params.toList [fun p => ∃ xs : List Int, p = ints xs ∧ intsSz xs] :=
  .cons rdInts .nil
set_option maxHeartbeats 4000000 in
theorem SongDuels_walk : ∀ qs, AllR [fun p => ∃ xs : List Int, p = ints xs ∧ intsSz xs] qs → ∃ σ', PC Try.prog noY 9 qs Sg.zero (.bool true) σ' := by
  intro qs hq
  obtain ⟨px0, qs, rfl, ⟨x0, hx0, sx0⟩, hq⟩ := allR_cons hq
  obtain rfl := allR_nil hq
  subst hx0
  exact ⟨_, SongDuels_pc noY _ awake_pc x0 (by unfold intsSz at sx0; omega)⟩
theorem SongDuels_lifted (os : Os) (started : os.Started) (H : Type) (enc : TypeId × Value → H) :
    ReturnsInHanded {} Try.checked os 9 .any (Rows.songDuelsSpec.pre6 enc Try.prog Try.f9 Rows.songDuelsRow.domain false) (Rows.songDuelsSpec.post enc Try.prog Try.f9 false true false false) :=
  law_lifted (C := Try.checked) own started (by kernel_rfl) Try.func9 rfl laidOut (by kernel_rfl) rdSongDuelsArgs rfl Try.underlying4
    (fun ds h => match ds, h with | [_], _ => rfl)
    (ChangeSpec.witness6 (enc := enc) (C := Try.checked) false ⟨#[], #[.slice none 0 0], []⟩ 8 (by kernel_rfl) (by kernel_rfl) (by kernel_rfl) (by kernel_rfl))
    SongDuels_walk
theorem SongDuels_holds : Rows.SongDuelsSaid :=
  OpenClaim.holds_of_wide 9 Try.f9 rfl rfl rfl rfl rfl rfl rfl ⟨rfl, rfl, rfl, rfl, rfl⟩ rfl rfl rfl rfl rfl (by kernel_rfl) Try.func9 (by kernel_rfl)
    (of_decide_eq_true (by kernel_rfl)) (by unfold Func.isWrapper; first | (rw [if_pos (by decide +kernel)]; kernel_rfl) | (rw [if_neg (by decide +kernel)]; exact ⟨rfl, rfl⟩))
    (fun os started H enc _ => SongDuels_lifted os started H enc)
end Go.Proofs.Ytnolifglhhjdnaa
