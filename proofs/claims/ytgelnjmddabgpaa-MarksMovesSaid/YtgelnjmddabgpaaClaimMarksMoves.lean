/-
  The law MarksMoves: whatever comes in, it answers true and leaves what came in as it was.
  The law MarksMoves, walked: leagues of the next season.
  Walks: the chapter's examples checked.
-/
import Derived.Test.YtgelnjmddabgpaaPe
import Derived.CallsIn
import Derived.RangeFuncLeaves
import Derived.RangeFuncRecord
import Derived.OrdersIn
import Derived.Below
import Derived.Laws.World
import Derived.Laws.StructEq
import Derived.Laws.Append
import Derived.MapKept
import Derived.ProofKit
import Derived.Carry
import Derived.Handed
import Derived.ChangeCalls
import Derived.RangeFuncIn
import Derived.RangeFuncNested
import Derived.Test.YtgelnjmddabgpaaProg
import Derived.KernelRfl
import Derived.IntWalk
import Derived.Test.YtgelnjmddabgpaaRows
import Derived.Sort.OwnSortedInts
import Derived.Lib.SlicesCompact
import Derived.Shelf.Sort.Plain
import Derived.Shelf.Slices.In.SortNone
import Derived.Shelf.Small.Bits
import Derived.JoinedOf
set_option linter.unusedSimpArgs false
set_option linter.unusedVariables false
namespace Go.Proofs.Ytgelnjmddabgpaa
open Go Go.RowKit
set_option maxRecDepth 100000
def exTab : List Stand := [⟨0, 385, [195, 190]⟩, ⟨2, 365, [175, 195]⟩, ⟨1, 365, [195, 170]⟩]
def exTot : List (Int × Int) := [(340, 385), (355, 390), (345, 370)]
set_option maxHeartbeats 4000000 in
theorem awake_pc (Y : YEnv) (σ : Sg)  :
    PC Try.prog Y 20 [] σ (.bool true) (σ) := by
  refine PC_of_W Try.func20 rfl (by kernel_rfl) Try.ntmps20 (by simp) fun hcl hca => ?_
  refine W_seq fun kz1 kq1 => ?_
  refine W_region [] fun R hR => ?_   -- r0
  simp only [go_sem]
  refine hR _ _ (kq1 _ _ ?_); clear hR R; try clear kq1 kz1
  try simp only [go_sem]
  refine W_seq fun kz2 kq2 => ?_
  refine W_region [1, 2] fun R hR => ?_   -- r1
  simp only [go_sem]
  refine GCall_of (scale_pc Y _) ?_   -- t8
  simp only [go_sem]
  refine GCall_of (night_pc Y _) ?_   -- t9
  simp only [go_sem]
  refine GCall_of (PC.val (v' := .tuple [sds exTab, I 0]) (Table_pc Y _ exScale exNight exScale_ok exNight_ok) (by rw [exTable]; rfl)) ?_   -- t10
  simp only [go_sem]
  refine hR _ _ (kq2 _ _ ?_); clear hR R; try clear kq2 kz2
  try simp only [go_sem]
  refine W_seq fun kz3 kq3 => ?_
  refine W_region [1, 2, 3, 4] fun R hR => ?_   -- r2
  simp only [go_sem]
  refine GCall_of (scale_pc Y _) ?_   -- t14
  simp only [go_sem]
  refine GCall_of (before_pc Y _) ?_   -- t15
  simp only [go_sem]
  refine GCall_of (PC.val (v' := .tuple [sts exTot, I 0]) (Totals_pc Y _ exScale exBefore exScale_ok exBefore_ok) (by rw [exTotals]; rfl)) ?_   -- t16
  simp only [go_sem]
  refine hR _ _ (kq3 _ _ ?_); clear hR R; try clear kq3 kz3
  try simp only [go_sem]
  refine W_seq fun kz4 kq4 => ?_
  refine W_region [1, 2, 3, 4, 5, 6] fun R hR => ?_   -- r3
  simp only [go_sem]
  refine GCall_of (scale_pc Y _) ?_   -- t20
  simp only [go_sem]
  refine GCall_of (before_pc Y _) ?_   -- t21
  simp only [go_sem]
  refine GCall_of (PC.val (v' := .tuple [.agg [I 1, I 3], I 0]) (Place_pc Y _ exScale exBefore exScale_ok exBefore_ok 0) (by rw [exPlace])) ?_   -- t22
  simp only [go_sem]
  refine hR _ _ (kq4 _ _ ?_); clear hR R; try clear kq4 kz4
  try simp only [go_sem]
  refine W_seq fun kz5 kq5 => ?_
  refine W_draw [0] [0, 1, 2, 3, 4, 5, 6, 7, 8, 9, 10, 11, 12, 13, 14, 15, 16, 17, 18, 19, 20, 21, 22, 23, 24, 25, 26, 27, 28, 29, 30, 31, 32, 33, 34] [(22, 24), (22, 25), (22, 27), (30, 35)] [[], [0], [0, 1], [0, 1, 2], [0, 1, 2, 3], [0, 1, 2, 3, 4], [0, 1, 2, 3, 4, 5], [0, 1, 2, 3, 4, 5, 6], [0, 1, 2, 3, 4, 5, 6, 7], [0, 1, 2, 3, 4, 5, 6, 7, 8], [0, 1, 2, 3, 4, 5, 6, 7, 8, 9], [0, 1, 2, 3, 4, 5, 6, 7, 8, 9, 10], [0, 1, 2, 3, 4, 5, 6, 7, 8, 9, 10], [0, 1, 2, 3, 4, 5, 6, 7, 8, 9, 10, 12], [0, 1, 2, 3, 4, 5, 6, 7, 8, 9, 10], [0, 1, 2, 3, 4, 5, 6, 7, 8, 9, 10, 14], [0, 1, 2, 3, 4, 5, 6, 7, 8, 9, 10], [0, 1, 2, 3, 4, 5, 6, 7, 8, 9, 10, 16], [0, 1, 2, 3, 4, 5, 6, 7, 8, 9, 10, 12, 13, 14, 15, 16, 17], [0, 1, 2, 3, 4, 5, 6, 7, 8, 9, 10, 11, 12, 13, 14, 15, 16, 17, 18], [0, 1, 2, 3, 4, 5, 6, 7, 8, 9, 10, 11, 12, 13, 14, 15, 16, 17, 18, 19], [0, 1, 2, 3, 4, 5, 6, 7, 8, 9, 10, 11, 12, 13, 14, 15, 16, 17, 18, 19, 20], [0, 1, 2, 3, 4, 5, 6, 7, 8, 9, 10, 11, 12, 13, 14, 15, 16, 17, 18, 19, 20, 21], [0, 1, 2, 3, 4, 5, 6, 7, 8, 9, 10, 11, 12, 13, 14, 15, 16, 17, 18, 19, 20, 21], [0, 1, 2, 3, 4, 5, 6, 7, 8, 9, 10, 11, 12, 13, 14, 15, 16, 17, 18, 19, 20, 21, 23], [0, 1, 2, 3, 4, 5, 6, 7, 8, 9, 10, 11, 12, 13, 14, 15, 16, 17, 18, 19, 20, 21, 23, 24], [0, 1, 2, 3, 4, 5, 6, 7, 8, 9, 10, 11, 12, 13, 14, 15, 16, 17, 18, 19, 20, 21, 23, 24, 25], [0, 1, 2, 3, 4, 5, 6, 7, 8, 9, 10, 11, 12, 13, 14, 15, 16, 17, 18, 19, 20, 21, 22, 23, 24, 25, 26], [0, 1, 2, 3, 4, 5, 6, 7, 8, 9, 10, 11, 12, 13, 14, 15, 16, 17, 18, 19, 20, 21, 22, 23, 24, 25, 26, 27], [0, 1, 2, 3, 4, 5, 6, 7, 8, 9, 10, 11, 12, 13, 14, 15, 16, 17, 18, 19, 20, 21, 22, 23, 24, 25, 26, 27, 28], [0, 1, 2, 3, 4, 5, 6, 7, 8, 9, 10, 11, 12, 13, 14, 15, 16, 17, 18, 19, 20, 21, 22, 23, 24, 25, 26, 27, 28, 29], [0, 1, 2, 3, 4, 5, 6, 7, 8, 9, 10, 11, 12, 13, 14, 15, 16, 17, 18, 19, 20, 21, 22, 23, 24, 25, 26, 27, 28, 29], [0, 1, 2, 3, 4, 5, 6, 7, 8, 9, 10, 11, 12, 13, 14, 15, 16, 17, 18, 19, 20, 21, 22, 23, 24, 25, 26, 27, 28, 29, 30, 31], [0, 1, 2, 3, 4, 5, 6, 7, 8, 9, 10, 11, 12, 13, 14, 15, 16, 17, 18, 19, 20, 21, 22, 23, 24, 25, 26, 27, 28, 29, 30, 31, 32], [0, 1, 2, 3, 4, 5, 6, 7, 8, 9, 10, 11, 12, 13, 14, 15, 16, 17, 18, 19, 20, 21, 22, 23, 24, 25, 26, 27, 28, 29, 30, 31, 32, 33]] mixed (by kernel_rfl) fun R hR => ?_   -- r4
  simp only [go_sem]
  refine GCall_of (PC.val (v' := .bool true) (PC.ofRo (EqTables_pc Y _ exTab exTab .ro .ro (by decide) (by decide)) (by simp only [go_sem, exTab] <;> rfl)) (by rfl)) ?_   -- t44
  simp only [go_sem]
  refine GCall_of (span_pc Y _ 340 385) ?_   -- t48
  simp only [go_sem]
  refine GCall_of (span_pc Y _ 355 390) ?_   -- t49
  simp only [go_sem]
  refine GCall_of (span_pc Y _ 345 370) ?_   -- t50
  simp only [go_sem]
  refine GCall_of (EqSpans_pc Y _ exTot exTot .ro .exact (by decide)) ?_   -- t52
  simp only [go_sem]
  refine GCall_of (span_pc Y _ 1 3) ?_   -- t56
  simp only [go_sem]
  try refine And.intro (by repeat' (first | refine And.intro ?_ ?_ | exact GOr_right (fun _ => by simp only [go_sem]))) ?_
  refine hR _ _ (kq5 _ _ ?_); clear hR R; try clear kq5 kz5
  try simp only [go_sem]
  refine W_ret ?_
  simp only [go_sem]
  refine ⟨.inr (by trivial), ?_⟩
  first | refine Fin_same hcl rfl (Wk_eq ?_ (by simp only [go_sem])) | refine Fin_self hcl rfl (Wk_eq ?_ (by simp only [go_sem]))
  try simp only [go_sem]
  all_goals
    first | rfl | (simp_all; done) | (simp_all; omega)
end Go.Proofs.Ytgelnjmddabgpaa
namespace Go.Proofs.Ytgelnjmddabgpaa
open Go Go.RowKit
set_option maxRecDepth 100000
def l3PV (ls : List (List Int)) : PV := .isl (ls.map llPV) .ro
theorem clean_l3 {a b c : Nat} (ls : List (List Int)) : Clean a b c (l3PV ls) := Clean.map noTok clean_ll
theorem okC_l3 {xs : List (List (List Int))} : okC 1 (xs.map l3PV) = True := okC_map fun x => by simp [okC, l3PV, PV.cells, PV.scalar]
theorem cA_l3 {a b c : Nat} {xs : List (List (List Int))} : CleanAll a b c (xs.map l3PV) = True := CleanAll_map clean_l3
theorem roL_l3 {xs : List (List (List Int))} : PV.roL (xs.map l3PV) = xs.map l3PV := roL_enc fun x => by simp only [l3PV, ro_isl, roL_ll]
attribute [go_sem] okC_l3 cA_l3 roL_l3 l3PV
theorem lgAt_len {ls : List (List Int)} {B : Nat} (h : ∀ x, x ∈ ls → x.length ≤ B) (i : Nat) : (lgAt ls i).length ≤ B := by
  unfold lgAt
  cases hi : ls[i]? with
  | none => simp
  | some x => exact h x (List.mem_of_getElem? hi)
theorem nextL_len {ls : List (List Int)} {B : Nat} (h : ∀ x, x ∈ ls → x.length ≤ B) (n i : Nat) : (nextL ls n i).length ≤ 3 * B := by
  have h1 := lgAt_len h (i - 1)
  have h2 := lgAt_len h i
  have h3 := lgAt_len h (i + 1)
  have ha : (if 0 < i then (lgAt ls (i - 1)).drop ((lgAt ls (i - 1)).length - n) else []).length ≤ B := by split <;> simp <;> omega
  have hb : ∀ a b : Nat, (((lgAt ls i).drop a).take b).length ≤ B := fun a b => by simp; omega
  have hc : (if i + 1 < ls.length then (lgAt ls (i + 1)).take n else []).length ≤ B := by split <;> simp <;> omega
  simp only [nextL, List.length_append]
  have := hb (if 0 < i then n else 0) (((lgAt ls i).length - (if i + 1 < ls.length then n else 0)) - (if 0 < i then n else 0))
  omega
theorem moveA_len {ls : List (List Int)} {B : Nat} (h : ∀ x, x ∈ ls → x.length ≤ B) (n : Int) : (moveA ls n).1.length ≤ 6 ∧ ∀ x, x ∈ (moveA ls n).1 → x.length ≤ 3 * B := by
  unfold moveA
  split
  · exact ⟨by simp, fun x hx => by cases hx⟩
  · split
    · exact ⟨by simp, fun x hx => by cases hx⟩
    · split
      · exact ⟨by simp, fun x hx => by cases hx⟩
      · refine ⟨by rw [nextA_len]; omega, fun x hx => ?_⟩
        obtain ⟨i, _, rfl⟩ := List.mem_map.1 hx
        exact nextL_len h _ _
set_option maxHeartbeats 8000000 in
theorem MarksMoves_pc (Y : YEnv) (σ : Sg) (leagues : List (List Int)) (n : Int) (nums : List Int) (hl : leagues.length < 2 ^ 50) (hx8 : ∀ x, x ∈ leagues → x.length < 2 ^ 50) (hn : nums.length < 2 ^ 60) :
    PC Try.prog Y 7 [lls leagues, I n, ints nums] σ (.bool true) (σ) := by
  refine PC_of_W Try.func7 rfl (by kernel_rfl) Try.ntmps7 (by simp) fun hcl hca => ?_
  obtain ⟨b0, hb0⟩ : ∃ z, drumB nums 2685821657736338717 = z := ⟨_, rfl⟩
  obtain ⟨made, hmade⟩ : ∃ z, (leaguesD b0).1.1 = z := ⟨_, rfl⟩
  obtain ⟨many, hmany⟩ : ∃ z, (leaguesD b0).1.2 = z := ⟨_, rfl⟩
  obtain ⟨b1, hb1⟩ : ∃ z, (leaguesD b0).2 = z := ⟨_, rfl⟩
  have lok : LgOk made many := by rw [← hmade, ← hmany]; exact leaguesD_ok b0
  refine W_seq fun kz1 kq1 => ?_
  refine W_region [0, 1, 2] fun R hR => ?_   -- r0
  simp only [go_sem, llPV, hb0, hmade, hmany, hb1]
  refine hR _ _ (kq1 _ _ ?_); clear hR R; try clear kq1 kz1
  try simp only [go_sem, llPV, hb0, hmade, hmany, hb1]
  refine W_seq fun kz2 kq2 => ?_
  refine W_seq fun kz3 kq3 => ?_
  refine W_region [0, 1, 2, 20] fun R hR => ?_   -- r1
  simp only [go_sem, llPV, hb0, hmade, hmany, hb1]
  refine hR _ _ (kq3 _ _ ?_); clear hR R; try clear kq3 kz3
  try simp only [go_sem, llPV, hb0, hmade, hmany, hb1]
  refine W_cond rfl (fun c1 => ?_) (fun c1 => ?_)
  · -- c1 true
    try simp only [nrm] at c1
    refine W_seq fun kz4 kq4 => ?_
    refine W_region [6] fun R hR => ?_   -- r2
    simp only [go_sem, llPV, hb0, hmade, hmany, hb1]
    refine GCall_of (awake_pc Y _) ?_   -- t21
    simp only [go_sem, llPV, hb0, hmade, hmany, hb1]
    refine hR _ _ (kq4 _ _ ?_); clear hR R; try clear kq4 kz4
    try simp only [go_sem, llPV, hb0, hmade, hmany, hb1]
    refine W_ret ?_
    simp only [go_sem, llPV, hb0, hmade, hmany, hb1]
    refine ⟨.inr (by trivial), ?_⟩
    first | refine Fin_same hcl rfl (Wk_eq ?_ (by simp only [go_sem])) | refine Fin_self hcl rfl (Wk_eq ?_ (by simp only [go_sem]))
    try simp only [go_sem]
    all_goals
      first | rfl | (simp_all; done) | (simp_all; omega)
  · -- c1 false
    try simp only [nrm] at c1
    refine W_skip (kq2 _ _ ?_)
    refine W_seq fun kz5 kq5 => ?_
    refine W_seq fun kz6 kq6 => ?_
    refine W_region [0, 1, 2, 7] fun R hR => ?_   -- r3
    simp only [go_sem, llPV, hb0, hmade, hmany, hb1]
    refine hR _ _ (kq6 _ _ ?_); clear hR R; try clear kq6 kz6
    try simp only [go_sem, llPV, hb0, hmade, hmany, hb1]
    refine W_block ?_
    refine W_loopS (α := Nat) (fun (i : Nat) => [(7, I i)]) (fun (i : Nat) => i ≤ leagues.length ∧ ∀ x, x ∈ leagues.take i → x.length ≤ 20) (fun (i : Nat) => leagues.length - i) (0) rfl (⟨Nat.zero_le _, fun x hx => by simp at hx⟩) ?_
    rintro i ⟨hi, hin⟩
    refine W_seq fun kz7 kq7 => ?_
    refine W_seq fun kz8 kq8 => ?_
    refine W_region [0, 1, 2, 7, 25] fun R hR => ?_   -- r4
    simp only [go_sem, llPV, hb0, hmade, hmany, hb1]
    refine hR _ _ (kq8 _ _ ?_); clear hR R; try clear kq8 kz8
    try simp only [go_sem, llPV, hb0, hmade, hmany, hb1]
    refine W_cond rfl (fun c2 => ?_) (fun c2 => ?_)
    · -- c2 true
      try simp only [nrm] at c2
      have hi' : i < leagues.length := by first | assumption | omega
      obtain ⟨l, hx⟩ : ∃ l, leagues[i]? = some l := ⟨leagues[i], by simp [hi']⟩
      have hdrop : leagues.drop i = l :: leagues.drop (i + 1) := by
        rw [List.drop_eq_getElem_cons hi']; congr 1; exact (List.getElem?_eq_some_iff.1 hx).2
      have hl50 := hx8 l (List.mem_of_getElem? hx)
      refine W_skip (kq7 _ _ ?_)
      refine W_seq fun kz9 kq9 => ?_
      refine W_block ?_
      refine W_seq fun kz10 kq10 => ?_
      refine W_region [0, 1, 2, 7, 33] fun R hR => ?_   -- r6
      simp only [go_sem, llPV, hb0, hmade, hmany, hb1, hx]
      refine hR _ _ (kq10 _ _ ?_); clear hR R; try clear kq10 kz10
      try simp only [go_sem, llPV, hb0, hmade, hmany, hb1, hx]
      refine W_cond rfl (fun c3 => ?_) (fun c3 => ?_)
      · -- c3 true
        try simp only [nrm] at c3
        refine W_seq fun kz11 kq11 => ?_
        refine W_region [6] fun R hR => ?_   -- r7
        simp only [go_sem, llPV, hb0, hmade, hmany, hb1, hx]
        refine GCall_of (awake_pc Y _) ?_   -- t34
        simp only [go_sem, llPV, hb0, hmade, hmany, hb1, hx]
        refine hR _ _ (kq11 _ _ ?_); clear hR R; try clear kq11 kz11
        try simp only [go_sem, llPV, hb0, hmade, hmany, hb1, hx]
        refine W_ret ?_
        simp only [go_sem, llPV, hb0, hmade, hmany, hb1, hx]
        refine ⟨.inr (by trivial), ?_⟩
        first | refine Fin_same hcl rfl (Wk_eq ?_ (by simp only [go_sem])) | refine Fin_self hcl rfl (Wk_eq ?_ (by simp only [go_sem]))
        try simp only [go_sem]
        all_goals
          first | rfl | (simp_all; done) | (simp_all; omega)
      · -- c3 false
        try simp only [nrm] at c3
        refine W_skip (kq9 _ _ ?_)
        refine W_region [0, 1, 2, 7] fun R hR => ?_   -- r5
        simp only [go_sem, llPV, hb0, hmade, hmany, hb1, hx]
        try simp (disch := omega) only [wrapI, wrapU]
        refine hR _ _ ?_; clear hR R
        try simp only [go_sem, llPV, hb0, hmade, hmany, hb1, hx]
        refine ⟨i + 1, ?_, by (try simp only []); omega, ?_⟩
        · first | exact Weak.refl | exact Weak.eq (by first | rfl | (simp only [go_sem]; done) | (simp only [go_sem]; rfl) | (simp [go_sem]; done) | (simp [go_sem]; omega)) (by first | rfl | (simp only [go_sem]; done) | (simp [go_sem]; done))
        · try dsimp only
          refine ⟨hi', fun x hx2 => ?_⟩
          rw [List.take_add_one, hx] at hx2
          rcases List.mem_append.1 hx2 with h | h
          · exact hin x h
          · simp at h; subst h; first | omega | (simp at c3; omega)
    · -- c2 false
      try simp only [nrm] at c2
      have hie : i = leagues.length := by first | omega | (simp at c2; omega)
      rw [hie, List.take_length] at hin
      refine W_exit ?_
      simp only [go_sem, llPV, hb0, hmade, hmany, hb1]
      refine kq5 _ _ ?_
      refine W_seq fun kz12 kq12 => ?_
      refine W_region [0, 1, 8, 9] fun R hR => ?_   -- r8
      simp only [go_sem, llPV, hb0, hmade, hmany, hb1]
      refine GCall_of (DrumOf_pc Y _ nums hn) ?_   -- t37
      simp only [go_sem, llPV, hb0, hmade, hmany, hb1]
      refine GCall_of (LeaguesOf_pc Y _ _ b0 (Sg.get_ext0 ..)) ?_   -- t38
      simp only [go_sem, llPV, hb0, hmade, hmany, hb1]
      refine hR _ _ (kq12 _ _ ?_); clear hR R; try clear kq12 kz12
      try simp only [go_sem, llPV, hb0, hmade, hmany, hb1]
      refine W_seq fun kz13 kq13 => ?_
      refine W_region [10, 11] fun R hR => ?_   -- r9
      simp only [go_sem, llPV, hb0, hmade, hmany, hb1]
      refine hR _ _ (kq13 _ _ ?_); clear hR R; try clear kq13 kz13
      try simp only [go_sem, llPV, hb0, hmade, hmany, hb1]
      refine W_seq fun kz14 kq14 => ?_
      refine W_seq fun kz15 kq15 => ?_
      refine W_region [10, 11, 12] fun R hR => ?_   -- r10
      simp only [go_sem, llPV, hb0, hmade, hmany, hb1]
      refine hR _ _ (kq15 _ _ ?_); clear hR R; try clear kq15 kz15
      try simp only [go_sem, llPV, hb0, hmade, hmany, hb1]
      refine W_block ?_
      obtain ⟨lss, hls⟩ : ∃ z, z = [leagues, made, made] := ⟨_, rfl⟩
      obtain ⟨nss, hns⟩ : ∃ z, z = [n, many, n] := ⟨_, rfl⟩
      refine W_weak (Weak.keep [10, 11, 12]) ?_
      simp only [go_sem]
      refine W_weak (Weak.eq (E' := [(10, .isl (lss.map l3PV) .exact), (11, .isl (nss.map I) .exact), (12, I 0)]) (by rw [hls, hns]; simp only [List.map_cons, List.map_nil, l3PV]; first | done | rfl) rfl) ?_
      have ll : lss.length = 3 := by rw [hls]; rfl
      have lm : nss.length = 3 := by rw [hns]; rfl
      have hfl : ∀ z, z ∈ lss → z.length ≤ 10 ∧ ∀ x, x ∈ z → x.length ≤ 20 := fun z hz => by
        rw [hls] at hz; simp only [List.mem_cons, List.not_mem_nil, or_false] at hz
        have hm : made.length ≤ 10 ∧ ∀ x, x ∈ made → x.length ≤ 20 := ⟨by have := lok.ln; omega, fun x hx => by have := (lok.li x hx).2; omega⟩
        rcases hz with rfl | rfl | rfl
        · exact ⟨by first | omega | (simp at c1; omega), hin⟩
        · exact hm
        · exact hm
      clear hls hns
      refine W_loopS (α := Nat) (fun (i : Nat) => [(12, I i)]) (fun (i : Nat) => i ≤ 3) (fun (i : Nat) => 3 - i) (0) rfl (Nat.zero_le _) ?_
      rintro i hi
      refine W_seq fun kz16 kq16 => ?_
      refine W_seq fun kz17 kq17 => ?_
      refine W_region [10, 11, 12, 52] fun R hR => ?_   -- r11
      simp only [go_sem, llPV, hb0, hmade, hmany, hb1, ll]
      refine hR _ _ (kq17 _ _ ?_); clear hR R; try clear kq17 kz17
      try simp only [go_sem, llPV, hb0, hmade, hmany, hb1, ll]
      refine W_cond rfl (fun c4 => ?_) (fun c4 => ?_)
      · -- c4 true
        try simp only [nrm] at c4
        have hi' : i < 3 := by first | assumption | omega
        obtain ⟨l1, hx1⟩ : ∃ z, lss[i]? = some z := ⟨lss[i]'(by rw [ll]; exact hi'), by simp⟩
        obtain ⟨n1, hx2⟩ : ∃ z, nss[i]? = some z := ⟨nss[i]'(by rw [lm]; exact hi'), by simp⟩
        have fl := hfl _ (List.mem_of_getElem? hx1)
        obtain ⟨ma, hma⟩ : ∃ z, (moveA l1 n1).1 = z := ⟨_, rfl⟩
        obtain ⟨me, hme⟩ : ∃ z, (moveA l1 n1).2 = z := ⟨_, rfl⟩
        have hml := moveA_len fl.2 n1
        rw [hma] at hml
        refine W_skip (kq16 _ _ ?_)
        refine W_seq fun kz18 kq18 => ?_
        refine W_block ?_
        refine W_seq fun kz19 kq19 => ?_
        refine W_region [10, 11, 12, 13] fun R hR => ?_   -- r13
        simp only [go_sem, llPV, hb0, hmade, hmany, hb1, ll, hx1, hx2]
        refine GCall_of (Lists_pc Y _ l1 (by omega) (fun x hx => by have := fl.2 x hx; omega)) ?_   -- t59
        simp only [go_sem, llPV, hb0, hmade, hmany, hb1, ll, hx1, hx2]
        refine hR _ _ (kq19 _ _ ?_); clear hR R; try clear kq19 kz19
        try simp only [go_sem, llPV, hb0, hmade, hmany, hb1, ll, hx1, hx2]
        refine W_seq fun kz20 kq20 => ?_
        refine W_region [10, 11, 12, 13, 14, 15] fun R hR => ?_   -- r14
        simp only [go_sem, llPV, hb0, hmade, hmany, hb1, ll, hx1, hx2]
        refine GCall_of (PC.val (v' := .tuple [lls ma, I me]) (Move_pc Y _ l1 n1 (by omega) (fun x hx => by have := fl.2 x hx; omega)) (by rw [hma, hme])) ?_   -- t66
        simp only [go_sem, llPV, hb0, hmade, hmany, hb1, ll, hx1, hx2]
        refine hR _ _ (kq20 _ _ ?_); clear hR R; try clear kq20 kz20
        try simp only [go_sem, llPV, hb0, hmade, hmany, hb1, ll, hx1, hx2]
        refine W_seq fun kz21 kq21 => ?_
        refine W_draw [10, 11, 12, 13, 14, 15, 16, 17] [0, 1, 2, 3, 4, 5, 6, 7, 8, 9, 10, 11, 12, 13] [] [[], [], [0, 1], [0, 1, 2], [], [], [4, 5], [4, 5, 6], [0, 1, 2, 3, 4, 5, 6, 7], [0, 1, 2, 3, 4, 5, 6, 7, 8], [0, 1, 2, 3, 4, 5, 6, 7, 8, 9], [0, 1, 2, 3, 4, 5, 6, 7, 8, 9], [0, 1, 2, 3, 4, 5, 6, 7, 8, 9, 10], [0, 1, 2, 3, 4, 5, 6, 7, 8, 9, 10, 11, 12]] mixed (by kernel_rfl) fun R hR => ?_   -- r15
        simp only [go_sem, llPV, hb0, hmade, hmany, hb1, ll, hx1, hx2]
        refine GCall_of (PC.val (v' := .tuple [lls ma, I me]) (rMove_pc Y _ l1 n1 (by omega) (fun x hx => by have := fl.2 x hx; omega)) (by rw [hma, hme])) ?_   -- t78
        simp only [go_sem, llPV, hb0, hmade, hmany, hb1, ll, hx1, hx2]
        try refine And.intro (by repeat' (first | refine And.intro ?_ ?_ | exact GOr_right (fun _ => by simp only [go_sem, llPV, hb0, hmade, hmany, hb1, ll, hx1, hx2]))) ?_
        refine hR _ _ (kq21 _ _ ?_); clear hR R; try clear kq21 kz21
        try simp only [go_sem, llPV, hb0, hmade, hmany, hb1, ll, hx1, hx2]
        refine W_seq fun kz22 kq22 => ?_
        refine W_region [10, 11, 12, 98] fun R hR => ?_   -- r16
        simp only [go_sem, llPV, hb0, hmade, hmany, hb1, ll, hx1, hx2]
        refine GCall_of (PC.val (v' := .bool true) (EqLists_pc Y _ ma ma .ro .ro (by omega) (fun x hx => by have := hml.2 x hx; omega)) (by simp)) ?_   -- t87
        simp only [go_sem, llPV, hb0, hmade, hmany, hb1, ll, hx1, hx2]
        refine GCall_of (PC.val (v' := .bool true) (EqLists_pc Y _ l1 l1 .ro .ro (by omega) (fun x hx => by have := fl.2 x hx; omega)) (by simp)) ?_   -- t96
        simp only [go_sem, llPV, hb0, hmade, hmany, hb1, ll, hx1, hx2]
        refine hR _ _ (kq22 _ _ ?_); clear hR R; try clear kq22 kz22
        try simp only [go_sem, llPV, hb0, hmade, hmany, hb1, ll, hx1, hx2]
        refine W_cond rfl (fun c5 => ?_) (fun c5 => ?_)
        · -- c5 true
          try simp only [nrm] at c5
          exfalso
          simp at c5
        · -- c5 false
          try simp only [nrm] at c5
          refine W_skip (kq18 _ _ ?_)
          refine W_region [10, 11, 12] fun R hR => ?_   -- r12
          simp only [go_sem, llPV, hb0, hmade, hmany, hb1, ll, hx1, hx2]
          try simp (disch := omega) only [wrapI, wrapU]
          refine hR _ _ ?_; clear hR R
          try simp only [go_sem, llPV, hb0, hmade, hmany, hb1, ll, hx1, hx2]
          refine ⟨i + 1, ?_, by (try simp only []); omega, ?_⟩
          · refine Weak.trans (Weak.cutX 1 0 (by omega) (by omega) hcl (by simp only [go_sem] <;> omega) (by simp only [go_sem] <;> omega)) ?_
            simp only [go_sem]
            exact Weak.eq (by first | rfl | (simp only [go_sem]; done) | (simp only [go_sem]; rfl) | (simp [go_sem]; done) | (simp [go_sem]; omega)) (by first | rfl | (simp only [go_sem]; done) | (simp [go_sem]; done))
          · try dsimp only
            omega
      · -- c4 false
        try simp only [nrm] at c4
        refine W_exit ?_
        simp only [go_sem, llPV, hb0, hmade, hmany, hb1, ll]
        refine kq14 _ _ ?_
        refine W_seq fun kz23 kq23 => ?_
        refine W_region [6] fun R hR => ?_   -- r18
        simp only [go_sem, llPV, hb0, hmade, hmany, hb1, ll]
        refine GCall_of (awake_pc Y _) ?_   -- t99
        simp only [go_sem, llPV, hb0, hmade, hmany, hb1, ll]
        refine hR _ _ (kq23 _ _ ?_); clear hR R; try clear kq23 kz23
        try simp only [go_sem, llPV, hb0, hmade, hmany, hb1, ll]
        refine W_ret ?_
        simp only [go_sem, llPV, hb0, hmade, hmany, hb1, ll]
        refine ⟨.inr (by trivial), ?_⟩
        first | refine Fin_same hcl rfl (Wk_eq ?_ (by simp only [go_sem])) | refine Fin_self hcl rfl (Wk_eq ?_ (by simp only [go_sem]))
        try simp only [go_sem]
        all_goals
          first | rfl | (simp_all; done) | (simp_all; omega)
end Go.Proofs.Ytgelnjmddabgpaa
namespace Go.Proofs.Ytgelnjmddabgpaa
open Go Go.RowKit
theorem rdMarksMovesArgs : All2 (fun t R => Rd Try.prog t R) Try.f7.params.toList [fun p => ∃ ls : List (List Int), p = lls ls ∧ ls.length * 24 ≤ 140737488351232 ∧ ∀ x, x ∈ ls → intsSz x, fun p => ∃ n : Int, p = I n, fun p => ∃ xs : List Int, p = ints xs ∧ intsSz xs] :=
  .cons rdLists (.cons rdInt (.cons rdInts .nil))
set_option maxHeartbeats 4000000 in
theorem MarksMoves_walk : ∀ qs, AllR [fun p => ∃ ls : List (List Int), p = lls ls ∧ ls.length * 24 ≤ 140737488351232 ∧ ∀ x, x ∈ ls → intsSz x, fun p => ∃ n : Int, p = I n, fun p => ∃ xs : List Int, p = ints xs ∧ intsSz xs] qs → ∃ σ', PC Try.prog noY 7 qs Sg.zero (.bool true) σ' := by
  intro qs hq
  obtain ⟨px0, qs, rfl, ⟨x0, hx0, sx0, rx0⟩, hq⟩ := allR_cons hq
  obtain ⟨px1, qs, rfl, ⟨x1, hx1⟩, hq⟩ := allR_cons hq
  obtain ⟨px2, qs, rfl, ⟨x2, hx2, sx2⟩, hq⟩ := allR_cons hq
  obtain rfl := allR_nil hq
  subst hx0 hx1 hx2
  exact ⟨_, MarksMoves_pc noY _ x0 x1 x2 (by omega) (fun x hx => by have := rx0 x hx; unfold intsSz at this; omega) (by unfold intsSz at sx2; omega)⟩
theorem MarksMoves_lifted (os : Os) (started : os.Started) (H : Type) (enc : TypeId × Value → H) :
    ReturnsInHanded {} Try.checked os 7 .any (Rows.marksMovesSpec.pre6 enc Try.prog Try.f7 Rows.marksMovesRow.domain false) (Rows.marksMovesSpec.post enc Try.prog Try.f7 false true false false) :=
  law_lifted (C := Try.checked) own started (by kernel_rfl) Try.func7 rfl laidOut (by kernel_rfl) rdMarksMovesArgs rfl Try.underlying4
    (fun ds h => match ds, h with | [_, _, _], _ => rfl)
    (ChangeSpec.witness6 (enc := enc) (C := Try.checked) false ⟨#[], #[.slice none 0 0, .int .i64 0, .slice none 0 0], []⟩ 8 (by kernel_rfl) (by kernel_rfl) (by kernel_rfl) (by kernel_rfl))
    MarksMoves_walk
theorem MarksMoves_holds : Rows.MarksMovesSaid :=
  OpenClaim.holds_of_wide 7 Try.f7 rfl rfl rfl rfl rfl rfl rfl ⟨rfl, rfl, rfl, rfl, rfl⟩ rfl rfl rfl rfl rfl (by kernel_rfl) Try.func7 (by kernel_rfl)
    (of_decide_eq_true (by kernel_rfl)) (by unfold Func.isWrapper; first | (rw [if_pos (by decide +kernel)]; kernel_rfl) | (rw [if_neg (by decide +kernel)]; exact ⟨rfl, rfl⟩))
    (fun os started H enc _ => MarksMoves_lifted os started H enc)
end Go.Proofs.Ytgelnjmddabgpaa
