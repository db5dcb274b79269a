/-
  The law SongPrefs: whatever comes in, it answers true and leaves what came in as it was.
  The law SongPrefs, walked: runoffs and duels.
-/
import Derived.Test.YtnolifglhhjdnaaPf
import Derived.CallsIn
import Derived.RangeFuncLeaves
import Derived.RangeFuncRecord
import Derived.OrdersIn
import Derived.Below
import Derived.Laws.World
import Derived.Laws.StructEq
import Derived.Laws.Append
import Derived.MapKept
import Derived.ProofKit
import Derived.Carry
import Derived.Handed
import Derived.ChangeCalls
import Derived.RangeFuncIn
import Derived.RangeFuncNested
import Derived.Test.YtnolifglhhjdnaaProg
import Derived.KernelRfl
import Derived.IntWalk
import Derived.Sort.OwnSortedInts
import Derived.Lib.SlicesCompact
import Derived.Test.YtnolifglhhjdnaaRows
import Derived.Shelf.Sort.Plain
import Derived.Shelf.Slices.In.SortNone
import Derived.Shelf.Small.Bits
import Derived.JoinedOf
set_option linter.unusedSimpArgs false
set_option linter.unusedVariables false
namespace Go.Proofs.Ytnolifglhhjdnaa
open Go Go.RowKit
set_option maxRecDepth 100000
def l3PV (ls : List (List Int)) : PV := .isl (ls.map llPV) .ro
theorem clean_l3 {a b c : Nat} (ls : List (List Int)) : Clean a b c (l3PV ls) := Clean.map noTok clean_ll
theorem okC_l3 {xs : List (List (List Int))} : okC 1 (xs.map l3PV) = True := okC_map fun x => by simp [okC, l3PV, PV.cells, PV.scalar]
theorem cA_l3 {a b c : Nat} {xs : List (List (List Int))} : CleanAll a b c (xs.map l3PV) = True := CleanAll_map clean_l3
theorem roL_l3 {xs : List (List (List Int))} : PV.roL (xs.map l3PV) = xs.map l3PV := roL_enc fun x => by simp only [l3PV, ro_isl, roL_ll]
attribute [go_sem] okC_l3 cA_l3 roL_l3 l3PV
theorem runoffA_len (n : Int) (ls : List (List Int)) : (runoffA n ls).1.length ≤ 8 := by
  unfold runoffA
  split
  · simp
  · rename_i h
    have := (pfV_iff.1 (by simpa using h)).nb
    rw [runU_len]; omega
theorem duelsA_len (n : Int) (ls : List (List Int)) : (duelsA n ls).1.length ≤ 8 ∧ ∀ x, x ∈ (duelsA n ls).1 → x.length ≤ 8 := by
  unfold duelsA
  split
  · exact ⟨by simp, fun x hx => by cases hx⟩
  · rename_i h
    have := (pfV_iff.1 (by simpa using h)).nb
    refine ⟨by rw [overP_len]; omega, fun x hx => ?_⟩
    obtain ⟨a, _, rfl⟩ := List.mem_map.1 hx
    unfold rowD
    rw [rowG_len]; omega
set_option maxHeartbeats 8000000 in
theorem SongPrefs_pc (Y : YEnv) (σ : Sg) (hA : ∀ (Y : YEnv) (σ : Sg), PC Try.prog Y 18 [] σ (.bool true) σ) (songs : Int) (prefs : List (List Int)) (nums : List Int) (hl : prefs.length < 2 ^ 50) (hx8 : ∀ x, x ∈ prefs → x.length < 2 ^ 50) (hn : nums.length < 2 ^ 60) :
    PC Try.prog Y 8 [I songs, lls prefs, ints nums] σ (.bool true) (σ) := by
  refine PC_of_W Try.func8 rfl (by kernel_rfl) Try.ntmps8 (by simp) fun hcl hca => ?_
  obtain ⟨b0, hb0⟩ : ∃ z, drumB nums 2685821657736338717 = z := ⟨_, rfl⟩
  obtain ⟨many, hmany⟩ : ∃ zz, (mid 1 6 b0).1 = zz := ⟨_, rfl⟩
  obtain ⟨b1, hb1⟩ : ∃ zz, (mid 1 6 b0).2 = zz := ⟨_, rfl⟩
  have dmany := mid_bd 1 6 (by omega) b0
  simp only [hmany] at dmany
  obtain ⟨N, hN⟩ : ∃ z : Nat, many = z := ⟨many.toNat, by omega⟩
  subst hN
  obtain ⟨made, hmade⟩ : ∃ zz, (prefsD N 12 b1).1 = zz := ⟨_, rfl⟩
  obtain ⟨b2, hb2⟩ : ∃ zz, (prefsD N 12 b1).2 = zz := ⟨_, rfl⟩
  have dmade := prefsD_ok N 12 (by omega) b1
  simp only [hmade] at dmade
  refine W_seq fun kz1 kq1 => ?_
  refine W_region [0, 1, 2] fun R hR => ?_   -- r0
  simp only [go_sem, llPV, hb0, hmany, hb1, hmade, hb2]
  refine hR _ _ (kq1 _ _ ?_); clear hR R; try clear kq1 kz1
  try simp only [go_sem, llPV, hb0, hmany, hb1, hmade, hb2]
  refine W_seq fun kz2 kq2 => ?_
  refine W_seq fun kz3 kq3 => ?_
  refine W_regionJ [0, 1, 2, 38] [(38, .bool ((decide (40 < prefs.length) && decide (prefs.length ≤ 200)) || decide (209 < prefs.length)))] ?_ fun R hR => ?_   -- r1
  · refine kq3 _ _ ?_
    simp only [go_sem, llPV, hb0, hmany, hb1, hmade, hb2]
    refine W_cond rfl (fun c1 => ?_) (fun c1 => ?_)
    · -- c1 true
      try simp only [nrm] at c1
      refine W_seq fun kz4 kq4 => ?_
      refine W_region [6] fun R hR => ?_   -- r2
      simp only [go_sem, llPV, hb0, hmany, hb1, hmade, hb2]
      refine GCall_of (hA Y _) ?_   -- t39
      simp only [go_sem, llPV, hb0, hmany, hb1, hmade, hb2]
      refine hR _ _ (kq4 _ _ ?_); clear hR R; try clear kq4 kz4
      try simp only [go_sem, llPV, hb0, hmany, hb1, hmade, hb2]
      refine W_ret ?_
      simp only [go_sem, llPV, hb0, hmany, hb1, hmade, hb2]
      refine ⟨.inr (by trivial), ?_⟩
      first | refine Fin_same hcl rfl (Wk_eq ?_ (by simp only [go_sem])) | refine Fin_self hcl rfl (Wk_eq ?_ (by simp only [go_sem]))
      try simp only [go_sem]
      all_goals
        first | rfl | (simp_all; done) | (simp_all; omega)
    · -- c1 false
      try simp only [nrm] at c1
      refine W_skip (kq2 _ _ ?_)
      refine W_seq fun kz5 kq5 => ?_
      refine W_seq fun kz6 kq6 => ?_
      refine W_region [0, 1, 2, 7] fun R hR => ?_   -- r3
      simp only [go_sem, llPV, hb0, hmany, hb1, hmade, hb2]
      refine hR _ _ (kq6 _ _ ?_); clear hR R; try clear kq6 kz6
      try simp only [go_sem, llPV, hb0, hmany, hb1, hmade, hb2]
      refine W_block ?_
      refine W_loopS (α := Nat) (fun (i : Nat) => [(7, I i)]) (fun (i : Nat) => i ≤ prefs.length ∧ ∀ x, x ∈ prefs.take i → x.length ≤ 20) (fun (i : Nat) => prefs.length - i) (0) rfl (⟨Nat.zero_le _, fun x hx => by simp at hx⟩) ?_
      rintro i ⟨hi, hin⟩
      refine W_seq fun kz7 kq7 => ?_
      refine W_seq fun kz8 kq8 => ?_
      refine W_region [0, 1, 2, 7, 43] fun R hR => ?_   -- r4
      simp only [go_sem, llPV, hb0, hmany, hb1, hmade, hb2]
      refine hR _ _ (kq8 _ _ ?_); clear hR R; try clear kq8 kz8
      try simp only [go_sem, llPV, hb0, hmany, hb1, hmade, hb2]
      refine W_cond rfl (fun c2 => ?_) (fun c2 => ?_)
      · -- c2 true
        try simp only [nrm] at c2
        have hi' : i < prefs.length := by first | assumption | omega
        obtain ⟨l, hx⟩ : ∃ l, prefs[i]? = some l := ⟨prefs[i], by simp [hi']⟩
        have hdrop : prefs.drop i = l :: prefs.drop (i + 1) := by
          rw [List.drop_eq_getElem_cons hi']; congr 1; exact (List.getElem?_eq_some_iff.1 hx).2
        have hl50 := hx8 l (List.mem_of_getElem? hx)
        refine W_skip (kq7 _ _ ?_)
        refine W_seq fun kz9 kq9 => ?_
        refine W_block ?_
        refine W_seq fun kz10 kq10 => ?_
        refine W_region [0, 1, 2, 7, 51] fun R hR => ?_   -- r6
        simp only [go_sem, llPV, hb0, hmany, hb1, hmade, hb2, hx]
        refine hR _ _ (kq10 _ _ ?_); clear hR R; try clear kq10 kz10
        try simp only [go_sem, llPV, hb0, hmany, hb1, hmade, hb2, hx]
        refine W_cond rfl (fun c3 => ?_) (fun c3 => ?_)
        · -- c3 true
          try simp only [nrm] at c3
          refine W_seq fun kz11 kq11 => ?_
          refine W_region [6] fun R hR => ?_   -- r7
          simp only [go_sem, llPV, hb0, hmany, hb1, hmade, hb2, hx]
          refine GCall_of (hA Y _) ?_   -- t52
          simp only [go_sem, llPV, hb0, hmany, hb1, hmade, hb2, hx]
          refine hR _ _ (kq11 _ _ ?_); clear hR R; try clear kq11 kz11
          try simp only [go_sem, llPV, hb0, hmany, hb1, hmade, hb2, hx]
          refine W_ret ?_
          simp only [go_sem, llPV, hb0, hmany, hb1, hmade, hb2, hx]
          refine ⟨.inr (by trivial), ?_⟩
          first | refine Fin_same hcl rfl (Wk_eq ?_ (by simp only [go_sem])) | refine Fin_self hcl rfl (Wk_eq ?_ (by simp only [go_sem]))
          try simp only [go_sem]
          all_goals
            first | rfl | (simp_all; done) | (simp_all; omega)
        · -- c3 false
          try simp only [nrm] at c3
          refine W_skip (kq9 _ _ ?_)
          refine W_region [0, 1, 2, 7] fun R hR => ?_   -- r5
          simp only [go_sem, llPV, hb0, hmany, hb1, hmade, hb2, hx]
          try simp (disch := omega) only [wrapI, wrapU]
          refine hR _ _ ?_; clear hR R
          try simp only [go_sem, llPV, hb0, hmany, hb1, hmade, hb2, hx]
          refine ⟨i + 1, ?_, by (try simp only []); omega, ?_⟩
          · first | exact Weak.refl | exact Weak.eq (by first | rfl | (simp only [go_sem]; done) | (simp only [go_sem]; rfl) | (simp [go_sem]; done) | (simp [go_sem]; omega)) (by first | rfl | (simp only [go_sem]; done) | (simp [go_sem]; done))
          · try dsimp only
            refine ⟨hi', fun x hx2 => ?_⟩
            rw [List.take_add_one, hx] at hx2
            rcases List.mem_append.1 hx2 with h | h
            · exact hin x h
            · simp at h; subst h; first | omega | (simp at c3; omega)
      · -- c2 false
        try simp only [nrm] at c2
        have hie : i = prefs.length := by first | omega | (simp at c2; omega)
        rw [hie, List.take_length] at hin
        refine W_exit ?_
        simp only [go_sem, llPV, hb0, hmany, hb1, hmade, hb2]
        refine kq5 _ _ ?_
        refine W_seq fun kz12 kq12 => ?_
        refine W_region [0, 1, 8] fun R hR => ?_   -- r8
        simp only [go_sem, llPV, hb0, hmany, hb1, hmade, hb2]
        refine GCall_of (DrumOf_pc Y _ nums hn) ?_   -- t54
        simp only [go_sem, llPV, hb0, hmany, hb1, hmade, hb2]
        refine hR _ _ (kq12 _ _ ?_); clear hR R; try clear kq12 kz12
        try simp only [go_sem, llPV, hb0, hmany, hb1, hmade, hb2]
        refine W_seq fun kz13 kq13 => ?_
        refine W_region [0, 1, 8, 9] fun R hR => ?_   -- r9
        simp only [go_sem, llPV, hb0, hmany, hb1, hmade, hb2]
        refine GCall_of (Mid_pc Y _ _ b0 (Sg.get_ext0 ..) 1 6 (by omega) (by omega) (by omega) (by omega)) ?_   -- t56
        simp only [go_sem, llPV, hb0, hmany, hb1, hmade, hb2]
        refine hR _ _ (kq13 _ _ ?_); clear hR R; try clear kq13 kz13
        try simp only [go_sem, llPV, hb0, hmany, hb1, hmade, hb2]
        refine W_seq fun kz14 kq14 => ?_
        refine W_region [10, 11] fun R hR => ?_   -- r10
        simp only [go_sem, llPV, hb0, hmany, hb1, hmade, hb2]
        refine GCall_of (PrefsOf_pc Y _ _ b1 (Sg.get_ext0 ..) N (by omega) 12 (by omega) (by omega)) ?_   -- t64
        simp only [go_sem, llPV, hb0, hmany, hb1, hmade, hb2]
        refine hR _ _ (kq14 _ _ ?_); clear hR R; try clear kq14 kz14
        try simp only [go_sem, llPV, hb0, hmany, hb1, hmade, hb2]
        refine W_seq fun kz15 kq15 => ?_
        refine W_seq fun kz16 kq16 => ?_
        refine W_region [10, 11, 12] fun R hR => ?_   -- r11
        simp only [go_sem, llPV, hb0, hmany, hb1, hmade, hb2]
        refine hR _ _ (kq16 _ _ ?_); clear hR R; try clear kq16 kz16
        try simp only [go_sem, llPV, hb0, hmany, hb1, hmade, hb2]
        refine W_block ?_
        obtain ⟨lss, hls⟩ : ∃ z, z = [prefs, made, prefs] := ⟨_, rfl⟩
        obtain ⟨nss, hns⟩ : ∃ z, z = [songs, (N : Int), (N : Int)] := ⟨_, rfl⟩
        refine W_weak (Weak.keep [10, 11, 12]) ?_
        simp only [go_sem]
        refine W_weak (Weak.eq (E' := [(10, .isl (nss.map I) .exact), (11, .isl (lss.map l3PV) .exact), (12, I 0)]) (by rw [hls, hns]; simp only [List.map_cons, List.map_nil, l3PV]; first | done | rfl) rfl) ?_
        have ll : lss.length = 3 := by rw [hls]; rfl
        have lm : nss.length = 3 := by rw [hns]; rfl
        have hfl : ∀ z, z ∈ lss → z.length ≤ 209 ∧ ∀ x, x ∈ z → x.length ≤ 20 := fun z hz => by
          rw [hls] at hz; simp only [List.mem_cons, List.not_mem_nil, or_false] at hz
          have hm : made.length ≤ 209 ∧ ∀ x, x ∈ made → x.length ≤ 20 := ⟨by have := dmade.1; omega, fun x hx => by have := (dmade.2 x hx).2; omega⟩
          have hp : prefs.length ≤ 209 ∧ ∀ x, x ∈ prefs → x.length ≤ 20 := ⟨by first | omega | (simp at c1; omega), hin⟩
          rcases hz with rfl | rfl | rfl
          · exact hp
          · exact hm
          · exact hp
        clear hls hns
        refine W_loopS (α := Nat) (fun (i : Nat) => [(12, I i)]) (fun (i : Nat) => i ≤ 3) (fun (i : Nat) => 3 - i) (0) rfl (Nat.zero_le _) ?_
        rintro i hi
        refine W_seq fun kz17 kq17 => ?_
        refine W_seq fun kz18 kq18 => ?_
        refine W_region [10, 11, 12, 70] fun R hR => ?_   -- r12
        simp only [go_sem, llPV, hb0, hmany, hb1, hmade, hb2, ll, lm]
        refine hR _ _ (kq18 _ _ ?_); clear hR R; try clear kq18 kz18
        try simp only [go_sem, llPV, hb0, hmany, hb1, hmade, hb2, ll, lm]
        refine W_cond rfl (fun c4 => ?_) (fun c4 => ?_)
        · -- c4 true
          try simp only [nrm] at c4
          have hi' : i < 3 := by first | assumption | omega
          obtain ⟨l1, hx1⟩ : ∃ z, lss[i]? = some z := ⟨lss[i]'(by rw [ll]; exact hi'), by simp⟩
          obtain ⟨n1, hx2⟩ : ∃ z, nss[i]? = some z := ⟨nss[i]'(by rw [lm]; exact hi'), by simp⟩
          have fl := hfl _ (List.mem_of_getElem? hx1)
          obtain ⟨ra, hra⟩ : ∃ z, (runoffA n1 l1).1 = z := ⟨_, rfl⟩
          obtain ⟨rb, hrb⟩ : ∃ z, (runoffA n1 l1).2.1 = z := ⟨_, rfl⟩
          obtain ⟨rc, hrc⟩ : ∃ z, (runoffA n1 l1).2.2 = z := ⟨_, rfl⟩
          obtain ⟨da, hda⟩ : ∃ z, (duelsA n1 l1).1 = z := ⟨_, rfl⟩
          obtain ⟨db, hdb⟩ : ∃ z, (duelsA n1 l1).2.1 = z := ⟨_, rfl⟩
          obtain ⟨dc, hdc⟩ : ∃ z, (duelsA n1 l1).2.2 = z := ⟨_, rfl⟩
          have hrl := runoffA_len n1 l1
          rw [hra] at hrl
          have hdl := duelsA_len n1 l1
          rw [hda] at hdl
          refine W_skip (kq17 _ _ ?_)
          refine W_seq fun kz19 kq19 => ?_
          refine W_block ?_
          refine W_seq fun kz20 kq20 => ?_
          refine W_region [10, 11, 12, 13] fun R hR => ?_   -- r14
          simp only [go_sem, llPV, hb0, hmany, hb1, hmade, hb2, ll, lm, hx1, hx2]
          refine GCall_of (Lists_pc Y _ l1 (by omega) (fun x hx => by have := fl.2 x hx; omega)) ?_   -- t77
          simp only [go_sem, llPV, hb0, hmany, hb1, hmade, hb2, ll, lm, hx1, hx2]
          refine hR _ _ (kq20 _ _ ?_); clear hR R; try clear kq20 kz20
          try simp only [go_sem, llPV, hb0, hmany, hb1, hmade, hb2, ll, lm, hx1, hx2]
          refine W_seq fun kz21 kq21 => ?_
          refine W_region [10, 11, 12, 13, 14, 15, 16] fun R hR => ?_   -- r15
          simp only [go_sem, llPV, hb0, hmany, hb1, hmade, hb2, ll, lm, hx1, hx2]
          refine GCall_of (PC.val (v' := .tuple [ints ra, I rb, I rc]) (Runoff_pc Y _ n1 l1 (by omega) (fun x hx => by have := fl.2 x hx; omega)) (by rw [hra, hrb, hrc])) ?_   -- t84
          simp only [go_sem, llPV, hb0, hmany, hb1, hmade, hb2, ll, lm, hx1, hx2]
          refine hR _ _ (kq21 _ _ ?_); clear hR R; try clear kq21 kz21
          try simp only [go_sem, llPV, hb0, hmany, hb1, hmade, hb2, ll, lm, hx1, hx2]
          refine W_seq fun kz22 kq22 => ?_
          refine W_draw [10, 11, 12, 13, 14, 15, 16, 17, 18, 19] [0, 1, 2, 3, 4, 5, 6, 7, 8, 9, 10, 11, 12, 13, 14, 15] [] [[], [], [0, 1], [0, 1, 2], [], [], [4, 5], [4, 5, 6], [0, 1, 2, 3, 4, 5, 6, 7], [0, 1, 2, 3, 4, 5, 6, 7, 8], [0, 1, 2, 3, 4, 5, 6, 7, 8, 9], [0, 1, 2, 3, 4, 5, 6, 7, 8, 9], [0, 1, 2, 3, 4, 5, 6, 7, 8, 9], [0, 1, 2, 3, 4, 5, 6, 7, 8, 9, 10], [0, 1, 2, 3, 4, 5, 6, 7, 8, 9, 10, 11, 13], [0, 1, 2, 3, 4, 5, 6, 7, 8, 9, 10, 11, 12, 13, 14]] mixed (by kernel_rfl) fun R hR => ?_   -- r16
          simp only [go_sem, llPV, hb0, hmany, hb1, hmade, hb2, ll, lm, hx1, hx2]
          refine GCall_of (PC.val (v' := .tuple [ints ra, I rb, I rc]) (rRunoff_pc Y _ n1 l1 (by omega) (fun x hx => by have := fl.2 x hx; omega)) (by rw [hra, hrb, hrc])) ?_   -- t97
          simp only [go_sem, llPV, hb0, hmany, hb1, hmade, hb2, ll, lm, hx1, hx2]
          try refine And.intro (by repeat' (first | refine And.intro ?_ ?_ | exact GOr_right (fun _ => by simp only [go_sem, llPV, hb0, hmany, hb1, hmade, hb2, ll, lm, hx1, hx2]))) ?_
          refine hR _ _ (kq22 _ _ ?_); clear hR R; try clear kq22 kz22
          try simp only [go_sem, llPV, hb0, hmany, hb1, hmade, hb2, ll, lm, hx1, hx2]
          refine W_seq fun kz23 kq23 => ?_
          refine W_region [10, 11, 12, 13, 14, 15, 16, 17, 18, 19, 20, 21, 22] fun R hR => ?_   -- r17
          simp only [go_sem, llPV, hb0, hmany, hb1, hmade, hb2, ll, lm, hx1, hx2]
          refine GCall_of (PC.val (v' := .tuple [lls da, I db, I dc]) (Duels_pc Y _ n1 l1 (by omega) (fun x hx => by have := fl.2 x hx; omega)) (by rw [hda, hdb, hdc])) ?_   -- t107
          simp only [go_sem, llPV, hb0, hmany, hb1, hmade, hb2, ll, lm, hx1, hx2]
          refine hR _ _ (kq23 _ _ ?_); clear hR R; try clear kq23 kz23
          try simp only [go_sem, llPV, hb0, hmany, hb1, hmade, hb2, ll, lm, hx1, hx2]
          refine W_seq fun kz24 kq24 => ?_
          refine W_draw [10, 11, 12, 13, 14, 15, 16, 17, 18, 19, 20, 21, 22, 23, 24, 25] [0, 1, 2, 3, 4, 5, 6, 7, 8, 9, 10, 11, 12, 13, 14, 15] [] [[], [], [0, 1], [0, 1, 2], [], [], [4, 5], [4, 5, 6], [0, 1, 2, 3, 4, 5, 6, 7], [0, 1, 2, 3, 4, 5, 6, 7, 8], [0, 1, 2, 3, 4, 5, 6, 7, 8, 9], [0, 1, 2, 3, 4, 5, 6, 7, 8, 9], [0, 1, 2, 3, 4, 5, 6, 7, 8, 9], [0, 1, 2, 3, 4, 5, 6, 7, 8, 9, 10], [0, 1, 2, 3, 4, 5, 6, 7, 8, 9, 10, 11, 13], [0, 1, 2, 3, 4, 5, 6, 7, 8, 9, 10, 11, 12, 13, 14]] mixed (by kernel_rfl) fun R hR => ?_   -- r18
          simp only [go_sem, llPV, hb0, hmany, hb1, hmade, hb2, ll, lm, hx1, hx2]
          refine GCall_of (PC.val (v' := .tuple [lls da, I db, I dc]) (rDuels_pc Y _ n1 l1 (by omega) (fun x hx => by have := fl.2 x hx; omega)) (by rw [hda, hdb, hdc])) ?_   -- t120
          simp only [go_sem, llPV, hb0, hmany, hb1, hmade, hb2, ll, lm, hx1, hx2]
          try refine And.intro (by repeat' (first | refine And.intro ?_ ?_ | exact GOr_right (fun _ => by simp only [go_sem, llPV, hb0, hmany, hb1, hmade, hb2, ll, lm, hx1, hx2]))) ?_
          refine hR _ _ (kq24 _ _ ?_); clear hR R; try clear kq24 kz24
          try simp only [go_sem, llPV, hb0, hmany, hb1, hmade, hb2, ll, lm, hx1, hx2]
          refine W_seq fun kz25 kq25 => ?_
          refine W_region [10, 11, 12, 162] fun R hR => ?_   -- r19
          simp only [go_sem, llPV, hb0, hmany, hb1, hmade, hb2, ll, lm, hx1, hx2]
          refine GCall_of (PC.val (v' := .bool true) (EqInts_pc Y _ ra ra .ro .ro (by omega)) (by simp)) ?_   -- t145
          simp only [go_sem, llPV, hb0, hmany, hb1, hmade, hb2, ll, lm, hx1, hx2]
          refine GCall_of (PC.val (v' := .bool true) (EqLists_pc Y _ da da .ro .ro (by omega) (fun x hx => by have := hdl.2 x hx; omega)) (by simp)) ?_   -- t151
          simp only [go_sem, llPV, hb0, hmany, hb1, hmade, hb2, ll, lm, hx1, hx2]
          refine GCall_of (PC.val (v' := .bool true) (EqLists_pc Y _ l1 l1 .ro .ro (by omega) (fun x hx => by have := fl.2 x hx; omega)) (by simp)) ?_   -- t160
          simp only [go_sem, llPV, hb0, hmany, hb1, hmade, hb2, ll, lm, hx1, hx2]
          refine hR _ _ (kq25 _ _ ?_); clear hR R; try clear kq25 kz25
          try simp only [go_sem, llPV, hb0, hmany, hb1, hmade, hb2, ll, lm, hx1, hx2]
          refine W_cond rfl (fun c5 => ?_) (fun c5 => ?_)
          · -- c5 true
            try simp only [nrm] at c5
            exfalso
            simp at c5
          · -- c5 false
            try simp only [nrm] at c5
            refine W_skip (kq19 _ _ ?_)
            refine W_region [10, 11, 12] fun R hR => ?_   -- r13
            simp only [go_sem, llPV, hb0, hmany, hb1, hmade, hb2, ll, lm, hx1, hx2]
            try simp (disch := omega) only [wrapI, wrapU]
            refine hR _ _ ?_; clear hR R
            try simp only [go_sem, llPV, hb0, hmany, hb1, hmade, hb2, ll, lm, hx1, hx2]
            refine ⟨i + 1, ?_, by (try simp only []); omega, ?_⟩
            · refine Weak.trans (Weak.cutX 1 0 (by omega) (by omega) hcl (by simp only [go_sem] <;> omega) (by simp only [go_sem] <;> omega)) ?_
              simp only [go_sem]
              exact Weak.eq (by first | rfl | (simp only [go_sem]; done) | (simp only [go_sem]; rfl) | (simp [go_sem]; done) | (simp [go_sem]; omega)) (by first | rfl | (simp only [go_sem]; done) | (simp [go_sem]; done))
            · try dsimp only
              omega
        · -- c4 false
          try simp only [nrm] at c4
          refine W_exit ?_
          simp only [go_sem, llPV, hb0, hmany, hb1, hmade, hb2, ll, lm]
          refine kq15 _ _ ?_
          refine W_seq fun kz26 kq26 => ?_
          refine W_region [6] fun R hR => ?_   -- r21
          simp only [go_sem, llPV, hb0, hmany, hb1, hmade, hb2, ll, lm]
          refine GCall_of (hA Y _) ?_   -- t163
          simp only [go_sem, llPV, hb0, hmany, hb1, hmade, hb2, ll, lm]
          refine hR _ _ (kq26 _ _ ?_); clear hR R; try clear kq26 kz26
          try simp only [go_sem, llPV, hb0, hmany, hb1, hmade, hb2, ll, lm]
          refine W_ret ?_
          simp only [go_sem, llPV, hb0, hmany, hb1, hmade, hb2, ll, lm]
          refine ⟨.inr (by trivial), ?_⟩
          first | refine Fin_same hcl rfl (Wk_eq ?_ (by simp only [go_sem])) | refine Fin_self hcl rfl (Wk_eq ?_ (by simp only [go_sem]))
          try simp only [go_sem]
          all_goals
            first | rfl | (simp_all; done) | (simp_all; omega)
  · simp only [go_sem, llPV, hb0, hmany, hb1, hmade, hb2]
    refine GWant_split (fun g1 => ?_) (fun g1 => ?_)
    · try simp only [Bool.not_eq_true', Bool.not_eq_false'] at g1
      have n1 := g1; try simp only [nrm] at n1
      simp only [go_sem, llPV, hb0, hmany, hb1, hmade, hb2, g1]
      refine GWant_split (fun g2 => ?_) (fun g2 => ?_)
      · try simp only [Bool.not_eq_true', Bool.not_eq_false'] at g2
        have n2 := g2; try simp only [nrm] at n2
        simp only [go_sem, llPV, hb0, hmany, hb1, hmade, hb2, g1, g2]
        refine hR _ ?_
        all_goals try simp only [go_sem, llPV, hb0, hmany, hb1, hmade, hb2]
        all_goals
          first | rfl | (simp [*]; done) | (simp_all; done) | (refine congrArg (fun z => [(0, I songs), (1, lls prefs), (2, ints nums), (38, PV.bool z)]) ?_; rw [Bool.eq_iff_iff]; first | (simp at g1 g2 ⊢; omega) | (simp at g1 ⊢; omega)) | (simp_all; omega)
      · try simp only [Bool.not_eq_true', Bool.not_eq_false'] at g2
        have n2 := g2; try simp only [nrm] at n2
        simp only [go_sem, llPV, hb0, hmany, hb1, hmade, hb2, g1, g2]
        refine hR _ ?_
        all_goals try simp only [go_sem, llPV, hb0, hmany, hb1, hmade, hb2]
        all_goals
          first | rfl | (simp [*]; done) | (simp_all; done) | (refine congrArg (fun z => [(0, I songs), (1, lls prefs), (2, ints nums), (38, PV.bool z)]) ?_; rw [Bool.eq_iff_iff]; first | (simp at g1 g2 ⊢; omega) | (simp at g1 ⊢; omega)) | (simp_all; omega)
    · try simp only [Bool.not_eq_true', Bool.not_eq_false'] at g1
      have n1 := g1; try simp only [nrm] at n1
      simp only [go_sem, llPV, hb0, hmany, hb1, hmade, hb2, g1]
      refine hR _ ?_
      all_goals try simp only [go_sem, llPV, hb0, hmany, hb1, hmade, hb2]
      all_goals
        first | rfl | (simp [*]; done) | (simp_all; done) | (refine congrArg (fun z => [(0, I songs), (1, lls prefs), (2, ints nums), (38, PV.bool z)]) ?_; rw [Bool.eq_iff_iff]; first | (simp at g1 g2 ⊢; omega) | (simp at g1 ⊢; omega)) | (simp_all; omega)
end Go.Proofs.Ytnolifglhhjdnaa
namespace Go.Proofs.Ytnolifglhhjdnaa
open Go Go.RowKit
theorem rdSongPrefsArgs : All2 (fun t R => Rd Try.prog t R) Try.f8.params.toList [fun p => ∃ n : Int, p = I n, fun p => ∃ ls : List (List Int), p = lls ls ∧ ls.length * 24 ≤ 140737488351232 ∧ ∀ x, x ∈ ls → intsSz x, fun p => ∃ xs : List Int, p = ints xs ∧ intsSz xs] :=
  .cons rdInt (.cons rdLists (.cons rdInts .nil))
set_option maxHeartbeats 4000000 in
theorem SongPrefs_walk : ∀ qs, AllR [fun p => ∃ n : Int, p = I n, fun p => ∃ ls : List (List Int), p = lls ls ∧ ls.length * 24 ≤ 140737488351232 ∧ ∀ x, x ∈ ls → intsSz x, fun p => ∃ xs : List Int, p = ints xs ∧ intsSz xs] qs → ∃ σ', PC Try.prog noY 8 qs Sg.zero (.bool true) σ' := by
  intro qs hq
  obtain ⟨px0, qs, rfl, ⟨x0, hx0⟩, hq⟩ := allR_cons hq
  obtain ⟨px1, qs, rfl, ⟨x1, hx1, sx1, rx1⟩, hq⟩ := allR_cons hq
  obtain ⟨px2, qs, rfl, ⟨x2, hx2, sx2⟩, hq⟩ := allR_cons hq
  obtain rfl := allR_nil hq
  subst hx0 hx1 hx2
  exact ⟨_, SongPrefs_pc noY _ awake_pc x0 x1 x2 (by omega) (fun x hx => by have := rx1 x hx; unfold intsSz at this; omega) (by unfold intsSz at sx2; omega)⟩
theorem SongPrefs_lifted (os : Os) (started : os.Started) (H : Type) (enc : TypeId × Value → H) :
    ReturnsInHanded {} Try.checked os 8 .any (Rows.songPrefsSpec.pre6 enc Try.prog Try.f8 Rows.songPrefsRow.domain false) (Rows.songPrefsSpec.post enc Try.prog Try.f8 false true false false) :=
  law_lifted (C := Try.checked) own started (by kernel_rfl) Try.func8 rfl laidOut (by kernel_rfl) rdSongPrefsArgs rfl Try.underlying4
    (fun ds h => match ds, h with | [_, _, _], _ => rfl)
    (ChangeSpec.witness6 (enc := enc) (C := Try.checked) false ⟨#[], #[.int .i64 0, .slice none 0 0, .slice none 0 0], []⟩ 8 (by kernel_rfl) (by kernel_rfl) (by kernel_rfl) (by kernel_rfl))
    SongPrefs_walk
theorem SongPrefs_holds : Rows.SongPrefsSaid :=
  OpenClaim.holds_of_wide 8 Try.f8 rfl rfl rfl rfl rfl rfl rfl ⟨rfl, rfl, rfl, rfl, rfl⟩ rfl rfl rfl rfl rfl (by kernel_rfl) Try.func8 (by kernel_rfl)
    (of_decide_eq_true (by kernel_rfl)) (by unfold Func.isWrapper; first | (rw [if_pos (by decide +kernel)]; kernel_rfl) | (rw [if_neg (by decide +kernel)]; exact ⟨rfl, rfl⟩))
    (fun os started H enc _ => SongPrefs_lifted os started H enc)
end Go.Proofs.Ytnolifglhhjdnaa
