/-
  The law BandGrants, walked: permits, one after the other, and the best choice.
  The law BandGrants: whatever comes in, it answers true and leaves what came in as it was.
-/
import Derived.Test.YtnpamcpoaklgeaaPk
import Derived.Test.YtnpamcpoaklgeaaPd
import Derived.JoinedOf
set_option linter.unusedSimpArgs false
set_option linter.unusedVariables false
namespace Go.Proofs.Ytnpamcpoaklgeaa
open Go Go.RowKit
set_option maxRecDepth 100000

set_option maxHeartbeats 8000000 in
theorem BandGrants_pc (Y : YEnv) (σ : Sg) (c : City) (l : List Band) (nums : List Int) (hc : c.In) (hl : BandsIn l) (hn : nums.length < 2 ^ 60) :
    PC Try.prog Y 8 [ctPV c, bands l, ints nums] σ (.bool true) (σ) := by
  refine PC_of_W Try.func8 rfl (by kernel_rfl) Try.ntmps8 (by simp) fun hcl hca => ?_
  obtain ⟨b0, hb0⟩ : ∃ z, drumB nums 2685821657736338717 = z := ⟨_, rfl⟩
  have hl1 := hl.1
  obtain ⟨made, hmade⟩ : ∃ zz, (cityD b0).1 = zz := ⟨_, rfl⟩
  obtain ⟨b1, hb1⟩ : ∃ zz, (cityD b0).2 = zz := ⟨_, rfl⟩
  obtain ⟨sm, hsm⟩ : ∃ zz, (bandsD made 4 b1).1 = zz := ⟨_, rfl⟩
  obtain ⟨b2, hb2⟩ : ∃ zz, (bandsD made 4 b1).2 = zz := ⟨_, rfl⟩
  have vmade : CityV made := by rw [← hmade]; exact cityD_ok b0
  have vsm : sm.length ≤ 4 ∧ ∀ b, b ∈ sm → BandV made b := by rw [← hsm]; exact bandsD_ok vmade 4 b1
  refine W_seq fun kz1 kq1 => ?_
  refine W_region [1, 2, 3] fun R hR => ?_   -- r0
  simp only [go_sem, hb0, hmade, hb1, hsm, hb2]
  refine hR _ _ (kq1 _ _ ?_); clear hR R; try clear kq1 kz1
  try simp only [go_sem, hb0, hmade, hb1, hsm, hb2]
  refine W_seq fun kz2 kq2 => ?_
  refine W_seq fun kz3 kq3 => ?_
  refine W_regionJ [1, 2, 3, 34] [(34, .bool (wideB c l || (decide (3 < l.length) && decide (l.length ≤ 8))))] ?_ fun R hR => ?_   -- r1
  · refine kq3 _ _ ?_
    simp only [go_sem, hb0, hmade, hb1, hsm, hb2]
    refine W_cond rfl (fun c1 => ?_) (fun c1 => ?_)
    · -- c1 true
      try simp only [nrm] at c1
      refine W_seq fun kz4 kq4 => ?_
      refine W_region [6] fun R hR => ?_   -- r2
      simp only [go_sem, hb0, hmade, hb1, hsm, hb2]
      refine GCall_of (lawake_pc Y _) ?_   -- t35
      simp only [go_sem, hb0, hmade, hb1, hsm, hb2]
      refine hR _ _ (kq4 _ _ ?_); clear hR R; try clear kq4 kz4
      try simp only [go_sem, hb0, hmade, hb1, hsm, hb2]
      refine W_ret ?_
      simp only [go_sem, hb0, hmade, hb1, hsm, hb2]
      refine ⟨.inr (by trivial), ?_⟩
      first | refine Fin_same hcl rfl (Wk_eq ?_ (by simp only [go_sem])) | refine Fin_self hcl rfl (Wk_eq ?_ (by simp only [go_sem]))
      try simp only [go_sem]
      all_goals
        first | rfl | (simp_all; done) | (simp_all; omega)
    · -- c1 false
      try simp only [nrm] at c1
      have hw0 : wideB c l = false := by
        rw [Bool.or_eq_false_iff] at c1; exact c1.1
      obtain ⟨w1, w2, w3, w4, w5, w6, w7⟩ := wide_not hw0
      have fewc : c.Few := ⟨w1, w2, w3, w6, w4⟩
      refine W_skip (kq2 _ _ ?_)
      refine W_seq fun kz5 kq5 => ?_
      refine W_region [1, 3, 7] fun R hR => ?_   -- r3
      simp only [go_sem, hb0, hmade, hb1, hsm, hb2]
      refine GCall_of (DrumOf_pc Y _ nums hn) ?_   -- t37
      simp only [go_sem, hb0, hmade, hb1, hsm, hb2]
      refine hR _ _ (kq5 _ _ ?_); clear hR R; try clear kq5 kz5
      try simp only [go_sem, hb0, hmade, hb1, hsm, hb2]
      refine W_seq fun kz6 kq6 => ?_
      refine W_region [1, 3, 7, 8] fun R hR => ?_   -- r4
      simp only [go_sem, hb0, hmade, hb1, hsm, hb2]
      refine GCall_of (CityOf_pc Y _ _ _ (Sg.get_ext _ _ _ _ 1)) ?_   -- t39
      simp only [go_sem, hb0, hmade, hb1, hsm, hb2]
      refine hR _ _ (kq6 _ _ ?_); clear hR R; try clear kq6 kz6
      try simp only [go_sem, hb0, hmade, hb1, hsm, hb2]
      refine W_seq fun kz7 kq7 => ?_
      refine W_draw [9, 10] [0, 1, 2, 3, 4, 5, 6, 7, 8, 9, 10, 11] [(0, 12), (1, 12), (2, 12), (3, 12), (4, 12), (8, 7)] [[], [], [], [0, 1, 2], [], [], [], [5, 6], [], [4, 5, 6, 7, 8], [0, 1, 2, 3, 5, 6, 7], [0, 1, 2, 3, 4, 5, 6, 7, 8, 9, 10]] mixed (by kernel_rfl) fun R hR => ?_   -- r5
      simp only [go_sem, hb0, hmade, hb1, hsm, hb2]
      refine GCall_of (BandsOf_pc Y _ _ _ (Sg.get_ext _ _ _ _ 1) made 4 vmade.small.hr vmade.small.hs (by omega) (by omega)) ?_   -- t47
      simp only [go_sem, hb0, hmade, hb1, hsm, hb2]
      try refine And.intro (by repeat' (first | refine And.intro ?_ ?_ | exact GOr_right (fun _ => by simp only [go_sem, hb0, hmade, hb1, hsm, hb2]))) ?_
      refine hR _ _ (kq7 _ _ ?_); clear hR R; try clear kq7 kz7
      try simp only [go_sem, hb0, hmade, hb1, hsm, hb2]
      refine W_seq fun kz8 kq8 => ?_
      refine W_seq fun kz9 kq9 => ?_
      refine W_region [9, 10, 11] fun R hR => ?_   -- r6
      simp only [go_sem, hb0, hmade, hb1, hsm, hb2]
      refine hR _ _ (kq9 _ _ ?_); clear hR R; try clear kq9 kz9
      try simp only [go_sem, hb0, hmade, hb1, hsm, hb2]
      refine W_block ?_
      obtain ⟨cs, hcs⟩ : ∃ z, z = [c, made, made] := ⟨_, rfl⟩
      obtain ⟨lss, hls⟩ : ∃ z, z = [l, sm, l] := ⟨_, rfl⟩
      refine W_weak (Weak.eq (E' := [(9, .isl (cs.map ctPV) .exact), (10, .isl (lss.map bsPV) .exact), (11, I 0)]) (by rw [hcs, hls]; rfl) rfl) ?_
      have lc : cs.length = 3 := by rw [hcs]; rfl
      have ll : lss.length = 3 := by rw [hls]; rfl
      have hfc : ∀ z, z ∈ cs → z.Few := fun z hz => by
        rw [hcs] at hz; simp only [List.mem_cons, List.not_mem_nil, or_false] at hz
        rcases hz with rfl | rfl | rfl
        · exact fewc
        · exact vmade.few
        · exact vmade.few
      have hfl : ∀ z, z ∈ lss → BandsFew z := fun z hz => by
        rw [hls] at hz; simp only [List.mem_cons, List.not_mem_nil, or_false] at hz
        rcases hz with rfl | rfl | rfl
        · exact ⟨by omega, fun q hq => w7 _ (by simp [hq])⟩
        · exact ⟨by have := vsm.1; omega, fun q hq => by have := (vsm.2 q hq).p1; omega⟩
        · exact ⟨by omega, fun q hq => w7 _ (by simp [hq])⟩
      clear hcs hls
      refine W_loopS (α := Nat) (fun (i : Nat) => [(11, I i)]) (fun (i : Nat) => i ≤ 3) (fun (i : Nat) => 3 - i) (0) rfl (Nat.zero_le _) ?_
      rintro i hi
      refine W_seq fun kz10 kq10 => ?_
      refine W_seq fun kz11 kq11 => ?_
      refine W_region [9, 10, 11, 53] fun R hR => ?_   -- r7
      simp only [go_sem, hb0, hmade, hb1, hsm, hb2, lc]
      refine hR _ _ (kq11 _ _ ?_); clear hR R; try clear kq11 kz11
      try simp only [go_sem, hb0, hmade, hb1, hsm, hb2, lc]
      refine W_cond rfl (fun c2 => ?_) (fun c2 => ?_)
      · -- c2 true
        try simp only [nrm] at c2
        have hi' : i < 3 := by first | assumption | omega
        obtain ⟨c1', hx1⟩ : ∃ z, cs[i]? = some z := ⟨cs[i]'(by rw [lc]; exact hi'), by simp⟩
        obtain ⟨l1', hx4⟩ : ∃ z, lss[i]? = some z := ⟨lss[i]'(by rw [ll]; exact hi'), by simp⟩
        have fc := hfc _ (List.mem_of_getElem? hx1)
        have fl := hfl _ (List.mem_of_getElem? hx4)
        obtain ⟨es, hes⟩ : ∃ z, (grantAns c1' l1').1 = z := ⟨_, rfl⟩
        obtain ⟨ee, hee⟩ : ∃ z, (grantAns c1' l1').2 = z := ⟨_, rfl⟩
        obtain ⟨bs, hbs⟩ : ∃ z, (pbAns c1' l1').1 = z := ⟨_, rfl⟩
        obtain ⟨be, hbe⟩ : ∃ z, (pbAns c1' l1').2 = z := ⟨_, rfl⟩
        have hel : es.length ≤ 12 := by rw [← hes]; unfold grantAns; split <;> simp [grantL_len]; have := fl.1; omega
        have hbsl : bs.length ≤ 12 := by
          rw [← hbs]; unfold pbAns; split
          · simp
          · split
            · simp
            · have := tryB_len c1' l1' (l1'.length + 1) 0 [] [] 0 ([], 0) (by simp) (by omega) (by simp); have := fl.1; dsimp only; omega
        refine W_skip (kq10 _ _ ?_)
        refine W_seq fun kz12 kq12 => ?_
        refine W_block ?_
        refine W_seq fun kz13 kq13 => ?_
        refine W_draw [9, 10, 11, 12, 13] [0, 1, 2, 3, 4, 5, 6, 7, 8, 9, 10, 11, 12] [(5, 4), (6, 4), (7, 4), (8, 4)] [[], [], [0, 1], [0, 1, 2], [0, 1, 2, 3], [], [], [5, 6], [5, 6, 7], [0, 1, 2, 3, 4, 5, 6, 7, 8], [], [0, 1, 2, 3, 4, 5, 6, 7, 8, 9, 10], [0, 1, 2, 3, 4, 5, 6, 7, 8, 9, 10, 11]] mixed (by kernel_rfl) fun R hR => ?_   -- r9
        simp only [go_sem, hb0, hmade, hb1, hsm, hb2, lc, hx1, hx4]
        refine GCall_of (OwnCity_pc Y _ c1' fc.small) ?_   -- t60
        simp only [go_sem, hb0, hmade, hb1, hsm, hb2, lc, hx1, hx4]
        refine GCall_of (OwnBands_pc Y _ l1' (by have := fl.1; omega) (fun z hz => by have := fl.2 z hz; omega)) ?_   -- t65
        simp only [go_sem, hb0, hmade, hb1, hsm, hb2, lc, hx1, hx4]
        try refine And.intro (by repeat' (first | refine And.intro ?_ ?_ | exact GOr_right (fun _ => by simp only [go_sem, hb0, hmade, hb1, hsm, hb2, lc, hx1, hx4]))) ?_
        refine hR _ _ (kq13 _ _ ?_); clear hR R; try clear kq13 kz13
        try simp only [go_sem, hb0, hmade, hb1, hsm, hb2, lc, hx1, hx4]
        refine W_seq fun kz14 kq14 => ?_
        refine W_region [9, 10, 11, 12, 13, 14, 15] fun R hR => ?_   -- r10
        simp only [go_sem, hb0, hmade, hb1, hsm, hb2, lc, hx1, hx4]
        refine GCall_of (PC.val (v' := .tuple [ints es, I ee]) (PC.ofRo (Grant_pc Y _ c1' l1' fc.okc fl.okb) (by simp only [go_sem, bands] <;> rfl)) (by rw [hes, hee])) ?_   -- t69
        simp only [go_sem, hb0, hmade, hb1, hsm, hb2, lc, hx1, hx4]
        refine hR _ _ (kq14 _ _ ?_); clear hR R; try clear kq14 kz14
        try simp only [go_sem, hb0, hmade, hb1, hsm, hb2, lc, hx1, hx4]
        refine W_seq fun kz15 kq15 => ?_
        refine W_draw [9, 10, 11, 12, 13, 14, 15, 16, 17] [0, 1, 2, 3, 4, 5, 6, 7, 8, 9, 10, 11, 12, 13] [] [[], [], [0, 1], [0, 1, 2], [], [], [4, 5], [4, 5, 6], [0, 1, 2, 3, 4, 5, 6, 7], [0, 1, 2, 3, 4, 5, 6, 7, 8], [0, 1, 2, 3, 4, 5, 6, 7, 8, 9], [0, 1, 2, 3, 4, 5, 6, 7, 8, 9], [0, 1, 2, 3, 4, 5, 6, 7, 8, 9, 10], [0, 1, 2, 3, 4, 5, 6, 7, 8, 9, 10, 11, 12]] mixed (by kernel_rfl) fun R hR => ?_   -- r11
        simp only [go_sem, hb0, hmade, hb1, hsm, hb2, lc, hx1, hx4]
        refine GCall_of (PC.val (v' := .tuple [ints es, I ee]) (PC.ofRo (rGrant_pc Y _ c1' l1' fc.okc fl.okb) (by simp only [go_sem, bands] <;> rfl)) (by rw [hes, hee])) ?_   -- t81
        simp only [go_sem, hb0, hmade, hb1, hsm, hb2, lc, hx1, hx4]
        try refine And.intro (by repeat' (first | refine And.intro ?_ ?_ | exact GOr_right (fun _ => by simp only [go_sem, hb0, hmade, hb1, hsm, hb2, lc, hx1, hx4]))) ?_
        refine hR _ _ (kq15 _ _ ?_); clear hR R; try clear kq15 kz15
        try simp only [go_sem, hb0, hmade, hb1, hsm, hb2, lc, hx1, hx4]
        refine W_seq fun kz16 kq16 => ?_
        refine W_region [9, 10, 11, 12, 13, 14, 15, 16, 17, 18, 19] fun R hR => ?_   -- r12
        simp only [go_sem, hb0, hmade, hb1, hsm, hb2, lc, hx1, hx4]
        refine GCall_of (PC.val (v' := .tuple [ints bs, I be]) (PC.ofRo (bBest_pc Y _ c1' l1' fc.okc fl.okb) (by simp only [go_sem, bands] <;> rfl)) (by rw [hbs, hbe])) ?_   -- t87
        simp only [go_sem, hb0, hmade, hb1, hsm, hb2, lc, hx1, hx4]
        refine hR _ _ (kq16 _ _ ?_); clear hR R; try clear kq16 kz16
        try simp only [go_sem, hb0, hmade, hb1, hsm, hb2, lc, hx1, hx4]
        refine W_seq fun kz17 kq17 => ?_
        refine W_draw [9, 10, 11, 12, 13, 14, 15, 16, 17, 18, 19, 20, 21] [0, 1, 2, 3, 4, 5, 6, 7, 8, 9, 10, 11, 12, 13] [] [[], [], [0, 1], [0, 1, 2], [], [], [4, 5], [4, 5, 6], [0, 1, 2, 3, 4, 5, 6, 7], [0, 1, 2, 3, 4, 5, 6, 7, 8], [0, 1, 2, 3, 4, 5, 6, 7, 8, 9], [0, 1, 2, 3, 4, 5, 6, 7, 8, 9], [0, 1, 2, 3, 4, 5, 6, 7, 8, 9, 10], [0, 1, 2, 3, 4, 5, 6, 7, 8, 9, 10, 11, 12]] mixed (by kernel_rfl) fun R hR => ?_   -- r13
        simp only [go_sem, hb0, hmade, hb1, hsm, hb2, lc, hx1, hx4]
        refine GCall_of (PC.val (v' := .tuple [ints bs, I be]) (PC.ofRo (rBest_pc Y _ c1' l1' fc.okc fl.okb) (by simp only [go_sem, bands] <;> rfl)) (by rw [best_eq, hbs, hbe])) ?_   -- t99
        simp only [go_sem, hb0, hmade, hb1, hsm, hb2, lc, hx1, hx4]
        try refine And.intro (by repeat' (first | refine And.intro ?_ ?_ | exact GOr_right (fun _ => by simp only [go_sem, hb0, hmade, hb1, hsm, hb2, lc, hx1, hx4]))) ?_
        refine hR _ _ (kq17 _ _ ?_); clear hR R; try clear kq17 kz17
        try simp only [go_sem, hb0, hmade, hb1, hsm, hb2, lc, hx1, hx4]
        refine W_seq fun kz18 kq18 => ?_
        refine W_draw [9, 10, 11, 139] [0, 1, 2, 3, 4, 5, 6, 7, 8, 9, 10, 11, 12, 13, 14, 15, 16, 17, 18, 19, 20, 21, 22, 23, 24, 25, 26, 27, 28, 29, 30, 31, 32, 33, 34, 35, 36, 37] [] [[], [], [0, 1], [0, 1, 2], [0, 1, 2, 3], [0, 1, 2, 3], [0, 1, 2, 3, 4, 5], [0, 1, 2, 3, 4, 5, 6], [0, 1, 2, 3, 4, 5, 6, 7], [0, 1, 2, 3, 4, 5, 6, 7, 8], [0, 1, 2, 3, 4, 5, 6, 7, 8, 9], [0, 1, 2, 3, 4, 5, 6, 7, 8, 9], [0, 1, 2, 3, 4, 5, 6, 7, 8, 9, 10, 11], [0, 1, 2, 3, 4, 5, 6, 7, 8, 9, 10, 11, 12], [0, 1, 2, 3, 4, 5, 6, 7, 8, 9, 10, 11, 12, 13], [0, 1, 2, 3, 4, 5, 6, 7, 8, 9, 10, 11, 12, 13, 14], [0, 1, 2, 3, 4, 5, 6, 7, 8, 9, 10, 11, 12, 13, 14], [0, 1, 2, 3, 4, 5, 6, 7, 8, 9, 10, 11, 12, 13, 14, 15, 16], [0, 1, 2, 3, 4, 5, 6, 7, 8, 9, 10, 11, 12, 13, 14, 15, 16, 17], [0, 1, 2, 3, 4, 5, 6, 7, 8, 9, 10, 11, 12, 13, 14, 15, 16, 17, 18], [0, 1, 2, 3, 4, 5, 6, 7, 8, 9, 10, 11, 12, 13, 14, 15, 16, 17, 18, 19], [0, 1, 2, 3, 4, 5, 6, 7, 8, 9, 10, 11, 12, 13, 14, 15, 16, 17, 18, 19, 20], [0, 1, 2, 3, 4, 5, 6, 7, 8, 9, 10, 11, 12, 13, 14, 15, 16, 17, 18, 19, 20], [0, 1, 2, 3, 4, 5, 6, 7, 8, 9, 10, 11, 12, 13, 14, 15, 16, 17, 18, 19, 20], [0, 1, 2, 3, 4, 5, 6, 7, 8, 9, 10, 11, 12, 13, 14, 15, 16, 17, 18, 19, 20, 22, 23], [0, 1, 2, 3, 4, 5, 6, 7, 8, 9, 10, 11, 12, 13, 14, 15, 16, 17, 18, 19, 20, 22, 23, 24], [0, 1, 2, 3, 4, 5, 6, 7, 8, 9, 10, 11, 12, 13, 14, 15, 16, 17, 18, 19, 20, 21, 22, 23, 24, 25], [0, 1, 2, 3, 4, 5, 6, 7, 8, 9, 10, 11, 12, 13, 14, 15, 16, 17, 18, 19, 20, 21, 22, 23, 24, 25, 26], [0, 1, 2, 3, 4, 5, 6, 7, 8, 9, 10, 11, 12, 13, 14, 15, 16, 17, 18, 19, 20, 21, 22, 23, 24, 25, 26, 27], [0, 1, 2, 3, 4, 5, 6, 7, 8, 9, 10, 11, 12, 13, 14, 15, 16, 17, 18, 19, 20, 21, 22, 23, 24, 25, 26, 27, 28], [0, 1, 2, 3, 4, 5, 6, 7, 8, 9, 10, 11, 12, 13, 14, 15, 16, 17, 18, 19, 20, 21, 22, 23, 24, 25, 26, 27, 28, 29], [0, 1, 2, 3, 4, 5, 6, 7, 8, 9, 10, 11, 12, 13, 14, 15, 16, 17, 18, 19, 20, 21, 22, 23, 24, 25, 26, 27, 28, 29], [0, 1, 2, 3, 4, 5, 6, 7, 8, 9, 10, 11, 12, 13, 14, 15, 16, 17, 18, 19, 20, 21, 22, 23, 24, 25, 26, 27, 28, 29], [0, 1, 2, 3, 4, 5, 6, 7, 8, 9, 10, 11, 12, 13, 14, 15, 16, 17, 18, 19, 20, 21, 22, 23, 24, 25, 26, 27, 28, 29, 31, 32], [0, 1, 2, 3, 4, 5, 6, 7, 8, 9, 10, 11, 12, 13, 14, 15, 16, 17, 18, 19, 20, 21, 22, 23, 24, 25, 26, 27, 28, 29, 31, 32, 33], [0, 1, 2, 3, 4, 5, 6, 7, 8, 9, 10, 11, 12, 13, 14, 15, 16, 17, 18, 19, 20, 21, 22, 23, 24, 25, 26, 27, 28, 29, 30, 31, 32, 33, 34], [0, 1, 2, 3, 4, 5, 6, 7, 8, 9, 10, 11, 12, 13, 14, 15, 16, 17, 18, 19, 20, 21, 22, 23, 24, 25, 26, 27, 28, 29, 30, 31, 32, 33, 34, 35], [0, 1, 2, 3, 4, 5, 6, 7, 8, 9, 10, 11, 12, 13, 14, 15, 16, 17, 18, 19, 20, 21, 22, 23, 24, 25, 26, 27, 28, 29, 30, 31, 32, 33, 34, 35, 36]] mixed (by kernel_rfl) fun R hR => ?_   -- r14
        simp only [go_sem, hb0, hmade, hb1, hsm, hb2, lc, hx1, hx4]
        refine GCall_of (PC.val (v' := .bool true) (EqErrors_pc Y _ es es .ro .ro (by omega)) (by simp)) ?_   -- t108
        simp only [go_sem, hb0, hmade, hb1, hsm, hb2, lc, hx1, hx4]
        refine GCall_of (EqInts_self Y _ bs .ro .ro (by omega)) ?_   -- t119
        simp only [go_sem, hb0, hmade, hb1, hsm, hb2, lc, hx1, hx4]
        refine GCall_of (EqCities_pc Y _ c1' fc.okc) ?_   -- t128
        simp only [go_sem, hb0, hmade, hb1, hsm, hb2, lc, hx1, hx4]
        refine GCall_of (PC.ofRo (EqBands_pc Y _ l1' fl.okb) (by simp only [go_sem, bands] <;> rfl)) ?_   -- t137
        simp only [go_sem, hb0, hmade, hb1, hsm, hb2, lc, hx1, hx4]
        try refine And.intro (by repeat' (first | refine And.intro ?_ ?_ | exact GOr_right (fun _ => by simp only [go_sem, hb0, hmade, hb1, hsm, hb2, lc, hx1, hx4]))) ?_
        refine hR _ _ (kq18 _ _ ?_); clear hR R; try clear kq18 kz18
        try simp only [go_sem, hb0, hmade, hb1, hsm, hb2, lc, hx1, hx4]
        refine W_cond rfl (fun c3 => ?_) (fun c3 => ?_)
        · -- c3 true
          try simp only [nrm] at c3
          exfalso
          simp at c3
        · -- c3 false
          try simp only [nrm] at c3
          refine W_skip (kq12 _ _ ?_)
          refine W_region [9, 10, 11] fun R hR => ?_   -- r8
          simp only [go_sem, hb0, hmade, hb1, hsm, hb2, lc, hx1, hx4]
          try simp (disch := omega) only [wrapI, wrapU]
          refine hR _ _ ?_; clear hR R
          try simp only [go_sem, hb0, hmade, hb1, hsm, hb2, lc, hx1, hx4]
          refine ⟨i + 1, ?_, by (try simp only []); omega, ?_⟩
          · refine Weak.trans (Weak.cutX 3 0 (by omega) (by omega) hcl (by simp only [go_sem] <;> omega) (by simp only [go_sem] <;> omega)) ?_
            simp only [go_sem]
            exact Weak.eq (by first | rfl | (simp only [go_sem]; done) | (simp only [go_sem]; rfl) | (simp [go_sem]; done) | (simp [go_sem]; omega)) (by first | rfl | (simp only [go_sem]; done) | (simp [go_sem]; done))
          · try dsimp only
            omega
      · -- c2 false
        try simp only [nrm] at c2
        refine W_exit ?_
        simp only [go_sem, hb0, hmade, hb1, hsm, hb2, lc]
        refine kq8 _ _ ?_
        refine W_seq fun kz19 kq19 => ?_
        refine W_region [6] fun R hR => ?_   -- r16
        simp only [go_sem, hb0, hmade, hb1, hsm, hb2, lc]
        refine GCall_of (lawake_pc Y _) ?_   -- t140
        simp only [go_sem, hb0, hmade, hb1, hsm, hb2, lc]
        refine hR _ _ (kq19 _ _ ?_); clear hR R; try clear kq19 kz19
        try simp only [go_sem, hb0, hmade, hb1, hsm, hb2, lc]
        refine W_ret ?_
        simp only [go_sem, hb0, hmade, hb1, hsm, hb2, lc]
        refine ⟨.inr (by trivial), ?_⟩
        first | refine Fin_same hcl rfl (Wk_eq ?_ (by simp only [go_sem])) | refine Fin_self hcl rfl (Wk_eq ?_ (by simp only [go_sem]))
        try simp only [go_sem]
        all_goals
          first | rfl | (simp_all; done) | (simp_all; omega)
  · simp only [go_sem, hb0, hmade, hb1, hsm, hb2]
    refine GCall_of (wide_pc Y _ c l hc.okc (by omega)) ?_   -- t24
    simp only [go_sem, hb0, hmade, hb1, hsm, hb2]
    refine GWant_split (fun g1 => ?_) (fun g1 => ?_)
    · try simp only [Bool.not_eq_true', Bool.not_eq_false'] at g1
      have n1 := g1; try simp only [nrm] at n1
      simp only [go_sem, hb0, hmade, hb1, hsm, hb2, g1]
      refine GWant_split (fun g2 => ?_) (fun g2 => ?_)
      · try simp only [Bool.not_eq_true', Bool.not_eq_false'] at g2
        have n2 := g2; try simp only [nrm] at n2
        simp only [go_sem, hb0, hmade, hb1, hsm, hb2, g1, g2]
        refine hR _ ?_
        try simp only [go_sem, hb0, hmade, hb1, hsm, hb2]
        all_goals
          (simp only [List.cons.injEq, Prod.mk.injEq, PV.bool.injEq, and_true, true_and]; rw [Bool.eq_iff_iff]; simp [n1]) <;> omega
      · try simp only [Bool.not_eq_true', Bool.not_eq_false'] at g2
        have n2 := g2; try simp only [nrm] at n2
        simp only [go_sem, hb0, hmade, hb1, hsm, hb2, g1, g2]
        refine hR _ ?_
        try simp only [go_sem, hb0, hmade, hb1, hsm, hb2]
        all_goals
          (simp only [List.cons.injEq, Prod.mk.injEq, PV.bool.injEq, and_true, true_and]; rw [Bool.eq_iff_iff]; simp [n1]) <;> omega
    · try simp only [Bool.not_eq_true', Bool.not_eq_false'] at g1
      have n1 := g1; try simp only [nrm] at n1
      simp only [go_sem, hb0, hmade, hb1, hsm, hb2, g1]
      refine hR _ ?_
      try simp only [go_sem, hb0, hmade, hb1, hsm, hb2]
      all_goals
        (simp only [List.cons.injEq, Prod.mk.injEq, PV.bool.injEq, and_true, true_and]; rw [Bool.eq_iff_iff]; simp [n1]) <;> omega

end Go.Proofs.Ytnpamcpoaklgeaa

namespace Go.Proofs.Ytnpamcpoaklgeaa
open Go Go.RowKit

theorem rdBandGrantsArgs : All2 (fun t R => Rd Try.prog t R) Try.f8.params.toList [fun p => ∃ c : City, p = ctPV c ∧ citySz c, fun p => ∃ l : List Band, p = bands l ∧ l.length * 64 ≤ 140737488351232 ∧ ∀ b, b ∈ l → bandSz b, fun p => ∃ xs : List Int, p = ints xs ∧ xs.length * 8 ≤ 140737488351232] :=
  .cons rdCity (.cons rdBands (.cons rdInts .nil))
set_option maxHeartbeats 4000000 in
theorem BandGrants_walk : ∀ qs, AllR [fun p => ∃ c : City, p = ctPV c ∧ citySz c, fun p => ∃ l : List Band, p = bands l ∧ l.length * 64 ≤ 140737488351232 ∧ ∀ b, b ∈ l → bandSz b, fun p => ∃ xs : List Int, p = ints xs ∧ xs.length * 8 ≤ 140737488351232] qs → ∃ σ', PC Try.prog noY 8 qs Sg.zero (.bool true) σ' := by
  intro qs hq
  obtain ⟨px0, qs, rfl, ⟨x0, hx0, sx0⟩, hq⟩ := allR_cons hq
  obtain ⟨px1, qs, rfl, ⟨x1, hx1, sx1⟩, hq⟩ := allR_cons hq
  obtain ⟨px2, qs, rfl, ⟨x2, hx2, sx2⟩, hq⟩ := allR_cons hq
  obtain rfl := allR_nil hq
  subst hx0 hx1 hx2
  exact ⟨_, BandGrants_pc noY _ x0 x1 x2 ⟨sx0.hr, sx0.hs, sx0.hg, sx0.hp, sx0.hsl⟩ sx1 (by omega)⟩
theorem BandGrants_lifted (os : Os) (started : os.Started) (H : Type) (enc : TypeId × Value → H) :
    ReturnsInHanded {} Try.checked os 8 .any (Rows.bandGrantsSpec.pre6 enc Try.prog Try.f8 Rows.bandGrantsRow.domain false) (Rows.bandGrantsSpec.post enc Try.prog Try.f8 false true false false) :=
  law_lifted (C := Try.checked) own started (by kernel_rfl) Try.func8 rfl laidOut (by kernel_rfl) rdBandGrantsArgs rfl Try.underlying4
    (fun ds h => match ds, h with | [_, _, _], _ => rfl)
    (ChangeSpec.witness6 (enc := enc) (C := Try.checked) false ⟨#[], #[Value.agg #[.slice none 0 0, .slice none 0 0, .slice none 0 0, .int .i64 0, .int .i64 0, .slice none 0 0], .slice none 0 0, .slice none 0 0], []⟩ 8 (by kernel_rfl) (by kernel_rfl) (by kernel_rfl) (by kernel_rfl))
    BandGrants_walk
theorem BandGrants_holds : Rows.BandGrantsSaid :=
  OpenClaim.holds_of_wide 8 Try.f8 rfl rfl rfl rfl rfl rfl rfl ⟨rfl, rfl, rfl, rfl, rfl⟩ rfl rfl rfl rfl rfl (by kernel_rfl) Try.func8 (by kernel_rfl)
    (of_decide_eq_true (by kernel_rfl)) (by unfold Func.isWrapper; first | (rw [if_pos (by decide +kernel)]; kernel_rfl) | (rw [if_neg (by decide +kernel)]; exact ⟨rfl, rfl⟩))
    (fun os started H enc _ => BandGrants_lifted os started H enc)
end Go.Proofs.Ytnpamcpoaklgeaa
