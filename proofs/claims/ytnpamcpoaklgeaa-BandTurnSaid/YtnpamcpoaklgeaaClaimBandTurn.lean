/-
  The law BandTurn, walked: who is granted stays granted.
  The law BandTurn: whatever comes in, it answers true and leaves what came in as it was.
-/
import Derived.Test.YtnpamcpoaklgeaaPj
import Derived.Test.YtnpamcpoaklgeaaPd
import Derived.JoinedOf
set_option linter.unusedSimpArgs false
set_option linter.unusedVariables false
namespace Go.Proofs.Ytnpamcpoaklgeaa
open Go Go.RowKit
set_option maxRecDepth 100000

set_option maxHeartbeats 8000000 in
theorem BandTurn_pc (Y : YEnv) (σ : Sg) (nums : List Int) (hn : nums.length < 2 ^ 60) :
    PC Try.prog Y 4 [ints nums] σ (.bool true) (σ) := by
  refine PC_of_W Try.func4 rfl (by kernel_rfl) Try.ntmps4 (by simp) fun hcl hca => ?_
  obtain ⟨b0, hb0⟩ : ∃ z, drumB nums 2685821657736338717 = z := ⟨_, rfl⟩
  obtain ⟨made, hmade⟩ : ∃ zz, (cityD b0).1 = zz := ⟨_, rfl⟩
  obtain ⟨b1, hb1⟩ : ∃ zz, (cityD b0).2 = zz := ⟨_, rfl⟩
  obtain ⟨l, hl⟩ : ∃ zz, (bandsD made 5 b1).1 = zz := ⟨_, rfl⟩
  obtain ⟨b2, hb2⟩ : ∃ zz, (bandsD made 5 b1).2 = zz := ⟨_, rfl⟩
  obtain ⟨k, hk⟩ : ∃ zz, (roll ((l.length : Int) + 1) b2).1 = zz := ⟨_, rfl⟩
  obtain ⟨b3, hb3⟩ : ∃ zz, (roll ((l.length : Int) + 1) b2).2 = zz := ⟨_, rfl⟩
  have dk := roll_bd ((l.length : Int) + 1) b2
  simp only [hk] at dk
  have vmade : CityV made := by rw [← hmade]; exact cityD_ok b0
  have vl : l.length ≤ 5 ∧ ∀ b, b ∈ l → BandV made b := by rw [← hl]; exact bandsD_ok vmade 5 b1
  obtain ⟨es, hes⟩ : ∃ z, grantL made [] l = z := ⟨_, rfl⟩
  have lle : es.length = l.length := by rw [← hes]; exact grantL_len ..
  obtain ⟨gl, hgl⟩ : ∃ z, grantedOf l es = z := ⟨_, rfl⟩
  have vg : gl.length ≤ 5 ∧ ∀ b, b ∈ gl → BandV made b := by rw [← hgl]; exact ⟨by have := grantedOf_len l es; omega, fun b hb => vl.2 b (grantedOf_mem hb)⟩
  obtain ⟨rs, hrs⟩ : ∃ z, grantL made [] gl = z := ⟨_, rfl⟩
  have lrs : rs.length = gl.length := by rw [← hrs]; exact grantL_len ..
  have zrs : ∀ e, e ∈ rs → e = 0 := fun e he => grantL_again made l [] e (by rw [hes, hgl, hrs]; exact he)
  have hk0 : 0 ≤ k := by omega
  have hk1 : k.toNat ≤ l.length := by omega
  have hk2 : k.toNat ≤ es.length := by omega
  refine W_seq fun kz1 kq1 => ?_
  refine W_region [0] fun R hR => ?_   -- r0
  simp only [go_sem, hb0, hmade, hb1, hl, hb2, hk, hb3, hk0, hk1, hk2]
  refine hR _ _ (kq1 _ _ ?_); clear hR R; try clear kq1 kz1
  try simp only [go_sem, hb0, hmade, hb1, hl, hb2, hk, hb3, hk0, hk1, hk2]
  refine W_seq fun kz2 kq2 => ?_
  refine W_region [3] fun R hR => ?_   -- r1
  simp only [go_sem, hb0, hmade, hb1, hl, hb2, hk, hb3, hk0, hk1, hk2]
  refine GCall_of (DrumOf_pc Y _ nums hn) ?_   -- t15
  simp only [go_sem, hb0, hmade, hb1, hl, hb2, hk, hb3, hk0, hk1, hk2]
  refine hR _ _ (kq2 _ _ ?_); clear hR R; try clear kq2 kz2
  try simp only [go_sem, hb0, hmade, hb1, hl, hb2, hk, hb3, hk0, hk1, hk2]
  refine W_seq fun kz3 kq3 => ?_
  refine W_region [3, 4] fun R hR => ?_   -- r2
  simp only [go_sem, hb0, hmade, hb1, hl, hb2, hk, hb3, hk0, hk1, hk2]
  refine GCall_of (CityOf_pc Y _ _ _ (Sg.get_ext0 _ _ _ _)) ?_   -- t17
  simp only [go_sem, hb0, hmade, hb1, hl, hb2, hk, hb3, hk0, hk1, hk2]
  refine hR _ _ (kq3 _ _ ?_); clear hR R; try clear kq3 kz3
  try simp only [go_sem, hb0, hmade, hb1, hl, hb2, hk, hb3, hk0, hk1, hk2]
  refine W_seq fun kz4 kq4 => ?_
  refine W_region [3, 4, 5] fun R hR => ?_   -- r3
  simp only [go_sem, hb0, hmade, hb1, hl, hb2, hk, hb3, hk0, hk1, hk2]
  refine GCall_of (BandsOf_pc Y _ _ _ (Sg.get_ext0 _ _ _ _) made 5 vmade.small.hr vmade.small.hs (by omega) (by omega)) ?_   -- t20
  simp only [go_sem, hb0, hmade, hb1, hl, hb2, hk, hb3, hk0, hk1, hk2]
  refine hR _ _ (kq4 _ _ ?_); clear hR R; try clear kq4 kz4
  try simp only [go_sem, hb0, hmade, hb1, hl, hb2, hk, hb3, hk0, hk1, hk2]
  refine W_seq fun kz5 kq5 => ?_
  refine W_region [3, 4, 5, 6, 7] fun R hR => ?_   -- r4
  simp only [go_sem, hb0, hmade, hb1, hl, hb2, hk, hb3, hk0, hk1, hk2]
  refine GCall_of (PC.val (v' := .tuple [ints es, I 0]) (Grant_pc Y _ made l vmade.okc (BandV.okl vl.2 (by omega))) (by rw [grantAns_of vmade.chk (by omega) (fun b hb => (vl.2 b hb).chk vmade), hes])) ?_   -- t24
  simp only [go_sem, hb0, hmade, hb1, hl, hb2, hk, hb3, hk0, hk1, hk2]
  refine hR _ _ (kq5 _ _ ?_); clear hR R; try clear kq5 kz5
  try simp only [go_sem, hb0, hmade, hb1, hl, hb2, hk, hb3, hk0, hk1, hk2]
  refine W_seq fun kz6 kq6 => ?_
  refine W_region [4, 5, 6, 7, 8] fun R hR => ?_   -- r5
  simp only [go_sem, hb0, hmade, hb1, hl, hb2, hk, hb3, hk0, hk1, hk2]
  try simp (disch := omega) only [wrapI, wrapU]
  refine GCall_of (Roll_pc Y _ _ _ (Sg.get_ext0 _ _ _ _) ((l.length : Int) + 1) (by omega)) ?_   -- t31
  simp only [go_sem, hb0, hmade, hb1, hl, hb2, hk, hb3, hk0, hk1, hk2]
  try simp (disch := omega) only [wrapI, wrapU]
  refine hR _ _ (kq6 _ _ ?_); clear hR R; try clear kq6 kz6
  try simp only [go_sem, hb0, hmade, hb1, hl, hb2, hk, hb3, hk0, hk1, hk2]
  refine W_seq fun kz7 kq7 => ?_
  refine W_draw [4, 5, 6, 7, 8, 9, 10] [0, 1, 2, 3, 4, 5, 6, 7, 8, 9] [] [[], [], [], [1, 2], [0, 1, 2, 3], [0, 1, 2, 3, 4], [0, 1, 2, 3, 4, 5], [0, 1, 2, 3, 4, 5], [0, 1, 2, 3, 4, 5, 6], [0, 1, 2, 3, 4, 5, 6, 7, 8]] mixed (by kernel_rfl) fun R hR => ?_   -- r6
  simp only [go_sem, hb0, hmade, hb1, hl, hb2, hk, hb3, hk0, hk1, hk2]
  refine GCall_of (PC.val (v' := .tuple [ints (es.take k.toNat), I 0]) (PC.ofRo (Grant_pc Y _ made (l.take k.toNat) vmade.okc (BandV.okl (fun b hb => vl.2 b (List.mem_of_mem_take hb)) (by simp; omega))) (by simp only [go_sem, bands, ← List.map_take] <;> rfl)) (by rw [grantAns_of vmade.chk (by simp; omega) (fun b hb => (vl.2 b (List.mem_of_mem_take hb)).chk vmade), grantL_take, hes])) ?_   -- t37
  simp only [go_sem, hb0, hmade, hb1, hl, hb2, hk, hb3, hk0, hk1, hk2]
  try refine And.intro (by repeat' (first | refine And.intro ?_ ?_ | exact GOr_right (fun _ => by simp only [go_sem, hb0, hmade, hb1, hl, hb2, hk, hb3, hk0, hk1, hk2]))) ?_
  refine hR _ _ (kq7 _ _ ?_); clear hR R; try clear kq7 kz7
  try simp only [go_sem, hb0, hmade, hb1, hl, hb2, hk, hb3, hk0, hk1, hk2]
  refine W_seq fun kz8 kq8 => ?_
  refine W_seq fun kz9 kq9 => ?_
  refine W_region [4, 5, 6, 60] fun R hR => ?_   -- r7
  simp only [go_sem, hb0, hmade, hb1, hl, hb2, hk, hb3, hk0, hk1, hk2, lle]
  refine GCall_of (PC.val (v' := .bool true) (PC.ofRo (EqErrors_pc Y _ (es.take k.toNat) (es.take k.toNat) .ro .ro (by simp; omega)) (by simp only [go_sem, ← List.map_take] <;> rfl)) (by simp)) ?_   -- t58
  simp only [go_sem, hb0, hmade, hb1, hl, hb2, hk, hb3, hk0, hk1, hk2, lle]
  refine hR _ _ (kq9 _ _ ?_); clear hR R; try clear kq9 kz9
  try simp only [go_sem, hb0, hmade, hb1, hl, hb2, hk, hb3, hk0, hk1, hk2]
  refine W_cond rfl (fun c1 => ?_) (fun c1 => ?_)
  · -- c1 true
    try simp only [nrm] at c1
    exfalso
    simp at c1
  · -- c1 false
    try simp only [nrm] at c1
    refine W_skip (kq8 _ _ ?_)
    refine W_seq fun kz10 kq10 => ?_
    refine W_draw [5, 6, 11, 12] [0, 1, 2, 3, 4, 5, 6, 7, 8, 9] [(0, 4)] [[], [], [], [1, 2], [0, 1, 2, 3], [0, 1, 2, 3, 4], [0, 1, 2, 3, 4, 5], [0, 1, 2, 3, 4, 5], [0, 1, 2, 3, 4, 5, 6], [0, 1, 2, 3, 4, 5, 6, 7, 8]] mixed (by kernel_rfl) fun R hR => ?_   -- r9
    simp only [go_sem, hb0, hmade, hb1, hl, hb2, hk, hb3, hk0, hk1, hk2]
    refine GCall_of (PC.val (v' := bands gl) (lgranted_pc Y _ l es (by omega) (by omega)) (by rw [hgl])) ?_   -- t65
    simp only [go_sem, hb0, hmade, hb1, hl, hb2, hk, hb3, hk0, hk1, hk2]
    refine GCall_of (PC.val (v' := .tuple [ints rs, I 0]) (Grant_pc Y _ made gl vmade.okc (BandV.okl vg.2 (by omega))) (by rw [grantAns_of vmade.chk (by omega) (fun b hb => (vg.2 b hb).chk vmade), hrs])) ?_   -- t66
    simp only [go_sem, hb0, hmade, hb1, hl, hb2, hk, hb3, hk0, hk1, hk2]
    try refine And.intro (by repeat' (first | refine And.intro ?_ ?_ | exact GOr_right (fun _ => by simp only [go_sem, hb0, hmade, hb1, hl, hb2, hk, hb3, hk0, hk1, hk2]))) ?_
    refine hR _ _ (kq10 _ _ ?_); clear hR R; try clear kq10 kz10
    try simp only [go_sem, hb0, hmade, hb1, hl, hb2, hk, hb3, hk0, hk1, hk2]
    refine W_seq fun kz11 kq11 => ?_
    refine W_seq fun kz12 kq12 => ?_
    refine W_region [11, 79] fun R hR => ?_   -- r10
    simp only [go_sem, hb0, hmade, hb1, hl, hb2, hk, hb3, hk0, hk1, hk2, lrs]
    refine GCall_of (PC.val (v' := bands gl) (lgranted_pc Y _ l es (by omega) (by omega)) (by rw [hgl])) ?_   -- t76
    simp only [go_sem, hb0, hmade, hb1, hl, hb2, hk, hb3, hk0, hk1, hk2, lrs]
    refine hR _ _ (kq12 _ _ ?_); clear hR R; try clear kq12 kz12
    try simp only [go_sem, hb0, hmade, hb1, hl, hb2, hk, hb3, hk0, hk1, hk2]
    refine W_cond rfl (fun c2 => ?_) (fun c2 => ?_)
    · -- c2 true
      try simp only [nrm] at c2
      exfalso
      simp at c2
    · -- c2 false
      try simp only [nrm] at c2
      refine W_skip (kq11 _ _ ?_)
      refine W_seq fun kz13 kq13 => ?_
      refine W_seq fun kz14 kq14 => ?_
      refine W_region [11, 13] fun R hR => ?_   -- r12
      simp only [go_sem, hb0, hmade, hb1, hl, hb2, hk, hb3, hk0, hk1, hk2]
      refine hR _ _ (kq14 _ _ ?_); clear hR R; try clear kq14 kz14
      try simp only [go_sem, hb0, hmade, hb1, hl, hb2, hk, hb3, hk0, hk1, hk2]
      refine W_block ?_
      refine W_loopS (α := Nat) (fun (i : Nat) => [(13, I i)]) (fun (i : Nat) => i ≤ rs.length) (fun (i : Nat) => rs.length - i) (0) rfl (Nat.zero_le _) ?_
      rintro i hi
      refine W_seq fun kz15 kq15 => ?_
      refine W_seq fun kz16 kq16 => ?_
      refine W_region [11, 13, 83] fun R hR => ?_   -- r13
      simp only [go_sem, hb0, hmade, hb1, hl, hb2, hk, hb3, hk0, hk1, hk2]
      refine hR _ _ (kq16 _ _ ?_); clear hR R; try clear kq16 kz16
      try simp only [go_sem, hb0, hmade, hb1, hl, hb2, hk, hb3, hk0, hk1, hk2]
      refine W_cond rfl (fun c3 => ?_) (fun c3 => ?_)
      · -- c3 true
        try simp only [nrm] at c3
        have hi' : i < rs.length := by first | assumption | omega
        obtain ⟨x, hx⟩ : ∃ x, rs[i]? = some x := ⟨rs[i], by simp [hi']⟩
        have hdrop : rs.drop i = x :: rs.drop (i + 1) := by
          rw [List.drop_eq_getElem_cons hi']; congr 1; exact (List.getElem?_eq_some_iff.1 hx).2
        refine W_skip (kq15 _ _ ?_)
        refine W_seq fun kz17 kq17 => ?_
        refine W_block ?_
        refine W_seq fun kz18 kq18 => ?_
        refine W_region [11, 13, 90] fun R hR => ?_   -- r15
        simp only [go_sem, hb0, hmade, hb1, hl, hb2, hk, hb3, hk0, hk1, hk2, hx]
        refine hR _ _ (kq18 _ _ ?_); clear hR R; try clear kq18 kz18
        try simp only [go_sem, hb0, hmade, hb1, hl, hb2, hk, hb3, hk0, hk1, hk2, hx]
        refine W_cond rfl (fun c4 => ?_) (fun c4 => ?_)
        · -- c4 true
          try simp only [nrm] at c4
          exfalso
          exact c4 (zrs x (List.mem_of_getElem? hx))
        · -- c4 false
          try simp only [nrm] at c4
          refine W_skip (kq17 _ _ ?_)
          refine W_region [11, 13] fun R hR => ?_   -- r14
          simp only [go_sem, hb0, hmade, hb1, hl, hb2, hk, hb3, hk0, hk1, hk2, hx]
          try simp (disch := omega) only [wrapI, wrapU]
          refine hR _ _ ?_; clear hR R
          try simp only [go_sem, hb0, hmade, hb1, hl, hb2, hk, hb3, hk0, hk1, hk2, hx]
          refine ⟨i + 1, ?_, by (try simp only []); omega, ?_⟩
          · first | exact Weak.refl | exact Weak.eq (by first | rfl | (simp only [go_sem]; done) | (simp only [go_sem]; rfl) | (simp [go_sem]; done) | (simp [go_sem]; omega)) (by first | rfl | (simp only [go_sem]; done) | (simp [go_sem]; done))
          · try dsimp only
            exact hi'
      · -- c3 false
        try simp only [nrm] at c3
        refine W_exit ?_
        simp only [go_sem, hb0, hmade, hb1, hl, hb2, hk, hb3, hk0, hk1, hk2]
        refine kq13 _ _ ?_
        refine W_seq fun kz19 kq19 => ?_
        refine W_region [2] fun R hR => ?_   -- r17
        simp only [go_sem, hb0, hmade, hb1, hl, hb2, hk, hb3, hk0, hk1, hk2]
        refine GCall_of (lawake_pc Y _) ?_   -- t91
        simp only [go_sem, hb0, hmade, hb1, hl, hb2, hk, hb3, hk0, hk1, hk2]
        refine hR _ _ (kq19 _ _ ?_); clear hR R; try clear kq19 kz19
        try simp only [go_sem, hb0, hmade, hb1, hl, hb2, hk, hb3, hk0, hk1, hk2]
        refine W_ret ?_
        simp only [go_sem, hb0, hmade, hb1, hl, hb2, hk, hb3, hk0, hk1, hk2]
        refine ⟨.inr (by trivial), ?_⟩
        first | refine Fin_same hcl rfl (Wk_eq ?_ (by simp only [go_sem])) | refine Fin_self hcl rfl (Wk_eq ?_ (by simp only [go_sem]))
        try simp only [go_sem]
        all_goals
          first | rfl | (simp_all; done) | (simp_all; omega)

end Go.Proofs.Ytnpamcpoaklgeaa

namespace Go.Proofs.Ytnpamcpoaklgeaa
open Go Go.RowKit

theorem rdBandTurnArgs : All2 (fun t R => Rd Try.prog t R) Try.f4.params.toList [fun p => ∃ xs : List Int, p = ints xs ∧ xs.length * 8 ≤ 140737488351232] :=
  .cons rdInts .nil
theorem BandTurn_lifted (os : Os) (started : os.Started) (H : Type) (enc : TypeId × Value → H) :
    ReturnsInHanded {} Try.checked os 4 .any (Rows.bandTurnSpec.pre6 enc Try.prog Try.f4 Rows.bandTurnRow.domain false) (Rows.bandTurnSpec.post enc Try.prog Try.f4 false true false false) :=
  law_lifted (C := Try.checked) own started (by kernel_rfl) Try.func4 rfl laidOut (by kernel_rfl) rdBandTurnArgs rfl Try.underlying4
    (fun ds h => match ds, h with | [_], _ => rfl)
    (ChangeSpec.witness6 (enc := enc) (C := Try.checked) false ⟨#[], #[.slice none 0 0], []⟩ 8 (by kernel_rfl) (by kernel_rfl) (by kernel_rfl) (by kernel_rfl))
    fun qs hq => match qs, hq with | [_], ⟨⟨x0, hx0, sx0⟩, _⟩ => by subst hx0; exact ⟨_, BandTurn_pc noY _ x0 (by omega)⟩
theorem BandTurn_holds : Rows.BandTurnSaid :=
  OpenClaim.holds_of_wide 4 Try.f4 rfl rfl rfl rfl rfl rfl rfl ⟨rfl, rfl, rfl, rfl, rfl⟩ rfl rfl rfl rfl rfl (by kernel_rfl) Try.func4 (by kernel_rfl)
    (of_decide_eq_true (by kernel_rfl)) (by unfold Func.isWrapper; first | (rw [if_pos (by decide +kernel)]; kernel_rfl) | (rw [if_neg (by decide +kernel)]; exact ⟨rfl, rfl⟩))
    (fun os started H enc _ => BandTurn_lifted os started H enc)
end Go.Proofs.Ytnpamcpoaklgeaa
