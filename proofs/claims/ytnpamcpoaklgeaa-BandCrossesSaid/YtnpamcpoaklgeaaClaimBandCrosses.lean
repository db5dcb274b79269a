/-
  The law BandCrosses, walked.
  The law BandCrosses: whatever comes in, it answers true and leaves what came in as it was.
-/
import Derived.Test.YtnpamcpoaklgeaaPi
import Derived.Test.YtnpamcpoaklgeaaPd
import Derived.JoinedOf
set_option linter.unusedSimpArgs false
set_option linter.unusedVariables false
namespace Go.Proofs.Ytnpamcpoaklgeaa
open Go Go.RowKit
set_option maxRecDepth 100000

/-- A row of bands, in a row. -/
def bsPV (l : List Band) : PV := .isl (l.map bdPV) .ro
theorem cA_ct {a b c : Nat} {xs : List City} : CleanAll a b c (xs.map ctPV) = True := CleanAll_map clean_ct
theorem cA_bs {a b c : Nat} {xs : List (List Band)} : CleanAll a b c (xs.map bsPV) = True := CleanAll_map fun x => by simp only [bsPV, go_sem]
attribute [go_sem] bsPV cA_ct cA_bs
/-- What may come in. -/
structure City.In (c : City) : Prop where
  hr : c.town.rooms.length * 8 ≤ 140737488351232
  hs : c.town.streets.length * 16 ≤ 140737488351232
  hg : c.town.groups.length * 72 ≤ 140737488351232
  hp : ∀ g, g ∈ c.town.groups → g.path.length * 8 ≤ 140737488351232
  hsl : c.sleep.length * 8 ≤ 140737488351232
def BandsIn (l : List Band) : Prop := l.length * 64 ≤ 140737488351232 ∧ ∀ b, b ∈ l → b.path.length * 8 ≤ 140737488351232
theorem City.In.okc {c : City} (h : c.In) : c.Ok := by
  have := h.hr; have := h.hs; have := h.hg; have := h.hsl
  exact ⟨by omega, by omega, by omega, fun g hg => by have := h.hp g hg; omega, by omega⟩
/-- Few enough of all. -/
structure City.Few (c : City) : Prop where
  hr : c.town.rooms.length ≤ 20
  hs : c.town.streets.length ≤ 20
  hg : c.town.groups.length ≤ 20
  hp : ∀ g, g ∈ c.town.groups → g.path.length ≤ 20
  hsl : c.sleep.length ≤ 20
theorem City.Few.okc {c : City} (h : c.Few) : c.Ok := by
  have := h.hr; have := h.hs; have := h.hg; have := h.hsl
  exact ⟨by omega, by omega, by omega, fun g hg => by have := h.hp g hg; omega, by omega⟩
theorem City.Few.small {c : City} (h : c.Few) : c.Small := by
  have := h.hr; have := h.hs; have := h.hg; have := h.hsl
  exact ⟨by omega, by omega, by omega, fun g hg => by have := h.hp g hg; omega, by omega⟩
theorem CityV.few {c : City} (h : CityV c) : c.Few := by
  have := h.tv.r1; have := h.tv.s1; have := h.tv.g1; have := h.sl
  exact ⟨by omega, by omega, by omega, fun g hg => by have := (h.tv.g2 g hg).p1; omega, by omega⟩
def BandsFew (l : List Band) : Prop := l.length ≤ 12 ∧ ∀ b, b ∈ l → b.path.length ≤ 15
theorem BandsFew.okb {l : List Band} (h : BandsFew l) : BandsOk l := ⟨by have := h.1; omega, fun b hb => by have := h.2 b hb; omega⟩
theorem get3 {α : Type} {a b c x : α} {i : Nat} (h : [a, b, c][i]? = some x) : x = a ∨ x = b ∨ x = c := by
  have := List.mem_of_getElem? h; simpa using this

set_option maxHeartbeats 8000000 in
theorem BandCrosses_pc (Y : YEnv) (σ : Sg) (c : City) (l : List Band) (a b : Band) (sq : Int) (nums : List Int) (hc : c.In) (hl : BandsIn l) (ha : a.path.length * 8 ≤ 140737488351232) (hb : b.path.length * 8 ≤ 140737488351232) (hn : nums.length < 2 ^ 60) :
    PC Try.prog Y 3 [ctPV c, bands l, bdPV a, bdPV b, I sq, ints nums] σ (.bool true) (σ) := by
  refine PC_of_W Try.func3 rfl (by kernel_rfl) Try.ntmps3 (by simp) fun hcl hca => ?_
  obtain ⟨b0, hb0⟩ : ∃ z, drumB nums 2685821657736338717 = z := ⟨_, rfl⟩
  have hl1 := hl.1
  have hab : ∀ z, z ∈ l ++ [a, b] → z.path.length * 8 ≤ 140737488351232 := fun z hz => by
    rcases List.mem_append.1 hz with h | h
    · exact hl.2 z h
    · simp only [List.mem_cons, List.not_mem_nil, or_false] at h
      rcases h with rfl | rfl <;> assumption
  obtain ⟨made, hmade⟩ : ∃ zz, (cityD b0).1 = zz := ⟨_, rfl⟩
  obtain ⟨b1, hb1⟩ : ∃ zz, (cityD b0).2 = zz := ⟨_, rfl⟩
  obtain ⟨x, hx⟩ : ∃ zz, (bandD made b1).1 = zz := ⟨_, rfl⟩
  obtain ⟨b2, hb2⟩ : ∃ zz, (bandD made b1).2 = zz := ⟨_, rfl⟩
  obtain ⟨y, hy⟩ : ∃ zz, (bandD made b2).1 = zz := ⟨_, rfl⟩
  obtain ⟨b3, hb3⟩ : ∃ zz, (bandD made b2).2 = zz := ⟨_, rfl⟩
  obtain ⟨sm, hsm⟩ : ∃ zz, (bandsD made 5 b3).1 = zz := ⟨_, rfl⟩
  obtain ⟨b4, hb4⟩ : ∃ zz, (bandsD made 5 b3).2 = zz := ⟨_, rfl⟩
  obtain ⟨sq2, hsq2⟩ : ∃ zz, (roll made.town.rooms.length b4).1 = zz := ⟨_, rfl⟩
  obtain ⟨b5, hb5⟩ : ∃ zz, (roll made.town.rooms.length b4).2 = zz := ⟨_, rfl⟩
  have vmade : CityV made := by rw [← hmade]; exact cityD_ok b0
  have vx : BandV made x := by rw [← hx]; exact bandD_ok vmade b1
  have vy : BandV made y := by rw [← hy]; exact bandD_ok vmade b2
  have vsm : sm.length ≤ 5 ∧ ∀ b, b ∈ sm → BandV made b := by rw [← hsm]; exact bandsD_ok vmade 5 b3
  refine W_seq fun kz1 kq1 => ?_
  refine W_region [1, 4, 5, 6, 8, 9] fun R hR => ?_   -- r0
  simp only [go_sem, hb0, hmade, hb1, hx, hb2, hy, hb3, hsm, hb4, hsq2, hb5]
  refine hR _ _ (kq1 _ _ ?_); clear hR R; try clear kq1 kz1
  try simp only [go_sem, hb0, hmade, hb1, hx, hb2, hy, hb3, hsm, hb4, hsq2, hb5]
  refine W_seq fun kz2 kq2 => ?_
  refine W_seq fun kz3 kq3 => ?_
  refine W_draw [1, 4, 5, 6, 8, 9, 42] [0, 1, 2, 3, 4, 5, 6, 7] [(0, 6), (0, 7), (3, 2), (4, 2), (5, 2)] [[], [], [1], [], [], [3, 4], [1, 2, 3, 4, 5], [0, 1, 2, 3, 4, 5, 6]] mixed (by kernel_rfl) fun R hR => ?_   -- r1
  simp only [go_sem, hb0, hmade, hb1, hx, hb2, hy, hb3, hsm, hb4, hsq2, hb5]
  refine GCall_of (OwnBands_pc Y _ l (by omega) (fun z hz => by have := hl.2 z hz; omega)) ?_   -- t37
  simp only [go_sem, hb0, hmade, hb1, hx, hb2, hy, hb3, hsm, hb4, hsq2, hb5]
  try simp (disch := first | omega | (simp only [go_sem] <;> omega)) only [wrapI, wrapU, appX_exact, appX_tok]
  try simp only [go_sem, hb0, hmade, hb1, hx, hb2, hy, hb3, hsm, hb4, hsq2, hb5]
  refine GCall_of (PC.ofRo (wide_pc Y _ c (l ++ [a, b]) hc.okc (by simp; omega)) (by simp only [go_sem, bands] <;> rfl)) ?_   -- t42
  simp only [go_sem, hb0, hmade, hb1, hx, hb2, hy, hb3, hsm, hb4, hsq2, hb5]
  try refine And.intro (by repeat' (first | refine And.intro ?_ ?_ | exact GOr_right (fun _ => by simp only [go_sem, hb0, hmade, hb1, hx, hb2, hy, hb3, hsm, hb4, hsq2, hb5]))) ?_
  refine hR _ _ (kq3 _ _ ?_); clear hR R; try clear kq3 kz3
  try simp only [go_sem, hb0, hmade, hb1, hx, hb2, hy, hb3, hsm, hb4, hsq2, hb5]
  refine W_cond rfl (fun c1 => ?_) (fun c1 => ?_)
  · -- c1 true
    try simp only [nrm] at c1
    refine W_seq fun kz4 kq4 => ?_
    refine W_region [12] fun R hR => ?_   -- r2
    simp only [go_sem, hb0, hmade, hb1, hx, hb2, hy, hb3, hsm, hb4, hsq2, hb5]
    refine GCall_of (lawake_pc Y _) ?_   -- t43
    simp only [go_sem, hb0, hmade, hb1, hx, hb2, hy, hb3, hsm, hb4, hsq2, hb5]
    refine hR _ _ (kq4 _ _ ?_); clear hR R; try clear kq4 kz4
    try simp only [go_sem, hb0, hmade, hb1, hx, hb2, hy, hb3, hsm, hb4, hsq2, hb5]
    refine W_ret ?_
    simp only [go_sem, hb0, hmade, hb1, hx, hb2, hy, hb3, hsm, hb4, hsq2, hb5]
    refine ⟨.inr (by trivial), ?_⟩
    first | refine Fin_same hcl rfl (Wk_eq ?_ (by simp only [go_sem])) | refine Fin_self hcl rfl (Wk_eq ?_ (by simp only [go_sem]))
    try simp only [go_sem]
    all_goals
      first | rfl | (simp_all; done) | (simp_all; omega)
  · -- c1 false
    try simp only [nrm] at c1
    obtain ⟨w1, w2, w3, w4, w5, w6, w7⟩ := wide_not c1
    simp only [List.length_append, List.length_cons, List.length_nil] at w5
    have fewc : c.Few := ⟨w1, w2, w3, w6, w4⟩
    refine W_skip (kq2 _ _ ?_)
    refine W_seq fun kz5 kq5 => ?_
    refine W_region [1, 4, 6, 8, 9, 13] fun R hR => ?_   -- r3
    simp only [go_sem, hb0, hmade, hb1, hx, hb2, hy, hb3, hsm, hb4, hsq2, hb5]
    refine GCall_of (DrumOf_pc Y _ nums hn) ?_   -- t45
    simp only [go_sem, hb0, hmade, hb1, hx, hb2, hy, hb3, hsm, hb4, hsq2, hb5]
    refine hR _ _ (kq5 _ _ ?_); clear hR R; try clear kq5 kz5
    try simp only [go_sem, hb0, hmade, hb1, hx, hb2, hy, hb3, hsm, hb4, hsq2, hb5]
    refine W_seq fun kz6 kq6 => ?_
    refine W_region [1, 4, 6, 8, 9, 13, 14] fun R hR => ?_   -- r4
    simp only [go_sem, hb0, hmade, hb1, hx, hb2, hy, hb3, hsm, hb4, hsq2, hb5]
    refine GCall_of (CityOf_pc Y _ _ _ (Sg.get_ext _ _ _ _ 3)) ?_   -- t47
    simp only [go_sem, hb0, hmade, hb1, hx, hb2, hy, hb3, hsm, hb4, hsq2, hb5]
    refine hR _ _ (kq6 _ _ ?_); clear hR R; try clear kq6 kz6
    try simp only [go_sem, hb0, hmade, hb1, hx, hb2, hy, hb3, hsm, hb4, hsq2, hb5]
    refine W_seq fun kz7 kq7 => ?_
    refine W_draw [1, 4, 6, 8, 9, 13, 14, 15, 16] [0, 1, 2, 3, 4, 5, 6, 7, 8, 9] [(3, 2), (4, 2)] [[], [], [0, 1], [], [], [0, 1, 2, 3, 4], [], [], [0, 1, 2, 3, 4, 5, 6, 7], [0, 1, 2, 3, 4, 5, 6, 7, 8]] mixed (by kernel_rfl) fun R hR => ?_   -- r5
    simp only [go_sem, hb0, hmade, hb1, hx, hb2, hy, hb3, hsm, hb4, hsq2, hb5]
    refine GCall_of (BandOf_pc Y _ _ _ (Sg.get_ext _ _ _ _ 3) made vmade.small.hr vmade.small.hs) ?_   -- t50
    simp only [go_sem, hb0, hmade, hb1, hx, hb2, hy, hb3, hsm, hb4, hsq2, hb5]
    refine GCall_of (BandOf_pc Y _ _ _ (Sg.get_ext _ _ _ _ 3) made vmade.small.hr vmade.small.hs) ?_   -- t53
    simp only [go_sem, hb0, hmade, hb1, hx, hb2, hy, hb3, hsm, hb4, hsq2, hb5]
    try refine And.intro (by repeat' (first | refine And.intro ?_ ?_ | exact GOr_right (fun _ => by simp only [go_sem, hb0, hmade, hb1, hx, hb2, hy, hb3, hsm, hb4, hsq2, hb5]))) ?_
    refine hR _ _ (kq7 _ _ ?_); clear hR R; try clear kq7 kz7
    try simp only [go_sem, hb0, hmade, hb1, hx, hb2, hy, hb3, hsm, hb4, hsq2, hb5]
    refine W_seq fun kz8 kq8 => ?_
    refine W_draw [17, 18, 19, 20, 21] [0, 1, 2, 3, 4, 5, 6, 7, 8, 9, 10, 11, 12, 13, 14, 15, 16, 17, 18, 19, 20, 21, 22, 23, 24, 25, 26, 27, 28, 29, 30, 31] [(0, 24), (0, 32), (1, 24), (1, 32), (2, 24), (2, 32), (3, 24), (3, 32), (4, 24), (4, 32), (5, 24), (5, 32), (6, 24), (6, 32), (7, 24), (7, 32), (8, 24), (8, 32), (9, 24), (9, 32), (10, 24), (10, 32), (11, 24), (11, 32), (12, 24), (12, 32), (16, 15), (16, 32), (17, 32), (18, 15), (18, 32), (19, 15), (20, 15), (21, 15), (22, 15), (23, 15), (25, 15), (25, 24)] [[], [], [], [0, 1, 2], [], [], [], [4, 5, 6], [], [], [], [8, 9, 10], [], [], [], [13, 14], [], [12, 13, 14, 15, 16], [], [], [], [20], [20, 21], [20, 21, 22], [13, 14, 15, 19, 20, 21, 22, 23], [], [13, 14, 15, 18, 19, 20, 21, 22, 23, 24, 25], [0, 1, 2, 3, 13, 14, 15, 19, 20, 21, 22, 23, 24], [0, 1, 2, 3, 4, 5, 6, 7, 13, 14, 15, 19, 20, 21, 22, 23, 24, 27], [0, 1, 2, 3, 4, 5, 6, 7, 8, 9, 10, 11, 13, 14, 15, 19, 20, 21, 22, 23, 24, 27, 28], [0, 1, 2, 3, 4, 5, 6, 7, 8, 9, 10, 11, 12, 13, 14, 15, 16, 17, 19, 20, 21, 22, 23, 24, 27, 28, 29], [0, 1, 2, 3, 4, 5, 6, 7, 8, 9, 10, 11, 12, 13, 14, 15, 16, 17, 18, 19, 20, 21, 22, 23, 24, 25, 26, 27, 28, 29, 30]] mixed (by kernel_rfl) fun R hR => ?_   -- r6
    simp only [go_sem, hb0, hmade, hb1, hx, hb2, hy, hb3, hsm, hb4, hsq2, hb5]
    refine GCall_of (BandsOf_pc Y _ _ _ (Sg.get_ext _ _ _ _ 3) made 5 vmade.small.hr vmade.small.hs (by omega) (by omega)) ?_   -- t69
    simp only [go_sem, hb0, hmade, hb1, hx, hb2, hy, hb3, hsm, hb4, hsq2, hb5]
    refine GCall_of (Roll_pc Y _ _ _ (Sg.get_ext _ _ _ _ 3) made.town.rooms.length (by have := vmade.small.hr; omega)) ?_   -- t78
    simp only [go_sem, hb0, hmade, hb1, hx, hb2, hy, hb3, hsm, hb4, hsq2, hb5]
    try refine And.intro (by repeat' (first | refine And.intro ?_ ?_ | exact GOr_right (fun _ => by simp only [go_sem, hb0, hmade, hb1, hx, hb2, hy, hb3, hsm, hb4, hsq2, hb5]))) ?_
    refine hR _ _ (kq8 _ _ ?_); clear hR R; try clear kq8 kz8
    try simp only [go_sem, hb0, hmade, hb1, hx, hb2, hy, hb3, hsm, hb4, hsq2, hb5]
    refine W_seq fun kz9 kq9 => ?_
    refine W_seq fun kz10 kq10 => ?_
    refine W_region [17, 18, 19, 20, 21, 22] fun R hR => ?_   -- r7
    simp only [go_sem, hb0, hmade, hb1, hx, hb2, hy, hb3, hsm, hb4, hsq2, hb5]
    refine hR _ _ (kq10 _ _ ?_); clear hR R; try clear kq10 kz10
    try simp only [go_sem, hb0, hmade, hb1, hx, hb2, hy, hb3, hsm, hb4, hsq2, hb5]
    refine W_block ?_
    obtain ⟨cs, hcs⟩ : ∃ z, z = [c, made, made] := ⟨_, rfl⟩
    obtain ⟨as1, has⟩ : ∃ z, z = [a, x, a] := ⟨_, rfl⟩
    obtain ⟨bs1, hbs⟩ : ∃ z, z = [b, y, y] := ⟨_, rfl⟩
    obtain ⟨lss, hls⟩ : ∃ z, z = [l, sm, l] := ⟨_, rfl⟩
    obtain ⟨sqs1, hss⟩ : ∃ z, z = [sq, sq2, sq] := ⟨_, rfl⟩
    refine W_weak (Weak.eq (E' := [(17, .isl (cs.map ctPV) .exact), (18, .isl (as1.map bdPV) .exact), (19, .isl (bs1.map bdPV) .exact), (20, .isl (lss.map bsPV) .exact), (21, .isl (sqs1.map I) .exact), (22, I 0)]) (by rw [hcs, has, hbs, hls, hss]; rfl) rfl) ?_
    have lc : cs.length = 3 := by rw [hcs]; rfl
    have la : as1.length = 3 := by rw [has]; rfl
    have lb : bs1.length = 3 := by rw [hbs]; rfl
    have ll : lss.length = 3 := by rw [hls]; rfl
    have ls : sqs1.length = 3 := by rw [hss]; rfl
    have hfc : ∀ z, z ∈ cs → z.Few := fun z hz => by
      rw [hcs] at hz; simp only [List.mem_cons, List.not_mem_nil, or_false] at hz
      rcases hz with rfl | rfl | rfl
      · exact fewc
      · exact vmade.few
      · exact vmade.few
    have hfa : ∀ z, z ∈ as1 → z.path.length ≤ 15 := fun z hz => by
      rw [has] at hz; simp only [List.mem_cons, List.not_mem_nil, or_false] at hz
      have := vx.p1
      rcases hz with rfl | rfl | rfl
      · exact w7 _ (by simp)
      · omega
      · exact w7 _ (by simp)
    have hfb : ∀ z, z ∈ bs1 → z.path.length ≤ 15 := fun z hz => by
      rw [hbs] at hz; simp only [List.mem_cons, List.not_mem_nil, or_false] at hz
      have := vy.p1
      rcases hz with rfl | rfl | rfl
      · exact w7 _ (by simp)
      · omega
      · omega
    have hfl : ∀ z, z ∈ lss → BandsFew z := fun z hz => by
      rw [hls] at hz; simp only [List.mem_cons, List.not_mem_nil, or_false] at hz
      rcases hz with rfl | rfl | rfl
      · exact ⟨by omega, fun q hq => w7 _ (by simp [hq])⟩
      · exact ⟨by have := vsm.1; omega, fun q hq => by have := (vsm.2 q hq).p1; omega⟩
      · exact ⟨by omega, fun q hq => w7 _ (by simp [hq])⟩
    clear hcs has hbs hls hss
    refine W_loopS (α := Nat) (fun (i : Nat) => [(22, I i)]) (fun (i : Nat) => i ≤ 3) (fun (i : Nat) => 3 - i) (0) rfl (Nat.zero_le _) ?_
    rintro i hi
    refine W_seq fun kz11 kq11 => ?_
    refine W_seq fun kz12 kq12 => ?_
    refine W_region [17, 18, 19, 20, 21, 22, 84] fun R hR => ?_   -- r8
    simp only [go_sem, hb0, hmade, hb1, hx, hb2, hy, hb3, hsm, hb4, hsq2, hb5, lc]
    refine hR _ _ (kq12 _ _ ?_); clear hR R; try clear kq12 kz12
    try simp only [go_sem, hb0, hmade, hb1, hx, hb2, hy, hb3, hsm, hb4, hsq2, hb5, lc]
    refine W_cond rfl (fun c2 => ?_) (fun c2 => ?_)
    · -- c2 true
      try simp only [nrm] at c2
      have hi' : i < 3 := by first | assumption | omega
      obtain ⟨c1', hx1⟩ : ∃ z, cs[i]? = some z := ⟨cs[i]'(by rw [lc]; exact hi'), by simp⟩
      obtain ⟨a1', hx2⟩ : ∃ z, as1[i]? = some z := ⟨as1[i]'(by rw [la]; exact hi'), by simp⟩
      obtain ⟨b1', hx3⟩ : ∃ z, bs1[i]? = some z := ⟨bs1[i]'(by rw [lb]; exact hi'), by simp⟩
      obtain ⟨l1', hx4⟩ : ∃ z, lss[i]? = some z := ⟨lss[i]'(by rw [ll]; exact hi'), by simp⟩
      obtain ⟨s1', hx5⟩ : ∃ z, sqs1[i]? = some z := ⟨sqs1[i]'(by rw [ls]; exact hi'), by simp⟩
      have fc := hfc _ (List.mem_of_getElem? hx1)
      have fa := hfa _ (List.mem_of_getElem? hx2)
      have fb := hfb _ (List.mem_of_getElem? hx3)
      have fl := hfl _ (List.mem_of_getElem? hx4)
      refine W_skip (kq11 _ _ ?_)
      refine W_seq fun kz13 kq13 => ?_
      refine W_block ?_
      refine W_seq fun kz14 kq14 => ?_
      refine W_draw [17, 18, 19, 20, 21, 22, 23, 24] [0, 1, 2, 3, 4, 5, 6, 7, 8, 9, 10, 11, 12] [(5, 4), (6, 4), (7, 4), (8, 4)] [[], [], [0, 1], [0, 1, 2], [0, 1, 2, 3], [], [], [5, 6], [5, 6, 7], [0, 1, 2, 3, 4, 5, 6, 7, 8], [], [0, 1, 2, 3, 4, 5, 6, 7, 8, 9, 10], [0, 1, 2, 3, 4, 5, 6, 7, 8, 9, 10, 11]] mixed (by kernel_rfl) fun R hR => ?_   -- r10
      simp only [go_sem, hb0, hmade, hb1, hx, hb2, hy, hb3, hsm, hb4, hsq2, hb5, lc, hx1, hx2, hx3, hx4, hx5]
      refine GCall_of (OwnCity_pc Y _ c1' fc.small) ?_   -- t91
      simp only [go_sem, hb0, hmade, hb1, hx, hb2, hy, hb3, hsm, hb4, hsq2, hb5, lc, hx1, hx2, hx3, hx4, hx5]
      refine GCall_of (OwnBands_pc Y _ l1' (by have := fl.1; omega) (fun z hz => by have := fl.2 z hz; omega)) ?_   -- t96
      simp only [go_sem, hb0, hmade, hb1, hx, hb2, hy, hb3, hsm, hb4, hsq2, hb5, lc, hx1, hx2, hx3, hx4, hx5]
      try refine And.intro (by repeat' (first | refine And.intro ?_ ?_ | exact GOr_right (fun _ => by simp only [go_sem, hb0, hmade, hb1, hx, hb2, hy, hb3, hsm, hb4, hsq2, hb5, lc, hx1, hx2, hx3, hx4, hx5]))) ?_
      refine hR _ _ (kq14 _ _ ?_); clear hR R; try clear kq14 kz14
      try simp only [go_sem, hb0, hmade, hb1, hx, hb2, hy, hb3, hsm, hb4, hsq2, hb5, lc, hx1, hx2, hx3, hx4, hx5]
      refine W_seq fun kz15 kq15 => ?_
      refine W_draw [17, 18, 19, 20, 21, 22, 23, 24, 25, 26] [0, 1, 2, 3, 4, 5, 6, 7, 8, 9, 10, 11, 12, 13, 14] [] [[], [], [], [1, 2], [1, 2, 3], [], [], [5, 6], [5, 6, 7], [0, 1, 2, 3, 4, 5, 6, 7, 8], [0, 1, 2, 3, 4, 5, 6, 7, 8, 9], [0, 1, 2, 3, 4, 5, 6, 7, 8, 9, 10], [0, 1, 2, 3, 4, 5, 6, 7, 8, 9, 10], [0, 1, 2, 3, 4, 5, 6, 7, 8, 9, 10, 11], [0, 1, 2, 3, 4, 5, 6, 7, 8, 9, 10, 11, 12, 13]] mixed (by kernel_rfl) fun R hR => ?_   -- r11
      simp only [go_sem, hb0, hmade, hb1, hx, hb2, hy, hb3, hsm, hb4, hsq2, hb5, lc, hx1, hx2, hx3, hx4, hx5]
      refine GCall_of (bCross_pc Y _ c1' a1' b1' fc.okc (by omega) (by omega)) ?_   -- t107
      simp only [go_sem, hb0, hmade, hb1, hx, hb2, hy, hb3, hsm, hb4, hsq2, hb5, lc, hx1, hx2, hx3, hx4, hx5]
      try refine And.intro (by repeat' (first | refine And.intro ?_ ?_ | exact GOr_right (fun _ => by simp only [go_sem, hb0, hmade, hb1, hx, hb2, hy, hb3, hsm, hb4, hsq2, hb5, lc, hx1, hx2, hx3, hx4, hx5]))) ?_
      refine hR _ _ (kq15 _ _ ?_); clear hR R; try clear kq15 kz15
      try simp only [go_sem, hb0, hmade, hb1, hx, hb2, hy, hb3, hsm, hb4, hsq2, hb5, lc, hx1, hx2, hx3, hx4, hx5]
      refine W_seq fun kz16 kq16 => ?_
      refine W_draw [17, 18, 19, 20, 21, 22, 23, 24, 25, 26, 27, 28] [0, 1, 2, 3, 4, 5, 6, 7, 8, 9, 10, 11, 12, 13, 14, 15, 16, 17] [] [[], [], [0, 1], [0, 1, 2], [], [], [4, 5], [4, 5, 6], [], [], [8, 9], [8, 9, 10], [0, 1, 2, 3, 4, 5, 6, 7, 8, 9, 10, 11], [0, 1, 2, 3, 4, 5, 6, 7, 8, 9, 10, 11, 12], [0, 1, 2, 3, 4, 5, 6, 7, 8, 9, 10, 11, 12, 13], [0, 1, 2, 3, 4, 5, 6, 7, 8, 9, 10, 11, 12, 13], [0, 1, 2, 3, 4, 5, 6, 7, 8, 9, 10, 11, 12, 13, 14], [0, 1, 2, 3, 4, 5, 6, 7, 8, 9, 10, 11, 12, 13, 14, 15, 16]] mixed (by kernel_rfl) fun R hR => ?_   -- r12
      simp only [go_sem, hb0, hmade, hb1, hx, hb2, hy, hb3, hsm, hb4, hsq2, hb5, lc, hx1, hx2, hx3, hx4, hx5]
      refine GCall_of (rCross_pc Y _ c1' a1' b1' fc.okc (by omega) (by omega)) ?_   -- t123
      simp only [go_sem, hb0, hmade, hb1, hx, hb2, hy, hb3, hsm, hb4, hsq2, hb5, lc, hx1, hx2, hx3, hx4, hx5]
      try refine And.intro (by repeat' (first | refine And.intro ?_ ?_ | exact GOr_right (fun _ => by simp only [go_sem, hb0, hmade, hb1, hx, hb2, hy, hb3, hsm, hb4, hsq2, hb5, lc, hx1, hx2, hx3, hx4, hx5]))) ?_
      refine hR _ _ (kq16 _ _ ?_); clear hR R; try clear kq16 kz16
      try simp only [go_sem, hb0, hmade, hb1, hx, hb2, hy, hb3, hsm, hb4, hsq2, hb5, lc, hx1, hx2, hx3, hx4, hx5]
      refine W_seq fun kz17 kq17 => ?_
      refine W_draw [17, 18, 19, 20, 21, 22, 23, 24, 25, 26, 27, 28, 29, 30, 31] [0, 1, 2, 3, 4, 5, 6, 7, 8, 9, 10, 11, 12, 13] [] [[], [], [], [], [2, 3], [2, 3, 4], [0, 1, 2, 3, 4, 5], [0, 1, 2, 3, 4, 5, 6], [0, 1, 2, 3, 4, 5, 6, 7], [0, 1, 2, 3, 4, 5, 6, 7], [0, 1, 2, 3, 4, 5, 6, 7], [0, 1, 2, 3, 4, 5, 6, 7, 8], [0, 1, 2, 3, 4, 5, 6, 7, 8, 9, 11], [0, 1, 2, 3, 4, 5, 6, 7, 8, 9, 10, 11, 12]] mixed (by kernel_rfl) fun R hR => ?_   -- r13
      simp only [go_sem, hb0, hmade, hb1, hx, hb2, hy, hb3, hsm, hb4, hsq2, hb5, lc, hx1, hx2, hx3, hx4, hx5]
      refine GCall_of (PC.ofRo (bSleep_pc Y _ c1' l1' s1' fc.okc fl.okb) (by simp only [go_sem, bands] <;> rfl)) ?_   -- t133
      simp only [go_sem, hb0, hmade, hb1, hx, hb2, hy, hb3, hsm, hb4, hsq2, hb5, lc, hx1, hx2, hx3, hx4, hx5]
      try refine And.intro (by repeat' (first | refine And.intro ?_ ?_ | exact GOr_right (fun _ => by simp only [go_sem, hb0, hmade, hb1, hx, hb2, hy, hb3, hsm, hb4, hsq2, hb5, lc, hx1, hx2, hx3, hx4, hx5]))) ?_
      refine hR _ _ (kq17 _ _ ?_); clear hR R; try clear kq17 kz17
      try simp only [go_sem, hb0, hmade, hb1, hx, hb2, hy, hb3, hsm, hb4, hsq2, hb5, lc, hx1, hx2, hx3, hx4, hx5]
      refine W_seq fun kz18 kq18 => ?_
      refine W_draw [17, 18, 19, 20, 21, 22, 23, 24, 25, 26, 27, 28, 29, 30, 31, 32, 33, 34] [0, 1, 2, 3, 4, 5, 6, 7, 8, 9, 10, 11, 12, 13, 14, 15, 16, 17, 18, 19] [] [[], [], [0, 1], [0, 1, 2], [], [], [4, 5], [4, 5, 6], [], [], [8, 9], [8, 9, 10], [0, 1, 2, 3, 4, 5, 6, 7, 8, 9, 10, 11], [0, 1, 2, 3, 4, 5, 6, 7, 8, 9, 10, 11, 12], [0, 1, 2, 3, 4, 5, 6, 7, 8, 9, 10, 11, 12, 13], [0, 1, 2, 3, 4, 5, 6, 7, 8, 9, 10, 11, 12, 13], [0, 1, 2, 3, 4, 5, 6, 7, 8, 9, 10, 11, 12, 13], [0, 1, 2, 3, 4, 5, 6, 7, 8, 9, 10, 11, 12, 13, 14], [0, 1, 2, 3, 4, 5, 6, 7, 8, 9, 10, 11, 12, 13, 14, 15, 17], [0, 1, 2, 3, 4, 5, 6, 7, 8, 9, 10, 11, 12, 13, 14, 15, 16, 17, 18]] mixed (by kernel_rfl) fun R hR => ?_   -- r14
      simp only [go_sem, hb0, hmade, hb1, hx, hb2, hy, hb3, hsm, hb4, hsq2, hb5, lc, hx1, hx2, hx3, hx4, hx5]
      refine GCall_of (rSleep_pc Y _ c1' l1' s1' fc.okc fl.okb) ?_   -- t150
      simp only [go_sem, hb0, hmade, hb1, hx, hb2, hy, hb3, hsm, hb4, hsq2, hb5, lc, hx1, hx2, hx3, hx4, hx5]
      try refine And.intro (by repeat' (first | refine And.intro ?_ ?_ | exact GOr_right (fun _ => by simp only [go_sem, hb0, hmade, hb1, hx, hb2, hy, hb3, hsm, hb4, hsq2, hb5, lc, hx1, hx2, hx3, hx4, hx5]))) ?_
      refine hR _ _ (kq18 _ _ ?_); clear hR R; try clear kq18 kz18
      try simp only [go_sem, hb0, hmade, hb1, hx, hb2, hy, hb3, hsm, hb4, hsq2, hb5, lc, hx1, hx2, hx3, hx4, hx5]
      refine W_seq fun kz19 kq19 => ?_
      refine W_draw [17, 18, 19, 20, 21, 22, 194] [0, 1, 2, 3, 4, 5, 6, 7, 8, 9, 10, 11, 12, 13, 14, 15, 16, 17, 18, 19, 20, 21, 22, 23, 24, 25, 26, 27, 28, 29, 30, 31, 32, 33, 34, 35, 36, 37, 38, 39, 40] [] [[], [], [0, 1], [0, 1, 2], [0, 1, 2, 3], [0, 1, 2, 3], [0, 1, 2, 3, 4, 5], [0, 1, 2, 3, 4, 5, 6], [0, 1, 2, 3, 4, 5, 6, 7], [0, 1, 2, 3, 4, 5, 6, 7, 8], [0, 1, 2, 3, 4, 5, 6, 7, 8], [0, 1, 2, 3, 4, 5, 6, 7, 8, 9, 10], [0, 1, 2, 3, 4, 5, 6, 7, 8, 9, 10, 11], [0, 1, 2, 3, 4, 5, 6, 7, 8, 9, 10, 11, 12], [0, 1, 2, 3, 4, 5, 6, 7, 8, 9, 10, 11, 12, 13], [0, 1, 2, 3, 4, 5, 6, 7, 8, 9, 10, 11, 12, 13], [0, 1, 2, 3, 4, 5, 6, 7, 8, 9, 10, 11, 12, 13, 14, 15], [0, 1, 2, 3, 4, 5, 6, 7, 8, 9, 10, 11, 12, 13, 14, 15, 16], [0, 1, 2, 3, 4, 5, 6, 7, 8, 9, 10, 11, 12, 13, 14, 15, 16, 17], [0, 1, 2, 3, 4, 5, 6, 7, 8, 9, 10, 11, 12, 13, 14, 15, 16, 17, 18], [0, 1, 2, 3, 4, 5, 6, 7, 8, 9, 10, 11, 12, 13, 14, 15, 16, 17, 18], [0, 1, 2, 3, 4, 5, 6, 7, 8, 9, 10, 11, 12, 13, 14, 15, 16, 17, 18, 19, 20], [0, 1, 2, 3, 4, 5, 6, 7, 8, 9, 10, 11, 12, 13, 14, 15, 16, 17, 18, 19, 20, 21], [0, 1, 2, 3, 4, 5, 6, 7, 8, 9, 10, 11, 12, 13, 14, 15, 16, 17, 18, 19, 20, 21, 22], [0, 1, 2, 3, 4, 5, 6, 7, 8, 9, 10, 11, 12, 13, 14, 15, 16, 17, 18, 19, 20, 21, 22, 23], [0, 1, 2, 3, 4, 5, 6, 7, 8, 9, 10, 11, 12, 13, 14, 15, 16, 17, 18, 19, 20, 21, 22, 23], [0, 1, 2, 3, 4, 5, 6, 7, 8, 9, 10, 11, 12, 13, 14, 15, 16, 17, 18, 19, 20, 21, 22, 23], [0, 1, 2, 3, 4, 5, 6, 7, 8, 9, 10, 11, 12, 13, 14, 15, 16, 17, 18, 19, 20, 21, 22, 23, 25, 26], [0, 1, 2, 3, 4, 5, 6, 7, 8, 9, 10, 11, 12, 13, 14, 15, 16, 17, 18, 19, 20, 21, 22, 23, 25, 26, 27], [0, 1, 2, 3, 4, 5, 6, 7, 8, 9, 10, 11, 12, 13, 14, 15, 16, 17, 18, 19, 20, 21, 22, 23, 24, 25, 26, 27, 28], [0, 1, 2, 3, 4, 5, 6, 7, 8, 9, 10, 11, 12, 13, 14, 15, 16, 17, 18, 19, 20, 21, 22, 23, 24, 25, 26, 27, 28, 29], [0, 1, 2, 3, 4, 5, 6, 7, 8, 9, 10, 11, 12, 13, 14, 15, 16, 17, 18, 19, 20, 21, 22, 23, 24, 25, 26, 27, 28, 29, 30], [0, 1, 2, 3, 4, 5, 6, 7, 8, 9, 10, 11, 12, 13, 14, 15, 16, 17, 18, 19, 20, 21, 22, 23, 24, 25, 26, 27, 28, 29, 30, 31], [0, 1, 2, 3, 4, 5, 6, 7, 8, 9, 10, 11, 12, 13, 14, 15, 16, 17, 18, 19, 20, 21, 22, 23, 24, 25, 26, 27, 28, 29, 30, 31, 32], [0, 1, 2, 3, 4, 5, 6, 7, 8, 9, 10, 11, 12, 13, 14, 15, 16, 17, 18, 19, 20, 21, 22, 23, 24, 25, 26, 27, 28, 29, 30, 31, 32], [0, 1, 2, 3, 4, 5, 6, 7, 8, 9, 10, 11, 12, 13, 14, 15, 16, 17, 18, 19, 20, 21, 22, 23, 24, 25, 26, 27, 28, 29, 30, 31, 32], [0, 1, 2, 3, 4, 5, 6, 7, 8, 9, 10, 11, 12, 13, 14, 15, 16, 17, 18, 19, 20, 21, 22, 23, 24, 25, 26, 27, 28, 29, 30, 31, 32, 34, 35], [0, 1, 2, 3, 4, 5, 6, 7, 8, 9, 10, 11, 12, 13, 14, 15, 16, 17, 18, 19, 20, 21, 22, 23, 24, 25, 26, 27, 28, 29, 30, 31, 32, 34, 35, 36], [0, 1, 2, 3, 4, 5, 6, 7, 8, 9, 10, 11, 12, 13, 14, 15, 16, 17, 18, 19, 20, 21, 22, 23, 24, 25, 26, 27, 28, 29, 30, 31, 32, 33, 34, 35, 36, 37], [0, 1, 2, 3, 4, 5, 6, 7, 8, 9, 10, 11, 12, 13, 14, 15, 16, 17, 18, 19, 20, 21, 22, 23, 24, 25, 26, 27, 28, 29, 30, 31, 32, 33, 34, 35, 36, 37, 38], [0, 1, 2, 3, 4, 5, 6, 7, 8, 9, 10, 11, 12, 13, 14, 15, 16, 17, 18, 19, 20, 21, 22, 23, 24, 25, 26, 27, 28, 29, 30, 31, 32, 33, 34, 35, 36, 37, 38, 39]] mixed (by kernel_rfl) fun R hR => ?_   -- r15
      simp only [go_sem, hb0, hmade, hb1, hx, hb2, hy, hb3, hsm, hb4, hsq2, hb5, lc, hx1, hx2, hx3, hx4, hx5]
      refine GCall_of (EqCities_pc Y _ c1' fc.okc) ?_   -- t183
      simp only [go_sem, hb0, hmade, hb1, hx, hb2, hy, hb3, hsm, hb4, hsq2, hb5, lc, hx1, hx2, hx3, hx4, hx5]
      refine GCall_of (PC.ofRo (EqBands_pc Y _ l1' fl.okb) (by simp only [go_sem, bands] <;> rfl)) ?_   -- t192
      simp only [go_sem, hb0, hmade, hb1, hx, hb2, hy, hb3, hsm, hb4, hsq2, hb5, lc, hx1, hx2, hx3, hx4, hx5]
      try refine And.intro (by repeat' (first | refine And.intro ?_ ?_ | exact GOr_right (fun _ => by simp only [go_sem, hb0, hmade, hb1, hx, hb2, hy, hb3, hsm, hb4, hsq2, hb5, lc, hx1, hx2, hx3, hx4, hx5]))) ?_
      refine hR _ _ (kq19 _ _ ?_); clear hR R; try clear kq19 kz19
      try simp only [go_sem, hb0, hmade, hb1, hx, hb2, hy, hb3, hsm, hb4, hsq2, hb5, lc, hx1, hx2, hx3, hx4, hx5]
      refine W_cond rfl (fun c3 => ?_) (fun c3 => ?_)
      · -- c3 true
        try simp only [nrm] at c3
        exfalso
        simp at c3
      · -- c3 false
        try simp only [nrm] at c3
        refine W_skip (kq13 _ _ ?_)
        refine W_region [17, 18, 19, 20, 21, 22] fun R hR => ?_   -- r9
        simp only [go_sem, hb0, hmade, hb1, hx, hb2, hy, hb3, hsm, hb4, hsq2, hb5, lc, hx1, hx2, hx3, hx4, hx5]
        try simp (disch := omega) only [wrapI, wrapU]
        refine hR _ _ ?_; clear hR R
        try simp only [go_sem, hb0, hmade, hb1, hx, hb2, hy, hb3, hsm, hb4, hsq2, hb5, lc, hx1, hx2, hx3, hx4, hx5]
        refine ⟨i + 1, ?_, by (try simp only []); omega, ?_⟩
        · refine Weak.trans (Weak.cutX 7 1 (by omega) (by omega) hcl (by simp only [go_sem] <;> omega) (by simp only [go_sem] <;> omega)) ?_
          simp only [go_sem]
          exact Weak.eq (by first | rfl | (simp only [go_sem]; done) | (simp only [go_sem]; rfl) | (simp [go_sem]; done) | (simp [go_sem]; omega)) (by first | rfl | (simp only [go_sem]; done) | (simp [go_sem]; done))
        · try dsimp only
          omega
    · -- c2 false
      try simp only [nrm] at c2
      refine W_exit ?_
      simp only [go_sem, hb0, hmade, hb1, hx, hb2, hy, hb3, hsm, hb4, hsq2, hb5, lc]
      refine kq9 _ _ ?_
      refine W_seq fun kz20 kq20 => ?_
      refine W_region [12] fun R hR => ?_   -- r17
      simp only [go_sem, hb0, hmade, hb1, hx, hb2, hy, hb3, hsm, hb4, hsq2, hb5, lc]
      refine GCall_of (lawake_pc Y _) ?_   -- t195
      simp only [go_sem, hb0, hmade, hb1, hx, hb2, hy, hb3, hsm, hb4, hsq2, hb5, lc]
      refine hR _ _ (kq20 _ _ ?_); clear hR R; try clear kq20 kz20
      try simp only [go_sem, hb0, hmade, hb1, hx, hb2, hy, hb3, hsm, hb4, hsq2, hb5, lc]
      refine W_ret ?_
      simp only [go_sem, hb0, hmade, hb1, hx, hb2, hy, hb3, hsm, hb4, hsq2, hb5, lc]
      refine ⟨.inr (by trivial), ?_⟩
      first | refine Fin_same hcl rfl (Wk_eq ?_ (by simp only [go_sem])) | refine Fin_self hcl rfl (Wk_eq ?_ (by simp only [go_sem]))
      try simp only [go_sem]
      all_goals
        first | rfl | (simp_all; done) | (simp_all; omega)

end Go.Proofs.Ytnpamcpoaklgeaa

namespace Go.Proofs.Ytnpamcpoaklgeaa
open Go Go.RowKit

theorem rdBandCrossesArgs : All2 (fun t R => Rd Try.prog t R) Try.f3.params.toList [fun p => ∃ c : City, p = ctPV c ∧ citySz c, fun p => ∃ l : List Band, p = bands l ∧ l.length * 64 ≤ 140737488351232 ∧ ∀ b, b ∈ l → bandSz b, fun p => ∃ b : Band, p = bdPV b ∧ bandSz b, fun p => ∃ b : Band, p = bdPV b ∧ bandSz b, fun p => ∃ n : Int, p = I n, fun p => ∃ xs : List Int, p = ints xs ∧ xs.length * 8 ≤ 140737488351232] :=
  .cons rdCity (.cons rdBands (.cons rdBand (.cons rdBand (.cons rdInt (.cons rdInts .nil)))))
set_option maxHeartbeats 4000000 in
theorem BandCrosses_walk : ∀ qs, AllR [fun p => ∃ c : City, p = ctPV c ∧ citySz c, fun p => ∃ l : List Band, p = bands l ∧ l.length * 64 ≤ 140737488351232 ∧ ∀ b, b ∈ l → bandSz b, fun p => ∃ b : Band, p = bdPV b ∧ bandSz b, fun p => ∃ b : Band, p = bdPV b ∧ bandSz b, fun p => ∃ n : Int, p = I n, fun p => ∃ xs : List Int, p = ints xs ∧ xs.length * 8 ≤ 140737488351232] qs → ∃ σ', PC Try.prog noY 3 qs Sg.zero (.bool true) σ' := by
  intro qs hq
  obtain ⟨px0, qs, rfl, ⟨x0, hx0, sx0⟩, hq⟩ := allR_cons hq
  obtain ⟨px1, qs, rfl, ⟨x1, hx1, sx1⟩, hq⟩ := allR_cons hq
  obtain ⟨px2, qs, rfl, ⟨x2, hx2, sx2⟩, hq⟩ := allR_cons hq
  obtain ⟨px3, qs, rfl, ⟨x3, hx3, sx3⟩, hq⟩ := allR_cons hq
  obtain ⟨px4, qs, rfl, ⟨x4, hx4⟩, hq⟩ := allR_cons hq
  obtain ⟨px5, qs, rfl, ⟨x5, hx5, sx5⟩, hq⟩ := allR_cons hq
  obtain rfl := allR_nil hq
  subst hx0 hx1 hx2 hx3 hx4 hx5
  exact ⟨_, BandCrosses_pc noY _ x0 x1 x2 x3 x4 x5 ⟨sx0.hr, sx0.hs, sx0.hg, sx0.hp, sx0.hsl⟩ sx1 sx2 sx3 (by omega)⟩
theorem BandCrosses_lifted (os : Os) (started : os.Started) (H : Type) (enc : TypeId × Value → H) :
    ReturnsInHanded {} Try.checked os 3 .any (Rows.bandCrossesSpec.pre6 enc Try.prog Try.f3 Rows.bandCrossesRow.domain false) (Rows.bandCrossesSpec.post enc Try.prog Try.f3 false true false false) :=
  law_lifted (C := Try.checked) own started (by kernel_rfl) Try.func3 rfl laidOut (by kernel_rfl) rdBandCrossesArgs rfl Try.underlying4
    (fun ds h => match ds, h with | [_, _, _, _, _, _], _ => rfl)
    (ChangeSpec.witness6 (enc := enc) (C := Try.checked) false ⟨#[], #[Value.agg #[.slice none 0 0, .slice none 0 0, .slice none 0 0, .int .i64 0, .int .i64 0, .slice none 0 0], .slice none 0 0, Value.agg #[.int .i64 0, .slice none 0 0, .int .i64 0, .int .i64 0, .int .i64 0, .int .i64 0], Value.agg #[.int .i64 0, .slice none 0 0, .int .i64 0, .int .i64 0, .int .i64 0, .int .i64 0], .int .i64 0, .slice none 0 0], []⟩ 8 (by kernel_rfl) (by kernel_rfl) (by kernel_rfl) (by kernel_rfl))
    BandCrosses_walk
theorem BandCrosses_holds : Rows.BandCrossesSaid :=
  OpenClaim.holds_of_wide 3 Try.f3 rfl rfl rfl rfl rfl rfl rfl ⟨rfl, rfl, rfl, rfl, rfl⟩ rfl rfl rfl rfl rfl (by kernel_rfl) Try.func3 (by kernel_rfl)
    (of_decide_eq_true (by kernel_rfl)) (by unfold Func.isWrapper; first | (rw [if_pos (by decide +kernel)]; kernel_rfl) | (rw [if_neg (by decide +kernel)]; exact ⟨rfl, rfl⟩))
    (fun os started H enc _ => BandCrosses_lifted os started H enc)
end Go.Proofs.Ytnpamcpoaklgeaa
