/-
  The law BandBest, walked: no choice grants more.
  The law BandBest: whatever comes in, it answers true and leaves what came in as it was.
-/
import Derived.Test.YtnpamcpoaklgeaaPk
import Derived.Test.YtnpamcpoaklgeaaPd
import Derived.JoinedOf
set_option linter.unusedSimpArgs false
set_option linter.unusedVariables false
namespace Go.Proofs.Ytnpamcpoaklgeaa
open Go Go.RowKit
set_option maxRecDepth 100000

theorem EqInts_val (Y : YEnv) (σ : Sg) (xs ys : List Int) (hx : xs.length < 2 ^ 50) : PC Try.prog Y 41 [ints xs, ints ys] σ (.bool (decide (xs = ys))) σ := EqInts_pc Y σ xs ys .ro .ro hx
theorem eqbool {a b : Bool} : eqPV Try.prog 4 (.bool a) (.bool b) = some (a == b) := by kernel_rfl
attribute [go_sem] eqbool
theorem pplOf_append (l m : List Band) : pplOf (l ++ m) = pplOf l + pplOf m := by
  induction l with
  | nil => simp [pplOf]
  | cons a l ih => simp only [List.cons_append, pplOf, ih]; omega
theorem bandsAt_one {l : List Band} {i : Nat} {b : Band} (h : l[i]? = some b) : bandsAt l [i] = [b] := by simp [bandsAt, h]

set_option maxHeartbeats 8000000 in
theorem BandBest_pc (Y : YEnv) (σ : Sg) (nums : List Int) (hn : nums.length < 2 ^ 60) :
    PC Try.prog Y 9 [ints nums] σ (.bool true) (σ) := by
  refine PC_of_W Try.func9 rfl (by kernel_rfl) Try.ntmps9 (by simp) fun hcl hca => ?_
  obtain ⟨b0, hb0⟩ : ∃ z, drumB nums 2685821657736338717 = z := ⟨_, rfl⟩
  obtain ⟨made, hmade⟩ : ∃ zz, (cityD b0).1 = zz := ⟨_, rfl⟩
  obtain ⟨b1, hb1⟩ : ∃ zz, (cityD b0).2 = zz := ⟨_, rfl⟩
  obtain ⟨l, hl⟩ : ∃ zz, (bandsD made 4 b1).1 = zz := ⟨_, rfl⟩
  obtain ⟨b2, hb2⟩ : ∃ zz, (bandsD made 4 b1).2 = zz := ⟨_, rfl⟩
  have vmade : CityV made := by rw [← hmade]; exact cityD_ok b0
  have vl : l.length ≤ 4 ∧ ∀ b, b ∈ l → BandV made b := by rw [← hl]; exact bandsD_ok vmade 4 b1
  have vck := vmade.chk
  have vcl : ∀ b, b ∈ l → chkBand made b = 0 := fun b hb => (vl.2 b hb).chk vmade
  obtain ⟨es, hes⟩ : ∃ z, grantL made [] l = z := ⟨_, rfl⟩
  have lle : es.length = l.length := by rw [← hes]; exact grantL_len ..
  obtain ⟨B, hB1, hB⟩ := prog_best (c := made) (l := l) vck
  have hBa := hB.asc
  have hBl : B.length ≤ 4 := by rw [← bandsAt_len_eq hBa.2]; have h1 := bandsAt_len l B; obtain ⟨s, hs, hsB⟩ := memN_of_asc _ _ hBa; have := memN_len s l.length; rw [hsB] at this; rw [bandsAt_len_eq hBa.2]; omega
  obtain ⟨gl, hgl⟩ : ∃ z, grantedOf l es = z := ⟨_, rfl⟩
  have hgle : gl.length ≤ B.length := by rw [← hgl, ← hes]; exact greedy_le vck hB
  have hpb : pbAns made l = (intsN B, 0) := by
    unfold pbAns
    rw [if_neg (by rw [chkAll_of vck (by omega) vcl]; simp), if_neg (by omega), hB1]
  obtain ⟨bst, hbst⟩ : ∃ z, intsN B = z := ⟨_, rfl⟩
  have hbsl : bst.length = B.length := by rw [← hbst]; exact intsN_len B
  rw [hbst] at hpb
  have hsl := shl1 (n := l.length) (by omega)
  have hpw : 2 ^ l.length ≤ 2 ^ 4 := Nat.pow_le_pow_right (by omega) (by omega)
  obtain ⟨N, hN⟩ : ∃ z, 2 ^ l.length = z := ⟨_, rfl⟩
  rw [hN] at hsl hpw
  refine W_seq fun kz1 kq1 => ?_
  refine W_region [0] fun R hR => ?_   -- r0
  simp only [go_sem, hb0, hmade, hb1, hl, hb2, hsl]
  refine hR _ _ (kq1 _ _ ?_); clear hR R; try clear kq1 kz1
  try simp only [go_sem, hb0, hmade, hb1, hl, hb2, hsl]
  refine W_seq fun kz2 kq2 => ?_
  refine W_region [3] fun R hR => ?_   -- r1
  simp only [go_sem, hb0, hmade, hb1, hl, hb2, hsl]
  refine GCall_of (DrumOf_pc Y _ nums hn) ?_   -- t22
  simp only [go_sem, hb0, hmade, hb1, hl, hb2, hsl]
  refine hR _ _ (kq2 _ _ ?_); clear hR R; try clear kq2 kz2
  try simp only [go_sem, hb0, hmade, hb1, hl, hb2, hsl]
  refine W_seq fun kz3 kq3 => ?_
  refine W_region [3, 4] fun R hR => ?_   -- r2
  simp only [go_sem, hb0, hmade, hb1, hl, hb2, hsl]
  refine GCall_of (CityOf_pc Y _ _ _ (Sg.get_ext0 _ _ _ _)) ?_   -- t24
  simp only [go_sem, hb0, hmade, hb1, hl, hb2, hsl]
  refine hR _ _ (kq3 _ _ ?_); clear hR R; try clear kq3 kz3
  try simp only [go_sem, hb0, hmade, hb1, hl, hb2, hsl]
  refine W_seq fun kz4 kq4 => ?_
  refine W_region [4, 5] fun R hR => ?_   -- r3
  simp only [go_sem, hb0, hmade, hb1, hl, hb2, hsl]
  refine GCall_of (BandsOf_pc Y _ _ _ (Sg.get_ext0 _ _ _ _) made 4 vmade.small.hr vmade.small.hs (by omega) (by omega)) ?_   -- t27
  simp only [go_sem, hb0, hmade, hb1, hl, hb2, hsl]
  refine hR _ _ (kq4 _ _ ?_); clear hR R; try clear kq4 kz4
  try simp only [go_sem, hb0, hmade, hb1, hl, hb2, hsl]
  refine W_seq fun kz5 kq5 => ?_
  refine W_region [4, 5, 6, 7] fun R hR => ?_   -- r4
  simp only [go_sem, hb0, hmade, hb1, hl, hb2, hsl]
  refine GCall_of (PC.val (v' := .tuple [ints bst, I 0]) (bBest_pc Y _ made l vmade.okc (BandV.okl vl.2 (by omega))) (by rw [hpb])) ?_   -- t31
  simp only [go_sem, hb0, hmade, hb1, hl, hb2, hsl]
  refine hR _ _ (kq5 _ _ ?_); clear hR R; try clear kq5 kz5
  try simp only [go_sem, hb0, hmade, hb1, hl, hb2, hsl]
  refine W_seq fun kz6 kq6 => ?_
  refine W_region [4, 5, 6, 7, 8, 9] fun R hR => ?_   -- r5
  simp only [go_sem, hb0, hmade, hb1, hl, hb2, hsl]
  refine GCall_of (PC.val (v' := .tuple [ints es, I 0]) (Grant_pc Y _ made l vmade.okc (BandV.okl vl.2 (by omega))) (by rw [grantAns_of vck (by omega) vcl, hes])) ?_   -- t37
  simp only [go_sem, hb0, hmade, hb1, hl, hb2, hsl]
  refine hR _ _ (kq6 _ _ ?_); clear hR R; try clear kq6 kz6
  try simp only [go_sem, hb0, hmade, hb1, hl, hb2, hsl]
  refine W_seq fun kz7 kq7 => ?_
  refine W_seq fun kz8 kq8 => ?_
  refine W_region [4, 5, 6, 54] fun R hR => ?_   -- r6
  simp only [go_sem, hb0, hmade, hb1, hl, hb2, hsl]
  refine GCall_of (PC.val (v' := bands gl) (lgranted_pc Y _ l es (by omega) (by omega)) (by rw [hgl])) ?_   -- t49
  simp only [go_sem, hb0, hmade, hb1, hl, hb2, hsl]
  refine hR _ _ (kq8 _ _ ?_); clear hR R; try clear kq8 kz8
  try simp only [go_sem, hb0, hmade, hb1, hl, hb2, hsl]
  refine W_cond rfl (fun c1 => ?_) (fun c1 => ?_)
  · -- c1 true
    try simp only [nrm] at c1
    exfalso
    omega
  · -- c1 false
    try simp only [nrm] at c1
    refine W_skip (kq7 _ _ ?_)
    refine W_seq fun kz9 kq9 => ?_
    refine W_region [4, 5, 6, 10, 11] fun R hR => ?_   -- r8
    simp only [go_sem, hb0, hmade, hb1, hl, hb2, hsl]
    refine hR _ _ (kq9 _ _ ?_); clear hR R; try clear kq9 kz9
    try simp only [go_sem, hb0, hmade, hb1, hl, hb2, hsl]
    refine W_seq fun kz10 kq10 => ?_
    refine W_seq fun kz11 kq11 => ?_
    refine W_region [4, 5, 6, 10, 11, 12] fun R hR => ?_   -- r9
    simp only [go_sem, hb0, hmade, hb1, hl, hb2, hsl]
    refine hR _ _ (kq11 _ _ ?_); clear hR R; try clear kq11 kz11
    try simp only [go_sem, hb0, hmade, hb1, hl, hb2, hsl]
    refine W_block ?_
    refine W_loopS (α := Nat × Int) (fun ⟨i, people⟩ => [(10, I people), (12, I i)]) (fun ⟨i, people⟩ => i ≤ B.length ∧ people = pplOf (bandsAt l (B.take i))) (fun ⟨i, people⟩ => B.length - i) ((0, 0)) rfl (⟨Nat.zero_le _, rfl⟩) ?_
    rintro ⟨i, people⟩ ⟨hi, hpe⟩
    refine W_seq fun kz12 kq12 => ?_
    refine W_seq fun kz13 kq13 => ?_
    refine W_region [4, 5, 6, 10, 11, 12, 58] fun R hR => ?_   -- r10
    simp only [go_sem, hb0, hmade, hb1, hl, hb2, hsl]
    refine hR _ _ (kq13 _ _ ?_); clear hR R; try clear kq13 kz13
    try simp only [go_sem, hb0, hmade, hb1, hl, hb2, hsl]
    refine W_cond rfl (fun c2 => ?_) (fun c2 => ?_)
    · -- c2 true
      try simp only [nrm] at c2
      have hi' : i < B.length := by omega
      obtain ⟨k, hk⟩ : ∃ k, B[i]? = some k := ⟨B[i], by simp [hi']⟩
      have hkl := hBa.2 k (List.mem_of_getElem? hk)
      have hx : bst[i]? = some (k : Int) := by rw [← hbst]; simp [intsN, hk]
      obtain ⟨b, hb⟩ : ∃ b, l[k]? = some b := ⟨_, List.getElem?_eq_getElem hkl⟩
      have hk0 : ((k : Int) < 0) = False := eq_false (by omega)
      have htb := timesOf_ok (chkBand_ok (vcl b (List.mem_of_getElem? hb))).2
      have hpbd := ppl_bd (c := made) (l := bandsAt l (B.take i)) (fun x hx => vcl x (bandsAt_mem hx))
      have hbl3 := bandsAt_len l (B.take i)
      have hbl4 := List.length_take_le i B
      rw [← hpe] at hpbd
      refine W_skip (kq12 _ _ ?_)
      refine W_seq fun kz14 kq14 => ?_
      refine W_block ?_
      refine W_seq fun kz15 kq15 => ?_
      refine W_seq fun kz16 kq16 => ?_
      refine W_region [4, 5, 6, 10, 11, 12, 74] fun R hR => ?_   -- r12
      simp only [go_sem, hb0, hmade, hb1, hl, hb2, hsl, hx, hb, hk0]
      refine hR _ _ (kq16 _ _ ?_); clear hR R; try clear kq16 kz16
      try simp only [go_sem, hb0, hmade, hb1, hl, hb2, hsl, hx, hb, hk0]
      refine W_cond rfl (fun c3 => ?_) (fun c3 => ?_)
      · -- c3 true
        try simp only [nrm] at c3
        exfalso
        omega
      · -- c3 false
        try simp only [nrm] at c3
        refine W_skip (kq15 _ _ ?_)
        refine W_region [4, 5, 6, 10, 11, 12] fun R hR => ?_   -- r14
        simp only [go_sem, hb0, hmade, hb1, hl, hb2, hsl, hx, hb, hk0]
        try simp (disch := omega) only [wrapI, wrapU]
        refine hR _ _ (kq14 _ _ ?_); clear hR R; try clear kq14 kz14
        try simp only [go_sem, hb0, hmade, hb1, hl, hb2, hsl, hx, hb, hk0]
        refine W_region [4, 5, 6, 10, 11, 12] fun R hR => ?_   -- r11
        simp only [go_sem, hb0, hmade, hb1, hl, hb2, hsl, hx, hb, hk0]
        try simp (disch := omega) only [wrapI, wrapU]
        refine hR _ _ ?_; clear hR R
        try simp only [go_sem, hb0, hmade, hb1, hl, hb2, hsl, hx, hb, hk0]
        refine ⟨(i + 1, people + b.people), ?_, by (try simp only []); omega, ?_⟩
        · first | exact Weak.refl | exact Weak.eq (by first | rfl | (simp only [go_sem]; done) | (simp only [go_sem]; rfl) | (simp [go_sem]; done) | (simp [go_sem]; omega)) (by first | rfl | (simp only [go_sem]; done) | (simp [go_sem]; done))
        · try dsimp only
          exact ⟨hi', by rw [take_snoc hk, bandsAt_append, bandsAt_one hb, pplOf_snoc, hpe]⟩
    · -- c2 false
      try simp only [nrm] at c2
      obtain rfl : i = B.length := by omega
      rw [List.take_length] at hpe
      refine W_exit ?_
      simp only [go_sem, hb0, hmade, hb1, hl, hb2, hsl]
      refine kq10 _ _ ?_
      refine W_seq fun kz17 kq17 => ?_
      refine W_seq fun kz18 kq18 => ?_
      refine W_region [4, 5, 6, 10, 11, 13] fun R hR => ?_   -- r15
      simp only [go_sem, hb0, hmade, hb1, hl, hb2, hsl]
      refine hR _ _ (kq18 _ _ ?_); clear hR R; try clear kq18 kz18
      try simp only [go_sem, hb0, hmade, hb1, hl, hb2, hsl]
      refine W_block ?_
      refine W_loopS (α := Nat × Bool) (fun ⟨s, found⟩ => [(11, .bool found), (13, I s)]) (fun ⟨s, found⟩ => s ≤ N ∧ (found = true ↔ ∃ t, t < s ∧ intsN (memN t l.length) = bst)) (fun ⟨s, found⟩ => N - s) ((0, false)) rfl (⟨Nat.zero_le _, fun h => (by cases h), fun ⟨t, h, _⟩ => (by omega)⟩) ?_
      rintro ⟨s, found⟩ ⟨hs, hfo⟩
      refine W_seq fun kz19 kq19 => ?_
      refine W_seq fun kz20 kq20 => ?_
      refine W_region [4, 5, 6, 10, 11, 13, 89] fun R hR => ?_   -- r16
      simp only [go_sem, hb0, hmade, hb1, hl, hb2, hsl]
      refine hR _ _ (kq20 _ _ ?_); clear hR R; try clear kq20 kz20
      try simp only [go_sem, hb0, hmade, hb1, hl, hb2, hsl]
      refine W_cond rfl (fun c4 => ?_) (fun c4 => ?_)
      · -- c4 true
        try simp only [nrm] at c4
        have hs' : s < N := by omega
        obtain ⟨ms, hms⟩ : ∃ z, intsN (memN s l.length) = z := ⟨_, rfl⟩
        obtain ⟨bs, hbs⟩ : ∃ z, bandsAt l (memN s l.length) = z := ⟨_, rfl⟩
        obtain ⟨pp, hpp⟩ : ∃ z, pplOf bs = z := ⟨_, rfl⟩
        have hml : ms.length ≤ 4 := by rw [← hms]; have := memN_len s l.length; simp [intsN]; omega
        have hbsl2 : bs.length ≤ 4 := by rw [← hbs]; have := memN_len s l.length; have := bandsAt_len l (memN s l.length); omega
        have hbm : ∀ x, x ∈ bs → x ∈ l := fun x hx => by rw [← hbs] at hx; exact bandsAt_mem hx
        obtain ⟨es2, hes2⟩ : ∃ z, grantL made [] bs = z := ⟨_, rfl⟩
        have lle2 : es2.length = bs.length := by rw [← hes2]; exact grantL_len ..
        obtain ⟨gl2, hgl2⟩ : ∃ z, grantedOf bs es2 = z := ⟨_, rfl⟩
        have hgt := granted_tog (c := made) (L := bs) vck
        rw [hes2, hgl2] at hgt
        have hfo2 : (found || decide (ms = bst)) = true ↔ ∃ t, t < s + 1 ∧ intsN (memN t l.length) = bst := by
          rw [Bool.or_eq_true, hfo, decide_eq_true_eq]
          constructor
          · rintro (⟨t, h1, h2⟩ | h)
            · exact ⟨t, by omega, h2⟩
            · exact ⟨s, by omega, by rw [hms, h]⟩
          · rintro ⟨t, h1, h2⟩
            by_cases e : t = s
            · subst e; exact .inr (by rw [← hms, h2])
            · exact .inl ⟨t, by omega, h2⟩
        have hbt : betterB ms pp bst people = true ↔ Bt l (memN s l.length) B := by
          unfold Bt; rw [hms, hbs, hpp, hbst, hpe]
        have hsm : ms = bst → togB made bs = true := fun h => by
          rw [← hms, ← hbst] at h; rw [← hbs, intsN_inj h]; exact hB.tog
        have hnb : togB made bs = true → ¬ betterB ms pp bst people = true := fun h h' => hB.best (memN s l.length) (asc_memN _ _) (by rw [hbs]; exact h) (hbt.1 h')
        refine W_skip (kq19 _ _ ?_)
        refine W_seq fun kz21 kq21 => ?_
        refine W_block ?_
        refine W_seq fun kz22 kq22 => ?_
        refine W_region [4, 5, 6, 10, 11, 13, 14, 15, 16] fun R hR => ?_   -- r18
        simp only [go_sem, hb0, hmade, hb1, hl, hb2, hsl]
        refine GCall_of (PC.val (v' := .tuple [ints ms, bands bs, I pp]) (Members_pc Y _ made l s (by omega) (by omega) vcl) (by rw [hms, hbs, hpp])) ?_   -- t95
        simp only [go_sem, hb0, hmade, hb1, hl, hb2, hsl]
        refine hR _ _ (kq22 _ _ ?_); clear hR R; try clear kq22 kz22
        try simp only [go_sem, hb0, hmade, hb1, hl, hb2, hsl]
        refine W_seq fun kz23 kq23 => ?_
        refine W_region [4, 5, 6, 10, 11, 13, 14, 15, 16, 17] fun R hR => ?_   -- r19
        simp only [go_sem, hb0, hmade, hb1, hl, hb2, hsl]
        refine GCall_of (EqInts_val Y _ ms bst (by omega)) ?_   -- t101
        simp only [go_sem, hb0, hmade, hb1, hl, hb2, hsl]
        refine hR _ _ (kq23 _ _ ?_); clear hR R; try clear kq23 kz23
        try simp only [go_sem, hb0, hmade, hb1, hl, hb2, hsl]
        refine W_seq fun kz24 kq24 => ?_
        refine W_regionJ [4, 5, 6, 10, 11, 13, 15, 17, 18] [(18, .bool (betterB ms pp bst people))] ?_ fun R hR => ?_   -- r20
        · refine kq24 _ _ ?_
          simp only [go_sem, hb0, hmade, hb1, hl, hb2, hsl]
          refine W_seq fun kz25 kq25 => ?_
          refine W_seq fun kz26 kq26 => ?_
          refine W_regionJ [4, 5, 6, 10, 11, 13, 15, 17, 134] [(134, .bool (!decide (ms = bst) && !betterB ms pp bst people))] ?_ fun R hR => ?_   -- r21
          · refine kq26 _ _ ?_
            simp only [go_sem, hb0, hmade, hb1, hl, hb2, hsl]
            refine W_cond rfl (fun c5 => ?_) (fun c5 => ?_)
            · -- c5 true
              try simp only [nrm] at c5
              refine W_exit ?_
              simp only [go_sem, hb0, hmade, hb1, hl, hb2, hsl]
              refine kq21 _ _ ?_
              refine W_region [4, 5, 6, 10, 11, 13] fun R hR => ?_   -- r17
              simp only [go_sem, hb0, hmade, hb1, hl, hb2, hsl]
              try simp (disch := omega) only [wrapI, wrapU]
              refine hR _ _ ?_; clear hR R
              try simp only [go_sem, hb0, hmade, hb1, hl, hb2, hsl]
              refine ⟨(s + 1, found), ?_, by (try simp only []); omega, ?_⟩
              · first | exact Weak.refl | exact Weak.eq (by first | rfl | (simp only [go_sem]; done) | (simp only [go_sem]; rfl) | (simp [go_sem]; done) | (simp [go_sem]; omega)) (by first | rfl | (simp only [go_sem]; done) | (simp [go_sem]; done))
              · try dsimp only
                first | exact ⟨hs', hfo2⟩ | (have hne : ¬ ms = bst := (by simp at c5; exact c5.1); simp only [hne, decide_false, Bool.or_false] at hfo2; exact ⟨hs', hfo2⟩)
            · -- c5 false
              try simp only [nrm] at c5
              refine W_skip (kq25 _ _ ?_)
              refine W_seq fun kz27 kq27 => ?_
              refine W_region [4, 5, 6, 10, 11, 13, 15, 17, 19, 20] fun R hR => ?_   -- r22
              simp only [go_sem, hb0, hmade, hb1, hl, hb2, hsl]
              refine GCall_of (PC.val (v' := .tuple [ints es2, I 0]) (PC.ofRo (Grant_pc Y _ made bs vmade.okc (BandV.okl (fun b hb => vl.2 b (hbm b hb)) (by omega))) (by simp only [go_sem, bands] <;> rfl)) (by rw [grantAns_of vck (by omega) (fun b hb => vcl b (hbm b hb)), hes2])) ?_   -- t138
              simp only [go_sem, hb0, hmade, hb1, hl, hb2, hsl]
              refine hR _ _ (kq27 _ _ ?_); clear hR R; try clear kq27 kz27
              try simp only [go_sem, hb0, hmade, hb1, hl, hb2, hsl]
              refine W_seq fun kz28 kq28 => ?_
              refine W_seq fun kz29 kq29 => ?_
              refine W_region [4, 5, 6, 10, 11, 13, 17, 153] fun R hR => ?_   -- r23
              simp only [go_sem, hb0, hmade, hb1, hl, hb2, hsl]
              refine GCall_of (PC.val (v' := bands gl2) (lgranted_pc Y _ bs es2 (by omega) (by omega)) (by rw [hgl2])) ?_   -- t146
              simp only [go_sem, hb0, hmade, hb1, hl, hb2, hsl]
              refine hR _ _ (kq29 _ _ ?_); clear hR R; try clear kq29 kz29
              try simp only [go_sem, hb0, hmade, hb1, hl, hb2, hsl]
              refine W_cond rfl (fun c6 => ?_) (fun c6 => ?_)
              · -- c6 true
                try simp only [nrm] at c6
                exfalso
                have hiff : gl2.length = bs.length ↔ ms = bst := by
                  refine ⟨fun h => ?_, fun h => hgt.2 (hsm h)⟩
                  rcases Classical.em (ms = bst) with e | e
                  · exact e
                  · simp [e] at c5
                    exact absurd c5 (hnb (hgt.1 h))
                have hee : (((gl2.length : Int)) == (bs.length : Int)) = decide (ms = bst) := by
                  rw [Bool.eq_iff_iff, beq_iff_eq, decide_eq_true_eq, ← hiff]
                  omega
                rw [hee] at c6
                simp at c6
              · -- c6 false
                try simp only [nrm] at c6
                refine W_skip (kq28 _ _ ?_)
                refine W_regionJ [4, 5, 6, 10, 11, 13] [(11, .bool (found || decide (ms = bst)))] ?_ fun R hR => ?_   -- r25
                · refine kq21 _ _ ?_
                  simp only [go_sem, hb0, hmade, hb1, hl, hb2, hsl]
                  refine W_region [4, 5, 6, 10, 11, 13] fun R hR => ?_   -- r17
                  simp only [go_sem, hb0, hmade, hb1, hl, hb2, hsl]
                  try simp (disch := omega) only [wrapI, wrapU]
                  refine hR _ _ ?_; clear hR R
                  try simp only [go_sem, hb0, hmade, hb1, hl, hb2, hsl]
                  refine ⟨(s + 1, found || decide (ms = bst)), ?_, by (try simp only []); omega, ?_⟩
                  · first | exact Weak.refl | exact Weak.eq (by first | rfl | (simp only [go_sem]; done) | (simp only [go_sem]; rfl) | (simp [go_sem]; done) | (simp [go_sem]; omega)) (by first | rfl | (simp only [go_sem]; done) | (simp [go_sem]; done))
                  · try dsimp only
                    first | exact ⟨hs', hfo2⟩ | (have hne : ¬ ms = bst := (by simp at c5; exact c5.1); simp only [hne, decide_false, Bool.or_false] at hfo2; exact ⟨hs', hfo2⟩)
                · simp only [go_sem, hb0, hmade, hb1, hl, hb2, hsl]
                  refine GWant_split (fun g1 => ?_) (fun g1 => ?_)
                  · try simp only [Bool.not_eq_true', Bool.not_eq_false'] at g1
                    have n1 := g1; try simp only [nrm] at n1
                    simp only [go_sem, hb0, hmade, hb1, hl, hb2, hsl, g1]
                    refine hR _ ?_
                    try simp only [go_sem, hb0, hmade, hb1, hl, hb2, hsl]
                    all_goals
                      first | (simp [*]; done)
                  · try simp only [Bool.not_eq_true', Bool.not_eq_false'] at g1
                    have n1 := g1; try simp only [nrm] at n1
                    simp only [go_sem, hb0, hmade, hb1, hl, hb2, hsl, g1]
                    refine hR _ ?_
                    try simp only [go_sem, hb0, hmade, hb1, hl, hb2, hsl]
                    all_goals
                      first | (simp [*]; done)
          · simp only [go_sem, hb0, hmade, hb1, hl, hb2, hsl]
            refine GWant_split (fun g2 => ?_) (fun g2 => ?_)
            · try simp only [Bool.not_eq_true', Bool.not_eq_false'] at g2
              have n2 := g2; try simp only [nrm] at n2
              simp only [go_sem, hb0, hmade, hb1, hl, hb2, hsl, g2]
              refine hR _ ?_
              try simp only [go_sem, hb0, hmade, hb1, hl, hb2, hsl]
              all_goals
                (simp [n2]; done)
            · try simp only [Bool.not_eq_true', Bool.not_eq_false'] at g2
              have n2 := g2; try simp only [nrm] at n2
              simp only [go_sem, hb0, hmade, hb1, hl, hb2, hsl, g2]
              refine hR _ ?_
              try simp only [go_sem, hb0, hmade, hb1, hl, hb2, hsl]
              all_goals
                (simp [n2]; done)
        · simp only [go_sem, hb0, hmade, hb1, hl, hb2, hsl]
          refine GWant_split (fun g3 => ?_) (fun g3 => ?_)
          · try simp only [Bool.not_eq_true', Bool.not_eq_false'] at g3
            have n3 := g3; try simp only [nrm] at n3
            simp only [go_sem, hb0, hmade, hb1, hl, hb2, hsl, g3]
            refine GWant_split (fun g4 => ?_) (fun g4 => ?_)
            · try simp only [Bool.not_eq_true', Bool.not_eq_false'] at g4
              have n4 := g4; try simp only [nrm] at n4
              simp only [go_sem, hb0, hmade, hb1, hl, hb2, hsl, g3, g4]
              refine GWant_split (fun g5 => ?_) (fun g5 => ?_)
              · try simp only [Bool.not_eq_true', Bool.not_eq_false'] at g5
                have n5 := g5; try simp only [nrm] at n5
                simp only [go_sem, hb0, hmade, hb1, hl, hb2, hsl, g3, g4, g5]
                refine GWant_split (fun g6 => ?_) (fun g6 => ?_)
                · try simp only [Bool.not_eq_true', Bool.not_eq_false'] at g6
                  have n6 := g6; try simp only [nrm] at n6
                  simp only [go_sem, hb0, hmade, hb1, hl, hb2, hsl, g3, g4, g5, g6]
                  refine GCall_of (Before_pc Y _ ms bst (by omega) (by omega)) ?_   -- t124
                  simp only [go_sem, hb0, hmade, hb1, hl, hb2, hsl, g3, g4, g5, g6]
                  refine hR _ ?_
                  try simp only [go_sem, hb0, hmade, hb1, hl, hb2, hsl]
                  all_goals
                    first | (simp [betterB, *]; done) | (simp [betterB, *]; omega)
                · try simp only [Bool.not_eq_true', Bool.not_eq_false'] at g6
                  have n6 := g6; try simp only [nrm] at n6
                  simp only [go_sem, hb0, hmade, hb1, hl, hb2, hsl, g3, g4, g5, g6]
                  refine hR _ ?_
                  try simp only [go_sem, hb0, hmade, hb1, hl, hb2, hsl]
                  all_goals
                    first | (simp [betterB, *]; done) | (simp [betterB, *]; omega)
              · try simp only [Bool.not_eq_true', Bool.not_eq_false'] at g5
                have n5 := g5; try simp only [nrm] at n5
                simp only [go_sem, hb0, hmade, hb1, hl, hb2, hsl, g3, g4, g5]
                refine hR _ ?_
                try simp only [go_sem, hb0, hmade, hb1, hl, hb2, hsl]
                all_goals
                  first | (simp [betterB, *]; done) | (simp [betterB, *]; omega)
            · try simp only [Bool.not_eq_true', Bool.not_eq_false'] at g4
              have n4 := g4; try simp only [nrm] at n4
              simp only [go_sem, hb0, hmade, hb1, hl, hb2, hsl, g3, g4]
              refine hR _ ?_
              try simp only [go_sem, hb0, hmade, hb1, hl, hb2, hsl]
              all_goals
                first | (simp [betterB, *]; done) | (simp [betterB, *]; omega)
          · try simp only [Bool.not_eq_true', Bool.not_eq_false'] at g3
            have n3 := g3; try simp only [nrm] at n3
            simp only [go_sem, hb0, hmade, hb1, hl, hb2, hsl, g3]
            refine hR _ ?_
            try simp only [go_sem, hb0, hmade, hb1, hl, hb2, hsl]
            all_goals
              first | (simp [betterB, *]; done) | (simp [betterB, *]; omega)
      · -- c4 false
        try simp only [nrm] at c4
        obtain rfl : s = N := by omega
        have hfound : found = true := by
          rw [hfo]
          obtain ⟨t, h1, h2⟩ := memN_of_asc _ _ hBa
          exact ⟨t, by omega, by rw [h2, hbst]⟩
        subst hfound
        refine W_exit ?_
        simp only [go_sem, hb0, hmade, hb1, hl, hb2, hsl]
        refine kq17 _ _ ?_
        refine W_seq fun kz30 kq30 => ?_
        refine W_region [2] fun R hR => ?_   -- r26
        simp only [go_sem, hb0, hmade, hb1, hl, hb2, hsl]
        refine GCall_of (lawake_pc Y _) ?_   -- t160
        simp only [go_sem, hb0, hmade, hb1, hl, hb2, hsl]
        refine hR _ _ (kq30 _ _ ?_); clear hR R; try clear kq30 kz30
        try simp only [go_sem, hb0, hmade, hb1, hl, hb2, hsl]
        refine W_ret ?_
        simp only [go_sem, hb0, hmade, hb1, hl, hb2, hsl]
        refine ⟨.inr (by trivial), ?_⟩
        first | refine Fin_same hcl rfl (Wk_eq ?_ (by simp only [go_sem])) | refine Fin_self hcl rfl (Wk_eq ?_ (by simp only [go_sem]))
        try simp only [go_sem]
        all_goals
          first | rfl | (simp_all; done) | (simp_all; omega)

end Go.Proofs.Ytnpamcpoaklgeaa

namespace Go.Proofs.Ytnpamcpoaklgeaa
open Go Go.RowKit

theorem rdBandBestArgs : All2 (fun t R => Rd Try.prog t R) Try.f9.params.toList [fun p => ∃ xs : List Int, p = ints xs ∧ xs.length * 8 ≤ 140737488351232] :=
  .cons rdInts .nil
set_option maxHeartbeats 4000000 in
theorem BandBest_walk : ∀ qs, AllR [fun p => ∃ xs : List Int, p = ints xs ∧ xs.length * 8 ≤ 140737488351232] qs → ∃ σ', PC Try.prog noY 9 qs Sg.zero (.bool true) σ' := by
  intro qs hq
  obtain ⟨px0, qs, rfl, ⟨x0, hx0, sx0⟩, hq⟩ := allR_cons hq
  obtain rfl := allR_nil hq
  subst hx0
  exact ⟨_, BandBest_pc noY _ x0 (by omega)⟩
theorem BandBest_lifted (os : Os) (started : os.Started) (H : Type) (enc : TypeId × Value → H) :
    ReturnsInHanded {} Try.checked os 9 .any (Rows.bandBestSpec.pre6 enc Try.prog Try.f9 Rows.bandBestRow.domain false) (Rows.bandBestSpec.post enc Try.prog Try.f9 false true false false) :=
  law_lifted (C := Try.checked) own started (by kernel_rfl) Try.func9 rfl laidOut (by kernel_rfl) rdBandBestArgs rfl Try.underlying4
    (fun ds h => match ds, h with | [_], _ => rfl)
    (ChangeSpec.witness6 (enc := enc) (C := Try.checked) false ⟨#[], #[.slice none 0 0], []⟩ 8 (by kernel_rfl) (by kernel_rfl) (by kernel_rfl) (by kernel_rfl))
    BandBest_walk
theorem BandBest_holds : Rows.BandBestSaid :=
  OpenClaim.holds_of_wide 9 Try.f9 rfl rfl rfl rfl rfl rfl rfl ⟨rfl, rfl, rfl, rfl, rfl⟩ rfl rfl rfl rfl rfl (by kernel_rfl) Try.func9 (by kernel_rfl)
    (of_decide_eq_true (by kernel_rfl)) (by unfold Func.isWrapper; first | (rw [if_pos (by decide +kernel)]; kernel_rfl) | (rw [if_neg (by decide +kernel)]; exact ⟨rfl, rfl⟩))
    (fun os started H enc _ => BandBest_lifted os started H enc)
end Go.Proofs.Ytnpamcpoaklgeaa
