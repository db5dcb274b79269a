/-
  The law BandNever, walked: granted bands never cross.
  The law BandNever: whatever comes in, it answers true and leaves what came in as it was.
-/
import Derived.Test.YtnpamcpoaklgeaaPj
import Derived.Test.YtnpamcpoaklgeaaPd
import Derived.JoinedOf
set_option linter.unusedSimpArgs false
set_option linter.unusedVariables false
namespace Go.Proofs.Ytnpamcpoaklgeaa
open Go Go.RowKit
set_option maxRecDepth 100000

theorem BandV.seq {c : City} {b : Band} (h : BandV c b) : 0 ≤ b.lo ∧ b.lo ≤ b.hi ∧ b.hi ≤ 720 ∧ 1 ≤ b.stay ∧ b.stay ≤ 20 := by
  have := h.l0; have := h.l1; have := h.l2; have := h.s0; have := h.s1; have := h.e1
  have hm : 0 ≤ b.stay * ((b.path.length : Int) + 1) := Int.mul_nonneg (by omega) (by omega)
  omega
theorem any_snoc {α : Type} {q : α → Bool} {l : List α} {i : Nat} {x : α} (h : l[i]? = some x) : (l.take (i + 1)).any q = ((l.take i).any q || q x) := by
  rw [List.take_add_one, h]; simp

set_option maxHeartbeats 8000000 in
theorem BandNever_pc (Y : YEnv) (σ : Sg) (nums : List Int) (hn : nums.length < 2 ^ 60) :
    PC Try.prog Y 7 [ints nums] σ (.bool true) (σ) := by
  refine PC_of_W Try.func7 rfl (by kernel_rfl) Try.ntmps7 (by simp) fun hcl hca => ?_
  obtain ⟨b0, hb0⟩ : ∃ z, drumB nums 2685821657736338717 = z := ⟨_, rfl⟩
  obtain ⟨made, hmade⟩ : ∃ zz, (cityD b0).1 = zz := ⟨_, rfl⟩
  obtain ⟨b1, hb1⟩ : ∃ zz, (cityD b0).2 = zz := ⟨_, rfl⟩
  obtain ⟨l, hl⟩ : ∃ zz, (bandsD made 5 b1).1 = zz := ⟨_, rfl⟩
  obtain ⟨b2, hb2⟩ : ∃ zz, (bandsD made 5 b1).2 = zz := ⟨_, rfl⟩
  have vmade : CityV made := by rw [← hmade]; exact cityD_ok b0
  have vl : l.length ≤ 5 ∧ ∀ b, b ∈ l → BandV made b := by rw [← hl]; exact bandsD_ok vmade 5 b1
  have vck := vmade.chk
  have hbrk := chkCity_brk vck
  have vcl : ∀ b, b ∈ l → chkBand made b = 0 := fun b hb => (vl.2 b hb).chk vmade
  obtain ⟨es, hes⟩ : ∃ z, grantL made [] l = z := ⟨_, rfl⟩
  have lle : es.length = l.length := by rw [← hes]; exact grantL_len ..
  refine W_seq fun kz1 kq1 => ?_
  refine W_region [0] fun R hR => ?_   -- r0
  simp only [go_sem, hb0, hmade, hb1, hl, hb2]
  refine hR _ _ (kq1 _ _ ?_); clear hR R; try clear kq1 kz1
  try simp only [go_sem, hb0, hmade, hb1, hl, hb2]
  refine W_seq fun kz2 kq2 => ?_
  refine W_region [3] fun R hR => ?_   -- r1
  simp only [go_sem, hb0, hmade, hb1, hl, hb2]
  refine GCall_of (DrumOf_pc Y _ nums hn) ?_   -- t18
  simp only [go_sem, hb0, hmade, hb1, hl, hb2]
  refine hR _ _ (kq2 _ _ ?_); clear hR R; try clear kq2 kz2
  try simp only [go_sem, hb0, hmade, hb1, hl, hb2]
  refine W_seq fun kz3 kq3 => ?_
  refine W_region [3, 4] fun R hR => ?_   -- r2
  simp only [go_sem, hb0, hmade, hb1, hl, hb2]
  refine GCall_of (CityOf_pc Y _ _ _ (Sg.get_ext0 _ _ _ _)) ?_   -- t20
  simp only [go_sem, hb0, hmade, hb1, hl, hb2]
  refine hR _ _ (kq3 _ _ ?_); clear hR R; try clear kq3 kz3
  try simp only [go_sem, hb0, hmade, hb1, hl, hb2]
  refine W_seq fun kz4 kq4 => ?_
  refine W_region [3, 4, 5] fun R hR => ?_   -- r3
  simp only [go_sem, hb0, hmade, hb1, hl, hb2]
  refine GCall_of (BandsOf_pc Y _ _ _ (Sg.get_ext0 _ _ _ _) made 5 vmade.small.hr vmade.small.hs (by omega) (by omega)) ?_   -- t23
  simp only [go_sem, hb0, hmade, hb1, hl, hb2]
  refine hR _ _ (kq4 _ _ ?_); clear hR R; try clear kq4 kz4
  try simp only [go_sem, hb0, hmade, hb1, hl, hb2]
  refine W_seq fun kz5 kq5 => ?_
  refine W_region [3, 4, 5, 6, 7] fun R hR => ?_   -- r4
  simp only [go_sem, hb0, hmade, hb1, hl, hb2]
  refine GCall_of (PC.val (v' := .tuple [ints es, I 0]) (Grant_pc Y _ made l vmade.okc (BandV.okl vl.2 (by omega))) (by rw [grantAns_of vmade.chk (by omega) vcl, hes])) ?_   -- t27
  simp only [go_sem, hb0, hmade, hb1, hl, hb2]
  refine hR _ _ (kq5 _ _ ?_); clear hR R; try clear kq5 kz5
  try simp only [go_sem, hb0, hmade, hb1, hl, hb2]
  refine W_seq fun kz6 kq6 => ?_
  refine W_seq fun kz7 kq7 => ?_
  refine W_region [3, 4, 5, 6, 38] fun R hR => ?_   -- r5
  simp only [go_sem, hb0, hmade, hb1, hl, hb2, lle]
  refine hR _ _ (kq7 _ _ ?_); clear hR R; try clear kq7 kz7
  try simp only [go_sem, hb0, hmade, hb1, hl, hb2]
  refine W_cond rfl (fun c1 => ?_) (fun c1 => ?_)
  · -- c1 true
    try simp only [nrm] at c1
    exfalso
    simp at c1
  · -- c1 false
    try simp only [nrm] at c1
    refine W_skip (kq6 _ _ ?_)
    refine W_seq fun kz8 kq8 => ?_
    refine W_seq fun kz9 kq9 => ?_
    refine W_region [3, 4, 5, 6, 8] fun R hR => ?_   -- r7
    simp only [go_sem, hb0, hmade, hb1, hl, hb2]
    refine hR _ _ (kq9 _ _ ?_); clear hR R; try clear kq9 kz9
    try simp only [go_sem, hb0, hmade, hb1, hl, hb2]
    refine W_block ?_
    refine W_loopT (α := Nat × Int) (fun ⟨i, b⟩ => [(8, I i)]) (fun ⟨i, b⟩ => σ.ext [some [.int .u64 b], some (ctCells made)] []) (fun ⟨i, b⟩ => i ≤ l.length) (fun ⟨i, b⟩ => l.length - i) ((0, b2)) rfl (by first | rfl | (simp only [go_sem]; done) | (simp only [go_sem]; rfl)) (Nat.zero_le _) ?_
    rintro ⟨i, b⟩ hi
    refine W_seq fun kz10 kq10 => ?_
    refine W_seq fun kz11 kq11 => ?_
    refine W_region [3, 4, 5, 6, 8, 42] fun R hR => ?_   -- r8
    simp only [go_sem, hb0, hmade, hb1, hl, hb2]
    refine hR _ _ (kq11 _ _ ?_); clear hR R; try clear kq11 kz11
    try simp only [go_sem, hb0, hmade, hb1, hl, hb2]
    refine W_cond rfl (fun c2 => ?_) (fun c2 => ?_)
    · -- c2 true
      try simp only [nrm] at c2
      have hi' : i < l.length := by first | assumption | omega
      obtain ⟨bb, hx⟩ : ∃ bb, l[i]? = some bb := ⟨l[i], by simp [hi']⟩
      have hdrop : l.drop i = bb :: l.drop (i + 1) := by
        rw [List.drop_eq_getElem_cons hi']; congr 1; exact (List.getElem?_eq_some_iff.1 hx).2
      have hbm := List.mem_of_getElem? hx
      have hbv := vcl bb hbm
      have hbs := (vl.2 bb hbm).seq
      have hbp := (vl.2 bb hbm).p1
      obtain ⟨e, he⟩ : ∃ e, es[i]? = some e := ⟨es[i]'(by omega), by simp⟩
      obtain ⟨bf, hbf⟩ : ∃ z, grantedOf (l.take i) es = z := ⟨_, rfl⟩
      have hbfl : ∀ x, x ∈ bf → x ∈ l := fun x hx => by rw [← hbf] at hx; exact List.mem_of_mem_take (grantedOf_mem hx)
      have hbfv : ∀ x, x ∈ bf → chkBand made x = 0 := fun x hx => vcl x (hbfl x hx)
      have hbfn : bf.length ≤ 5 := by
        rw [← hbf]; have := grantedOf_len (l.take i) es; simp at this; omega
      have hreq : e = reqOf made bf bb := by
        have := grantL_get made l [] i bb hx
        rw [hes, he, List.nil_append, hbf] at this
        exact Option.some.inj this
      have hmay : (e = 10) = (bf.any (fun x => decide (crossVal made x bb ≠ 2)) = true) := by
        rw [hreq, reqOf_ten, List.any_eq_true]
        refine propext ⟨fun ⟨x, h1, h2⟩ => ⟨x, h1, by rw [crossVal_symm vck (hbfv x h1) hbv]; simpa using h2⟩, fun ⟨x, h1, h2⟩ => ⟨x, h1, by rw [crossVal_symm vck hbv (hbfv x h1)]; simpa using h2⟩⟩
      obtain ⟨wy, hwy⟩ : ∃ z, (sqs made bb).1 = z := ⟨_, rfl⟩
      have hwl : wy.length ≤ 13 := by rw [← hwy]; exact (sqs_len made bb).1
      have hi5 : ¬ ((l.length : Int) < (i : Int)) := by omega
      refine W_skip (kq10 _ _ ?_)
      refine W_seq fun kz12 kq12 => ?_
      refine W_block ?_
      refine W_seq fun kz13 kq13 => ?_
      refine W_region [3, 4, 5, 6, 8, 9] fun R hR => ?_   -- r10
      simp only [go_sem, hb0, hmade, hb1, hl, hb2, hx, he, hi]
      refine GCall_of (PC.val (v' := bands bf) (PC.ofRo (lgranted_pc Y _ (l.take i) es (by simp; omega) (by simp; omega)) (by simp only [go_sem, bands, ← List.map_take] <;> rfl)) (by rw [hbf])) ?_   -- t49
      simp only [go_sem, hb0, hmade, hb1, hl, hb2, hx, he, hi]
      refine hR _ _ (kq13 _ _ ?_); clear hR R; try clear kq13 kz13
      try simp only [go_sem, hb0, hmade, hb1, hl, hb2, hx, he, hi]
      refine W_seq fun kz14 kq14 => ?_
      refine W_region [3, 4, 5, 6, 8, 9, 10] fun R hR => ?_   -- r11
      simp only [go_sem, hb0, hmade, hb1, hl, hb2, hx, he, hi]
      refine hR _ _ (kq14 _ _ ?_); clear hR R; try clear kq14 kz14
      try simp only [go_sem, hb0, hmade, hb1, hl, hb2, hx, he, hi]
      refine W_seq fun kz15 kq15 => ?_
      refine W_seq fun kz16 kq16 => ?_
      refine W_region [3, 4, 5, 6, 8, 9, 10, 11] fun R hR => ?_   -- r12
      simp only [go_sem, hb0, hmade, hb1, hl, hb2, hx, he, hi]
      refine hR _ _ (kq16 _ _ ?_); clear hR R; try clear kq16 kz16
      try simp only [go_sem, hb0, hmade, hb1, hl, hb2, hx, he, hi]
      refine W_block ?_
      refine W_loopT (α := Nat × Bool × Int) (fun ⟨k, may, b⟩ => [(10, .bool may), (11, I k)]) (fun ⟨k, may, b⟩ => σ.ext [some [.int .u64 b], some (ctCells made)] []) (fun ⟨k, may, b⟩ => k ≤ bf.length ∧ may = (bf.take k).any (fun x => decide (crossVal made x bb ≠ 2))) (fun ⟨k, may, b⟩ => bf.length - k) ((0, false, b)) rfl (by first | rfl | (simp only [go_sem]; done) | (simp only [go_sem]; rfl)) (⟨Nat.zero_le _, rfl⟩) ?_
      rintro ⟨k, may, b⟩ ⟨hk, hmy⟩
      refine W_seq fun kz17 kq17 => ?_
      refine W_seq fun kz18 kq18 => ?_
      refine W_region [3, 4, 5, 6, 8, 9, 10, 11, 53] fun R hR => ?_   -- r13
      simp only [go_sem, hb0, hmade, hb1, hl, hb2, hx, he, hi]
      refine hR _ _ (kq18 _ _ ?_); clear hR R; try clear kq18 kz18
      try simp only [go_sem, hb0, hmade, hb1, hl, hb2, hx, he, hi]
      refine W_cond rfl (fun c3 => ?_) (fun c3 => ?_)
      · -- c3 true
        try simp only [nrm] at c3
        have hk' : k < bf.length := by first | assumption | omega
        obtain ⟨x, hxk⟩ : ∃ x, bf[k]? = some x := ⟨bf[k], by simp [hk']⟩
        have hxm := List.mem_of_getElem? hxk
        have hxv := hbfv x hxm
        have hxs := (vl.2 x (hbfl x hxm)).seq
        have hxp := (vl.2 x (hbfl x hxm)).p1
        obtain ⟨m, hm⟩ : ∃ zz, (ofD x.lo x.hi b).1 = zz := ⟨_, rfl⟩
        obtain ⟨b4, hb4⟩ : ∃ zz, (ofD x.lo x.hi b).2 = zz := ⟨_, rfl⟩
        have dm := ofD_bd (show x.lo ≤ x.hi by omega) b
        simp only [hm] at dm
        obtain ⟨n, hn⟩ : ∃ zz, (ofD bb.lo bb.hi b4).1 = zz := ⟨_, rfl⟩
        obtain ⟨b5, hb5⟩ : ∃ zz, (ofD bb.lo bb.hi b4).2 = zz := ⟨_, rfl⟩
        have dn := ofD_bd (show bb.lo ≤ bb.hi by omega) b4
        simp only [hn] at dn
        refine W_skip (kq17 _ _ ?_)
        refine W_seq fun kz19 kq19 => ?_
        refine W_block ?_
        refine W_seq fun kz20 kq20 => ?_
        refine W_draw [3, 4, 5, 6, 8, 9, 10, 11, 12, 13] [0, 1, 2, 3, 4, 5, 6, 7, 8, 9, 10, 11, 12, 13, 14] [] [[], [], [], [1, 2], [1, 2, 3], [], [], [5, 6], [5, 6, 7], [0, 1, 2, 3, 4, 5, 6, 7, 8], [0, 1, 2, 3, 4, 5, 6, 7, 8, 9], [0, 1, 2, 3, 4, 5, 6, 7, 8, 9, 10], [0, 1, 2, 3, 4, 5, 6, 7, 8, 9, 10], [0, 1, 2, 3, 4, 5, 6, 7, 8, 9, 10, 11], [0, 1, 2, 3, 4, 5, 6, 7, 8, 9, 10, 11, 12, 13]] mixed (by kernel_rfl) fun R hR => ?_   -- r15
        simp only [go_sem, hb0, hmade, hb1, hl, hb2, hx, he, hi, hxk, hm, hb4, hn, hb5]
        refine GCall_of (PC.val (v' := .tuple [I (crossVal made x bb), I 0]) (bCross_pc Y _ made x bb vmade.okc (by omega) (by omega)) (by rw [crossAns_of vck hxv hbv])) ?_   -- t66
        simp only [go_sem, hb0, hmade, hb1, hl, hb2, hx, he, hi, hxk, hm, hb4, hn, hb5]
        try refine And.intro (by repeat' (first | refine And.intro ?_ ?_ | exact GOr_right (fun _ => by simp only [go_sem, hb0, hmade, hb1, hl, hb2, hx, he, hi, hxk, hm, hb4, hn, hb5]))) ?_
        refine hR _ _ (kq20 _ _ ?_); clear hR R; try clear kq20 kz20
        try simp only [go_sem, hb0, hmade, hb1, hl, hb2, hx, he, hi, hxk, hm, hb4, hn, hb5]
        refine W_seq fun kz21 kq21 => ?_
        refine W_seq fun kz22 kq22 => ?_
        refine W_region [3, 4, 5, 6, 8, 9, 10, 11, 12, 70] fun R hR => ?_   -- r16
        simp only [go_sem, hb0, hmade, hb1, hl, hb2, hx, he, hi, hxk, hm, hb4, hn, hb5]
        refine hR _ _ (kq22 _ _ ?_); clear hR R; try clear kq22 kz22
        try simp only [go_sem, hb0, hmade, hb1, hl, hb2, hx, he, hi, hxk, hm, hb4, hn, hb5]
        refine W_cond rfl (fun c4 => ?_) (fun c4 => ?_)
        · -- c4 true
          try simp only [nrm] at c4
          exfalso
          simp at c4
        · -- c4 false
          try simp only [nrm] at c4
          refine W_skip (kq21 _ _ ?_)
          refine W_seq fun kz23 kq23 => ?_
          refine W_regionJ [3, 4, 5, 6, 8, 9, 10, 11] [(10, .bool (may || decide (crossVal made x bb ≠ 2)))] ?_ fun R hR => ?_   -- r18
          · refine kq23 _ _ ?_
            simp only [go_sem, hb0, hmade, hb1, hl, hb2, hx, he, hi, hxk, hm, hb4, hn, hb5]
            refine W_seq fun kz24 kq24 => ?_
            refine W_draw [3, 4, 5, 6, 8, 9, 10, 11, 106] [0, 1, 2, 3, 4, 5, 6, 7, 8, 9, 10, 11, 12, 13, 14, 15, 16, 17, 18, 19, 20, 21, 22, 23, 24, 25, 26, 27, 28, 29, 30] [(6, 28), (6, 29), (7, 28), (7, 29), (8, 28), (8, 29), (9, 28), (9, 29), (10, 28), (10, 29), (11, 28), (11, 29), (12, 28), (12, 29), (13, 28), (13, 29), (14, 28), (14, 29), (22, 21), (23, 21), (24, 21), (25, 21), (26, 21), (27, 21)] [[], [], [0, 1], [0, 1, 2], [0, 1, 2, 3], [0, 1, 2, 3, 4], [0, 1, 2, 3, 4, 5], [0, 1, 2, 3, 4, 5], [0, 1, 2, 3, 4, 5], [0, 1, 2, 3, 4, 5, 7, 8], [0, 1, 2, 3, 4, 5, 7, 8, 9], [0, 1, 2, 3, 4, 5], [0, 1, 2, 3, 4, 5], [0, 1, 2, 3, 4, 5, 11, 12], [0, 1, 2, 3, 4, 5, 11, 12, 13], [0, 1, 2, 3, 4, 5], [0, 1, 2, 3, 4, 5], [0, 1, 2, 3, 4, 5], [0, 1, 2, 3, 4, 5, 16, 17], [0, 1, 2, 3, 4, 5, 16, 17, 18], [0, 1, 2, 3, 4, 5, 16, 17, 18, 19], [0, 1, 2, 3, 4, 5, 15, 16, 17, 18, 19, 20], [0, 1, 2, 3, 4, 5], [0, 1, 2, 3, 4, 5], [0, 1, 2, 3, 4, 5], [0, 1, 2, 3, 4, 5, 23, 24], [0, 1, 2, 3, 4, 5, 23, 24, 25], [0, 1, 2, 3, 4, 5, 23, 24, 25, 26], [0, 1, 2, 3, 4, 5, 15, 16, 17, 18, 19, 20, 21, 22, 23, 24, 25, 26, 27], [0, 1, 2, 3, 4, 5, 6, 7, 8, 9, 10, 11, 12, 13, 14, 15, 16, 17, 18, 19, 20, 21, 22, 23, 24, 25, 26, 27, 28], [0, 1, 2, 3, 4, 5, 6, 7, 8, 9, 10, 11, 12, 13, 14, 15, 16, 17, 18, 19, 20, 21, 22, 23, 24, 25, 26, 27, 28, 29]] mixed (by kernel_rfl) fun R hR => ?_   -- r19
            simp only [go_sem, hb0, hmade, hb1, hl, hb2, hx, he, hi, hxk, hm, hb4, hn, hb5]
            refine GWant_split (fun g1 => ?_) (fun g1 => ?_)
            · try simp only [Bool.not_eq_true', Bool.not_eq_false'] at g1
              have n1 := g1; try simp only [nrm] at n1
              simp only [go_sem, hb0, hmade, hb1, hl, hb2, hx, he, hi, hxk, hm, hb4, hn, hb5, g1]
              refine GCall_of (Of_pc Y _ _ _ (Sg.get_ext0 _ _ _ _) x.lo x.hi (by omega) (by omega) (by omega) (by omega)) ?_   -- t97
              simp only [go_sem, hb0, hmade, hb1, hl, hb2, hx, he, hi, hxk, hm, hb4, hn, hb5, g1]
              refine GCall_of (Of_pc Y _ _ _ (Sg.get_ext0 _ _ _ _) bb.lo bb.hi (by omega) (by omega) (by omega) (by omega)) ?_   -- t104
              simp only [go_sem, hb0, hmade, hb1, hl, hb2, hx, he, hi, hxk, hm, hb4, hn, hb5, g1]
              refine GCall_of (PC.val (v' := .bool false) (rMeet_pc Y _ made x bb m n vmade.okc (by omega) (by omega) (by omega) (by omega) (by omega) (by omega) (by omega) (by omega) (by omega) (by omega) (by omega) (by omega)) (by rw [fits_meet vck hbfv hbv (reqOf_zero.1 (hreq.symm.trans n1)) hxm dm.1 dm.2 dn.1 dn.2])) ?_   -- t105
              simp only [go_sem, hb0, hmade, hb1, hl, hb2, hx, he, hi, hxk, hm, hb4, hn, hb5, g1]
              try refine And.intro (by repeat' (first | refine And.intro ?_ ?_ | exact GOr_right (fun _ => by simp only [go_sem, hb0, hmade, hb1, hl, hb2, hx, he, hi, hxk, hm, hb4, hn, hb5]))) ?_
              refine hR _ _ (kq24 _ _ ?_); clear hR R; try clear kq24 kz24
              try simp only [go_sem, hb0, hmade, hb1, hl, hb2, hx, he, hi, hxk, hm, hb4, hn, hb5]
              refine W_cond rfl (fun c5 => ?_) (fun c5 => ?_)
              · -- c5 true
                try simp only [nrm] at c5
                exfalso
                simp at c5
              · -- c5 false
                try simp only [nrm] at c5
                refine W_skip (kq19 _ _ ?_)
                refine W_region [3, 4, 5, 6, 8, 9, 10, 11] fun R hR => ?_   -- r14
                simp only [go_sem, hb0, hmade, hb1, hl, hb2, hx, he, hi, hxk, hm, hb4, hn, hb5]
                try simp (disch := omega) only [wrapI, wrapU]
                refine hR _ _ ?_; clear hR R
                try simp only [go_sem, hb0, hmade, hb1, hl, hb2, hx, he, hi, hxk, hm, hb4, hn, hb5]
                refine ⟨(k + 1, may || decide (crossVal made x bb ≠ 2), b5), ?_, by (try simp only []); omega, ?_⟩
                · first | exact Weak.refl | exact Weak.eq (by first | rfl | (simp only [go_sem]; done) | (simp only [go_sem]; rfl) | (simp [go_sem]; done) | (simp [go_sem]; omega)) (by first | rfl | (simp only [go_sem]; done) | (simp [go_sem]; done))
                · try dsimp only
                  exact ⟨hk', by rw [hmy, any_snoc hxk]⟩
            · try simp only [Bool.not_eq_true', Bool.not_eq_false'] at g1
              have n1 := g1; try simp only [nrm] at n1
              simp only [go_sem, hb0, hmade, hb1, hl, hb2, hx, he, hi, hxk, hm, hb4, hn, hb5, g1]
              try refine And.intro (by repeat' (first | refine And.intro ?_ ?_ | exact GOr_right (fun _ => by simp only [go_sem, hb0, hmade, hb1, hl, hb2, hx, he, hi, hxk, hm, hb4, hn, hb5]))) ?_
              refine hR _ _ (kq24 _ _ ?_); clear hR R; try clear kq24 kz24
              try simp only [go_sem, hb0, hmade, hb1, hl, hb2, hx, he, hi, hxk, hm, hb4, hn, hb5]
              refine W_cond_false rfl ?_
              refine W_skip (kq19 _ _ ?_)
              refine W_region [3, 4, 5, 6, 8, 9, 10, 11] fun R hR => ?_   -- r14
              simp only [go_sem, hb0, hmade, hb1, hl, hb2, hx, he, hi, hxk, hm, hb4, hn, hb5]
              try simp (disch := omega) only [wrapI, wrapU]
              refine hR _ _ ?_; clear hR R
              try simp only [go_sem, hb0, hmade, hb1, hl, hb2, hx, he, hi, hxk, hm, hb4, hn, hb5]
              refine ⟨(k + 1, may || decide (crossVal made x bb ≠ 2), b), ?_, by (try simp only []); omega, ?_⟩
              · first | exact Weak.refl | exact Weak.eq (by first | rfl | (simp only [go_sem]; done) | (simp only [go_sem]; rfl) | (simp [go_sem]; done) | (simp [go_sem]; omega)) (by first | rfl | (simp only [go_sem]; done) | (simp [go_sem]; done))
              · try dsimp only
                exact ⟨hk', by rw [hmy, any_snoc hxk]⟩
          · simp only [go_sem, hb0, hmade, hb1, hl, hb2, hx, he, hi, hxk, hm, hb4, hn, hb5]
            refine GWant_split (fun g2 => ?_) (fun g2 => ?_)
            · try simp only [Bool.not_eq_true', Bool.not_eq_false'] at g2
              have n2 := g2; try simp only [nrm] at n2
              simp only [go_sem, hb0, hmade, hb1, hl, hb2, hx, he, hi, hxk, hm, hb4, hn, hb5, g2]
              refine hR _ ?_
              try simp only [go_sem, hb0, hmade, hb1, hl, hb2, hx, he, hi, hxk, hm, hb4, hn, hb5]
              all_goals
                first | (simp [g2]; done) | (simp [g2, bne]; rfl)
            · try simp only [Bool.not_eq_true', Bool.not_eq_false'] at g2
              have n2 := g2; try simp only [nrm] at n2
              simp only [go_sem, hb0, hmade, hb1, hl, hb2, hx, he, hi, hxk, hm, hb4, hn, hb5, g2]
              refine hR _ ?_
              try simp only [go_sem, hb0, hmade, hb1, hl, hb2, hx, he, hi, hxk, hm, hb4, hn, hb5]
              all_goals
                first | (simp [g2]; done) | (simp [g2, bne]; rfl)
      · -- c3 false
        try simp only [nrm] at c3
        have hke : bf.take k = bf := List.take_of_length_le (by omega)
        rw [hke] at hmy
        rw [← hmy] at hmay
        refine W_exit ?_
        simp only [go_sem, hb0, hmade, hb1, hl, hb2, hx, he, hi]
        refine kq15 _ _ ?_
        refine W_seq fun kz25 kq25 => ?_
        refine W_seq fun kz26 kq26 => ?_
        refine W_region [3, 4, 5, 6, 8, 113] fun R hR => ?_   -- r21
        simp only [go_sem, hb0, hmade, hb1, hl, hb2, hx, he, hi]
        refine hR _ _ (kq26 _ _ ?_); clear hR R; try clear kq26 kz26
        try simp only [go_sem, hb0, hmade, hb1, hl, hb2, hx, he, hi]
        refine W_cond rfl (fun c6 => ?_) (fun c6 => ?_)
        · -- c6 true
          try simp only [nrm] at c6
          exfalso
          have hh : (e == 10) = may := by rw [Bool.eq_iff_iff, beq_iff_eq, hmay]
          rw [hh] at c6
          simp at c6
        · -- c6 false
          try simp only [nrm] at c6
          refine W_skip (kq25 _ _ ?_)
          refine W_seq fun kz27 kq27 => ?_
          refine W_draw [3, 4, 5, 6, 8, 14, 15] [0, 1, 2, 3, 4, 5, 6, 7, 8, 9, 10] [] [[], [], [], [1, 2], [1, 2, 3], [0, 1, 2, 3, 4], [0, 1, 2, 3, 4, 5], [0, 1, 2, 3, 4, 5, 6], [0, 1, 2, 3, 4, 5, 6], [0, 1, 2, 3, 4, 5, 6, 7], [0, 1, 2, 3, 4, 5, 6, 7, 8, 9]] mixed (by kernel_rfl) fun R hR => ?_   -- r23
          simp only [go_sem, hb0, hmade, hb1, hl, hb2, hx, he, hi]
          refine GCall_of (PC.val (v' := .tuple [ints wy, I 0]) (bSquares_pc Y _ made bb vmade.okc (by omega)) (by rw [squaresAns_of vck hbv, hwy]; rfl)) ?_   -- t120
          simp only [go_sem, hb0, hmade, hb1, hl, hb2, hx, he, hi]
          try refine And.intro (by repeat' (first | refine And.intro ?_ ?_ | exact GOr_right (fun _ => by simp only [go_sem, hb0, hmade, hb1, hl, hb2, hx, he, hi]))) ?_
          refine hR _ _ (kq27 _ _ ?_); clear hR R; try clear kq27 kz27
          try simp only [go_sem, hb0, hmade, hb1, hl, hb2, hx, he, hi]
          refine W_seq fun kz28 kq28 => ?_
          refine W_seq fun kz29 kq29 => ?_
          refine W_region [3, 4, 5, 6, 8, 14, 124] fun R hR => ?_   -- r24
          simp only [go_sem, hb0, hmade, hb1, hl, hb2, hx, he, hi]
          refine hR _ _ (kq29 _ _ ?_); clear hR R; try clear kq29 kz29
          try simp only [go_sem, hb0, hmade, hb1, hl, hb2, hx, he, hi]
          refine W_cond rfl (fun c7 => ?_) (fun c7 => ?_)
          · -- c7 true
            try simp only [nrm] at c7
            exfalso
            simp at c7
          · -- c7 false
            try simp only [nrm] at c7
            refine W_skip (kq28 _ _ ?_)
            refine W_seq fun kz30 kq30 => ?_
            refine W_region [3, 4, 5, 6, 8, 14, 16] fun R hR => ?_   -- r26
            simp only [go_sem, hb0, hmade, hb1, hl, hb2, hx, he, hi]
            refine hR _ _ (kq30 _ _ ?_); clear hR R; try clear kq30 kz30
            try simp only [go_sem, hb0, hmade, hb1, hl, hb2, hx, he, hi]
            refine W_block ?_
            refine W_loopS (α := Nat) (fun (q : Nat) => [(16, I q)]) (fun (q : Nat) => q ≤ wy.length) (fun (q : Nat) => wy.length - q) (0) rfl (Nat.zero_le _) ?_
            rintro q hq
            refine W_seq fun kz31 kq31 => ?_
            refine W_seq fun kz32 kq32 => ?_
            refine W_region [3, 4, 5, 6, 8, 14, 16, 128] fun R hR => ?_   -- r27
            simp only [go_sem, hb0, hmade, hb1, hl, hb2, hx, he, hi]
            refine hR _ _ (kq32 _ _ ?_); clear hR R; try clear kq32 kz32
            try simp only [go_sem, hb0, hmade, hb1, hl, hb2, hx, he, hi]
            refine W_cond rfl (fun c8 => ?_) (fun c8 => ?_)
            · -- c8 true
              try simp only [nrm] at c8
              have hq' : q < wy.length := by first | assumption | omega
              obtain ⟨s, hsq⟩ : ∃ s, wy[q]? = some s := ⟨wy[q], by simp [hq']⟩
              have hsm := List.mem_of_getElem? hsq
              obtain ⟨hs0, hs1⟩ := sqs_range vck s (by rw [hwy]; exact hsm)
              obtain ⟨r, hr⟩ : ∃ r, made.town.rooms[s.toNat]? = some r := ⟨_, List.getElem?_eq_getElem (by omega)⟩
              refine W_skip (kq31 _ _ ?_)
              refine W_seq fun kz33 kq33 => ?_
              refine W_block ?_
              refine W_seq fun kz34 kq34 => ?_
              refine W_draw [3, 4, 5, 6, 8, 14, 16, 152] [0, 1, 2, 3, 4, 5, 6, 7, 8, 9, 10, 11, 12, 13, 14, 15, 16, 17, 18, 19, 20, 21] [] [[], [], [0, 1], [0, 1, 2], [0, 1, 2, 3], [0, 1, 2, 3, 4], [0, 1, 2, 3, 4, 5], [0, 1, 2, 3, 4, 5], [0, 1, 2, 3, 4, 5, 6, 7], [0, 1, 2, 3, 4, 5, 6, 7, 8], [0, 1, 2, 3, 4, 5, 6, 7, 8, 9], [0, 1, 2, 3, 4, 5], [0, 1, 2, 3, 4, 5, 11], [0, 1, 2, 3, 4, 5, 11, 12], [0, 1, 2, 3, 4, 5], [0, 1, 2, 3, 4, 5], [0, 1, 2, 3, 4, 5, 14, 15], [0, 1, 2, 3, 4, 5, 14, 15, 16], [0, 1, 2, 3, 4, 5, 11, 12, 13, 14, 15, 16, 17], [0, 1, 2, 3, 4, 5, 11, 12, 13, 14, 15, 16, 17, 18], [0, 1, 2, 3, 4, 5, 6, 7, 8, 9, 10, 11, 12, 13, 14, 15, 16, 17, 18, 19], [0, 1, 2, 3, 4, 5, 6, 7, 8, 9, 10, 11, 12, 13, 14, 15, 16, 17, 18, 19, 20]] mixed (by kernel_rfl) fun R hR => ?_   -- r29
              simp only [go_sem, hb0, hmade, hb1, hl, hb2, hx, he, hi, hsq, hs0, hr]
              refine GWant_split (fun g3 => ?_) (fun g3 => ?_)
              · try simp only [Bool.not_eq_true', Bool.not_eq_false'] at g3
                have n3 := g3; try simp only [nrm] at n3
                simp only [go_sem, hb0, hmade, hb1, hl, hb2, hx, he, hi, hsq, hs0, hr, g3]
                try refine And.intro (by repeat' (first | refine And.intro ?_ ?_ | exact GOr_right (fun _ => by simp only [go_sem, hb0, hmade, hb1, hl, hb2, hx, he, hi, hsq, hs0, hr]))) ?_
                refine hR _ _ (kq34 _ _ ?_); clear hR R; try clear kq34 kz34
                try simp only [go_sem, hb0, hmade, hb1, hl, hb2, hx, he, hi, hsq, hs0, hr]
                refine W_cond rfl (fun c9 => ?_) (fun c9 => ?_)
                · -- c9 true
                  try simp only [nrm] at c9
                  exfalso
                  have hf := (reqOf_zero.1 (hreq.symm.trans n3)).room s (by rw [hwy]; exact hsm)
                  rw [hr] at hf
                  simp only [Option.getD_some] at hf
                  omega
                · -- c9 false
                  try simp only [nrm] at c9
                  refine W_skip (kq33 _ _ ?_)
                  refine W_region [3, 4, 5, 6, 8, 14, 16] fun R hR => ?_   -- r28
                  simp only [go_sem, hb0, hmade, hb1, hl, hb2, hx, he, hi, hsq, hs0, hr]
                  try simp (disch := omega) only [wrapI, wrapU]
                  refine hR _ _ ?_; clear hR R
                  try simp only [go_sem, hb0, hmade, hb1, hl, hb2, hx, he, hi, hsq, hs0, hr]
                  refine ⟨q + 1, ?_, by (try simp only []); omega, ?_⟩
                  · first | exact Weak.refl | exact Weak.eq (by first | rfl | (simp only [go_sem]; done) | (simp only [go_sem]; rfl) | (simp [go_sem]; done) | (simp [go_sem]; omega)) (by first | rfl | (simp only [go_sem]; done) | (simp [go_sem]; done))
                  · try dsimp only
                    omega
              · try simp only [Bool.not_eq_true', Bool.not_eq_false'] at g3
                have n3 := g3; try simp only [nrm] at n3
                simp only [go_sem, hb0, hmade, hb1, hl, hb2, hx, he, hi, hsq, hs0, hr, g3]
                try refine And.intro (by repeat' (first | refine And.intro ?_ ?_ | exact GOr_right (fun _ => by simp only [go_sem, hb0, hmade, hb1, hl, hb2, hx, he, hi, hsq, hs0, hr]))) ?_
                refine hR _ _ (kq34 _ _ ?_); clear hR R; try clear kq34 kz34
                try simp only [go_sem, hb0, hmade, hb1, hl, hb2, hx, he, hi, hsq, hs0, hr]
                refine W_cond_false rfl ?_
                refine W_skip (kq33 _ _ ?_)
                refine W_region [3, 4, 5, 6, 8, 14, 16] fun R hR => ?_   -- r28
                simp only [go_sem, hb0, hmade, hb1, hl, hb2, hx, he, hi, hsq, hs0, hr]
                try simp (disch := omega) only [wrapI, wrapU]
                refine hR _ _ ?_; clear hR R
                try simp only [go_sem, hb0, hmade, hb1, hl, hb2, hx, he, hi, hsq, hs0, hr]
                refine ⟨q + 1, ?_, by (try simp only []); omega, ?_⟩
                · first | exact Weak.refl | exact Weak.eq (by first | rfl | (simp only [go_sem]; done) | (simp only [go_sem]; rfl) | (simp [go_sem]; done) | (simp [go_sem]; omega)) (by first | rfl | (simp only [go_sem]; done) | (simp [go_sem]; done))
                · try dsimp only
                  omega
            · -- c8 false
              try simp only [nrm] at c8
              refine W_exit ?_
              simp only [go_sem, hb0, hmade, hb1, hl, hb2, hx, he, hi]
              refine kq12 _ _ ?_
              refine W_region [3, 4, 5, 6, 8] fun R hR => ?_   -- r9
              simp only [go_sem, hb0, hmade, hb1, hl, hb2, hx, he, hi]
              try simp (disch := omega) only [wrapI, wrapU]
              refine hR _ _ ?_; clear hR R
              try simp only [go_sem, hb0, hmade, hb1, hl, hb2, hx, he, hi]
              refine ⟨(i + 1, b), ?_, by (try simp only []); omega, ?_⟩
              · first | exact Weak.refl | exact Weak.eq (by first | rfl | (simp only [go_sem]; done) | (simp only [go_sem]; rfl) | (simp [go_sem]; done) | (simp [go_sem]; omega)) (by first | rfl | (simp only [go_sem]; done) | (simp [go_sem]; done))
              · try dsimp only
                omega
    · -- c2 false
      try simp only [nrm] at c2
      refine W_exit ?_
      simp only [go_sem, hb0, hmade, hb1, hl, hb2]
      refine kq8 _ _ ?_
      refine W_seq fun kz35 kq35 => ?_
      refine W_region [2] fun R hR => ?_   -- r31
      simp only [go_sem, hb0, hmade, hb1, hl, hb2]
      refine GCall_of (lawake_pc Y _) ?_   -- t153
      simp only [go_sem, hb0, hmade, hb1, hl, hb2]
      refine hR _ _ (kq35 _ _ ?_); clear hR R; try clear kq35 kz35
      try simp only [go_sem, hb0, hmade, hb1, hl, hb2]
      refine W_ret ?_
      simp only [go_sem, hb0, hmade, hb1, hl, hb2]
      refine ⟨.inr (by trivial), ?_⟩
      first | refine Fin_same hcl rfl (Wk_eq ?_ (by simp only [go_sem])) | refine Fin_self hcl rfl (Wk_eq ?_ (by simp only [go_sem]))
      try simp only [go_sem]
      all_goals
        first | rfl | (simp_all; done) | (simp_all; omega)

end Go.Proofs.Ytnpamcpoaklgeaa

namespace Go.Proofs.Ytnpamcpoaklgeaa
open Go Go.RowKit

theorem rdBandNeverArgs : All2 (fun t R => Rd Try.prog t R) Try.f7.params.toList [fun p => ∃ xs : List Int, p = ints xs ∧ xs.length * 8 ≤ 140737488351232] :=
  .cons rdInts .nil
theorem BandNever_lifted (os : Os) (started : os.Started) (H : Type) (enc : TypeId × Value → H) :
    ReturnsInHanded {} Try.checked os 7 .any (Rows.bandNeverSpec.pre6 enc Try.prog Try.f7 Rows.bandNeverRow.domain false) (Rows.bandNeverSpec.post enc Try.prog Try.f7 false true false false) :=
  law_lifted (C := Try.checked) own started (by kernel_rfl) Try.func7 rfl laidOut (by kernel_rfl) rdBandNeverArgs rfl Try.underlying4
    (fun ds h => match ds, h with | [_], _ => rfl)
    (ChangeSpec.witness6 (enc := enc) (C := Try.checked) false ⟨#[], #[.slice none 0 0], []⟩ 8 (by kernel_rfl) (by kernel_rfl) (by kernel_rfl) (by kernel_rfl))
    fun qs hq => match qs, hq with | [_], ⟨⟨x0, hx0, sx0⟩, _⟩ => by subst hx0; exact ⟨_, BandNever_pc noY _ x0 (by omega)⟩
theorem BandNever_holds : Rows.BandNeverSaid :=
  OpenClaim.holds_of_wide 7 Try.f7 rfl rfl rfl rfl rfl rfl rfl ⟨rfl, rfl, rfl, rfl, rfl⟩ rfl rfl rfl rfl rfl (by kernel_rfl) Try.func7 (by kernel_rfl)
    (of_decide_eq_true (by kernel_rfl)) (by unfold Func.isWrapper; first | (rw [if_pos (by decide +kernel)]; kernel_rfl) | (rw [if_neg (by decide +kernel)]; exact ⟨rfl, rfl⟩))
    (fun os started H enc _ => BandNever_lifted os started H enc)
end Go.Proofs.Ytnpamcpoaklgeaa
