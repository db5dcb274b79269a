/-
  Walks: which ballots count (song).
  Walks: preferences checked (song, bateriaref04).
  Numbers that follow from numbers (bateriakit): the drum.
  Walks: drums made of numbers, spans (bateriakit).
  Walks: an order made of numbers (bateriakit).
  Walks: preferences made of numbers (bateriakit).
  Contests and ballots made of numbers may be (song, plain).
  What the results of a contest hang on: the ballots that count, in any order (song, plain).
  Ballots that do not count, left out; one more of somebody who has voted (song, plain).
  Standings sorted, and those that are kept: the plain law (song).
  Who can be kept, and who must be: the smallest sums (song, plain).
  A vote more: what it does to a round (song, plain).
  A contest with a vote more (song, plain).
  Walks: contests and ballots made of numbers (bateriakit).
  Walks: results compared, ballots copied, numbers taken into bounds (bateriakit).
  Songs that are left out one after the other, in plain Lean.
  Walks: songs left out one after the other (song).
-/
import Derived.Test.YtnolifglhhjdnaaPe
import Derived.CallsIn
import Derived.RangeFuncLeaves
import Derived.RangeFuncRecord
import Derived.OrdersIn
import Derived.Below
import Derived.Laws.World
import Derived.Laws.StructEq
import Derived.Laws.Append
import Derived.MapKept
import Derived.ProofKit
import Derived.Carry
import Derived.Handed
import Derived.ChangeCalls
import Derived.RangeFuncIn
import Derived.RangeFuncNested
import Derived.Test.YtnolifglhhjdnaaProg
import Derived.KernelRfl
import Derived.IntWalk
import Derived.Sort.OwnSortedInts
import Derived.Lib.SlicesCompact
import Derived.Test.YtnolifglhhjdnaaRows
import Derived.Shelf.Sort.Plain
import Derived.Shelf.Slices.In.SortNone
import Derived.Shelf.Small.Bits
import Derived.JoinedOf
set_option linter.unusedSimpArgs false
set_option linter.unusedVariables false
namespace Go.Proofs.Ytnolifglhhjdnaa
open Go Go.RowKit
set_option maxRecDepth 100000
/-- Flags: those of some places are set. -/
def mkO (n : Nat) (vis : List Int) : List Bool := (List.range n).map fun (i : Nat) => has vis i
theorem mkO_len (n : Nat) (vis : List Int) : (mkO n vis).length = n := by simp [mkO]
theorem mkO_nil (n : Nat) : mkO n [] = List.replicate n false := by
  apply List.ext_getElem?
  intro i
  by_cases hi : i < n
  · simp [mkO, hi, has]
  · simp [mkO, hi, Nat.not_lt.1 hi]
theorem mkO_set {n k : Nat} (hk : k < n) (vis : List Int) : (mkO n vis).set k true = mkO n (vis ++ [(k : Int)]) := by
  apply List.ext_getElem?
  intro i
  rw [List.getElem?_set]
  by_cases hi : i < n
  · by_cases e : k = i
    · subst e
      rw [if_pos rfl, if_pos (by rw [mkO_len]; exact hi)]
      simp [mkO, hi, has]
    · rw [if_neg e]
      have : ¬ (k : Int) = (i : Int) := by omega
      simp [mkO, hi, has, this]
  · rw [List.getElem?_eq_none (l := mkO n (vis ++ [(k : Int)])) (by rw [mkO_len]; omega)]
    split
    · rw [if_neg (by rw [mkO_len]; omega)]
    · rw [List.getElem?_eq_none (by rw [mkO_len]; omega)]
theorem mkO_cong {n : Nat} {a b : List Int} (h : ∀ x, x ∈ a ↔ x ∈ b) : mkO n a = mkO n b := by
  unfold mkO
  congr 1
  funext i
  rw [Bool.eq_iff_iff, has_iff, has_iff]
  exact h _
/-- The places of all ballots that count. -/
def cntPl (ts : List Tally) : List Int := ts.flatMap fun t => t.m.map (·.2)
theorem cntPl_snoc (ts : List Tally) (t : Tally) : cntPl (ts ++ [t]) = cntPl ts ++ t.m.map (·.2) := by simp [cntPl]
def countsD (c : Contest) (l : List Ballot) : List Bool × Int := if chkBls c l ≠ 0 then ([], chkBls c l) else (mkO l.length (cntPl (roundsT c l)), 0)
theorem rdsT_pl {l : List Ballot} : ∀ {rs : List Rnd} {i : Nat} {ss : List Int}, ∀ t, t ∈ rdsT l rs i ss → ∀ e, e ∈ t.m → ∃ k : Nat, e.2 = k ∧ k < l.length := by
  intro rs
  induction rs with
  | nil => intro i ss t h; cases h
  | cons r rs ih =>
    intro i ss t h e he
    simp only [rdsT, List.mem_cons] at h
    rcases h with rfl | h
    · obtain ⟨k, b, h1, h2, _⟩ := voices_ok i ss l l.length e he
      exact ⟨k, h1, h2⟩
    · exact ih t h e he
theorem CleanAll_bools {a b c : Nat} {xs : List Bool} : CleanAll a b c (xs.map PV.bool) = True := eq_true fun p hp => by
  obtain ⟨x, _, rfl⟩ := List.mem_map.1 hp
  exact .bool _
attribute [go_sem] CleanAll_bools
section
variable {τ : Sg} {d : Nat} {cs : List PV} {l : List (Option (List PV))} {rm : List Nat} {ys : List LState}
theorem get_sv_ext {j : Nat} : ((τ.setVar d cs).ext l rm ys).store[τ.store.length + j]? = l[j]? := by
  have := Sg.get_ext (τ.setVar d cs) l rm ys j
  rw [sv_len] at this
  exact this
theorem get_sv_old {m : Nat} {x : Option (List PV)} (hne : m ≠ d) (hm : τ.store[m]? = some x) : ((τ.setVar d cs).ext l rm ys).store[m]? = some x := by
  have hlt := (List.getElem?_eq_some_iff.1 hm).1
  rw [ext_get (by rw [sv_len]; exact hlt)]
  simp only [Sg.setVar]
  rw [List.getElem?_set_ne (fun e => hne e.symm)]
  exact hm
theorem set_sv_ext {j : Nat} {c : List PV} : ((τ.setVar d cs).ext l rm ys).setVar (τ.store.length + j) c = (τ.setVar d cs).ext (l.set j (some c)) rm ys := by
  have := Sg.set_ext (τ.setVar d cs) l rm ys j c
  rw [sv_len] at this
  exact this
end
set_option maxHeartbeats 8000000 in
theorem Counts_pc (Y : YEnv) (σ : Sg) (c : Contest) (l : List Ballot) (hr : c.rounds.length < 2 ^ 40) (hl : l.length < 2 ^ 40) :
    PC Try.prog Y 24 [cnPV c, bls l] σ (.tuple [.isl ((countsD c l).1.map PV.bool) .ro, I (countsD c l).2]) (σ) := by
  refine PC_of_W Try.func24 rfl (by kernel_rfl) Try.ntmps24 (by simp) fun hcl hca => ?_
  refine W_seq fun kz1 kq1 => ?_
  refine W_region [1, 2] fun R hR => ?_   -- r0
  simp only [go_sem, repB]
  refine hR _ _ (kq1 _ _ ?_); clear hR R; try clear kq1 kz1
  try simp only [go_sem, repB]
  refine W_seq fun kz2 kq2 => ?_
  refine W_seq fun kz3 kq3 => ?_
  refine W_region [1, 2, 6] fun R hR => ?_   -- r1
  simp only [go_sem, repB]
  refine GCall_of (chkBls_pc Y _ c l hr hl) ?_   -- t14
  simp only [go_sem, repB]
  refine hR _ _ (kq3 _ _ ?_); clear hR R; try clear kq3 kz3
  try simp only [go_sem, repB]
  refine W_seq fun kz4 kq4 => ?_
  refine W_region [1, 2, 6, 16] fun R hR => ?_   -- r2
  simp only [go_sem, repB]
  refine hR _ _ (kq4 _ _ ?_); clear hR R; try clear kq4 kz4
  try simp only [go_sem, repB]
  refine W_cond rfl (fun c1 => ?_) (fun c1 => ?_)
  · -- c1 true
    try simp only [nrm] at c1
    have hres : countsD c l = ([], chkBls c l) := by unfold countsD; rw [if_pos c1]
    refine W_seq fun kz5 kq5 => ?_
    refine W_region [4, 5] fun R hR => ?_   -- r3
    simp only [go_sem, repB]
    refine hR _ _ (kq5 _ _ ?_); clear hR R; try clear kq5 kz5
    try simp only [go_sem, repB]
    refine W_ret ?_
    simp only [go_sem, repB]
    refine ⟨.inr (by trivial), ?_⟩
    rw [hres]
    refine Fin_same hcl rfl (Wk.ro (by simp only [go_sem]) ?_)
    try simp only [go_sem]
    all_goals
      first | rfl | (simp only [go_sem]; done)
  · -- c1 false
    try simp only [nrm] at c1
    obtain ⟨hV, hl3, hb, hnd⟩ := blsV_of c1
    have hres : countsD c l = (mkO l.length (cntPl (roundsT c l)), 0) := by unfold countsD; rw [if_neg (by simp [c1])]
    have hl44 : l.length < 2 ^ 44 := by omega
    obtain ⟨ts, hts⟩ : ∃ z, roundsT c l = z := ⟨_, rfl⟩
    have hpl : ∀ t, t ∈ ts → ∀ e, e ∈ t.m → ∃ k : Nat, e.2 = k ∧ k < l.length := by rw [← hts]; exact rdsT_pl
    have hrl := hV.rl
    have htl : ts.length = c.rounds.length := by rw [← hts]; exact rdsT_len
    rw [hts] at hres
    refine W_skip (kq2 _ _ ?_)
    refine W_seq fun kz6 kq6 => ?_
    refine W_region [1, 2, 7] fun R hR => ?_   -- r4
    simp only [go_sem, repB, mkB hl44]
    refine hR _ _ (kq6 _ _ ?_); clear hR R; try clear kq6 kz6
    try simp only [go_sem, repB]
    refine W_seq fun kz7 kq7 => ?_
    refine W_seq fun kz8 kq8 => ?_
    refine W_region [7, 23, 24, 25] fun R hR => ?_   -- r5
    simp only [go_sem, repB]
    refine GCall_of (rounds_pc Y _ c l hV hl3 hb) ?_   -- t23
    simp only [go_sem, repB]
    refine hR _ _ (kq8 _ _ ?_); clear hR R; try clear kq8 kz8
    try simp only [go_sem, repB]
    refine W_block ?_
    simp only [hts]
    obtain ⟨τ, hτ⟩ : ∃ z, σ.ext (some [I c.songs, I c.juries, I c.members, I c.most, rds c.rounds] :: some ((mkO l.length []).map PV.bool) :: none :: mapsOf ts) [] = z := ⟨_, rfl⟩
    have hτr : σ.rooms.length = τ.rooms.length := by rw [← hτ]; simp [Sg.ext]
    have hτl : τ.store.length = σ.store.length + 1 + 1 + 1 + ts.length := by rw [← hτ]; simp only [Sg.len_ext, List.length_cons, mapsOf_len]; omega
    have hclτ : CleanSg τ := by rw [← hτ]; exact CleanSg_ext hcl (by show CleanLs _ _ _ _; simp only [go_sem])
    have hdo : τ.store[σ.store.length + 1]? = some (some ((mkO l.length []).map PV.bool)) := by rw [← hτ]; exact Sg.get_ext ..
    have hlt : σ.store.length + 1 < τ.store.length := by omega
    have hlt2 : ∀ cs, σ.store.length + 1 < (τ.setVar (σ.store.length + 1) cs).store.length := fun cs => by rw [sv_len]; exact hlt
    have hmp0 : ∀ (r : Nat) (t : Tally), ts[r]? = some t → τ.store[σ.store.length + 1 + 1 + 1 + r]? = some (some (.mark :: mapE vcPV I t.m)) := fun r t h => by
      rw [← hτ, show σ.store.length + 1 + 1 + 1 + r = σ.store.length + (r + 1 + 1 + 1) by omega, Sg.get_ext]
      simp only [List.getElem?_cons_succ]
      exact mapsOf_get h
    have hτe : σ.ext (some [I c.songs, I c.juries, I c.members, I c.most, rds c.rounds] :: some ((List.replicate l.length false).map PV.bool) :: none :: mapsOf ts) [] = (τ.setVar (σ.store.length + 1) ((mkO l.length []).map PV.bool)).ext [] [] := by
      rw [sv_self hdo, ← hτ, mkO_nil]; simp [Sg.ext]
    rw [hτe]
    simp only [hτr]
    refine W_loopT (α := Nat × (List Int)) (fun ⟨i, vis⟩ => [(25, I i)]) (fun ⟨i, vis⟩ => (τ.setVar (σ.store.length + 1) ((mkO l.length vis).map PV.bool)).ext [] []) (fun ⟨i, vis⟩ => i ≤ ts.length ∧ ∀ x, x ∈ vis ↔ x ∈ cntPl (ts.take i)) (fun ⟨i, vis⟩ => ts.length - i) ((0, [])) rfl (by first | rfl | (simp only [go_sem]; done) | (simp only [go_sem]; rfl)) (⟨Nat.zero_le _, fun x => by simp [cntPl]⟩) ?_
    rintro ⟨i, vis⟩ ⟨hi, hvis⟩
    refine W_seq fun kz9 kq9 => ?_
    refine W_region [7, 23, 24, 25, 26] fun R hR => ?_   -- r6
    simp only [go_sem, repB]
    refine hR _ _ (kq9 _ _ ?_); clear hR R; try clear kq9 kz9
    try simp only [go_sem, repB]
    refine W_seq fun kz10 kq10 => ?_
    refine W_cond rfl (fun c2 => ?_) (fun c2 => ?_)
    · -- c2 true
      try simp only [nrm] at c2
      have hi' : i < ts.length := by first | omega | (simp at c2; omega)
      obtain ⟨t, ht⟩ : ∃ z, ts[i]? = some z := ⟨ts[i], by simp [hi']⟩
      have hir : (i : Int) < (ts.length : Int) := by omega
      have hmp := hmp0 i t ht
      have hmpS : ∀ {cs l rm ys}, ((τ.setVar (σ.store.length + 1) cs).ext l rm ys).store[σ.store.length + 1 + 1 + 1 + i]? = some (some (.mark :: mapE vcPV I t.m)) := fun {cs l rm ys} => get_sv_old (by omega) hmp
      have hsn : ts.take (i + 1) = ts.take i ++ [t] := by rw [List.take_add_one, ht]; rfl
      have hplt := hpl t (List.mem_of_getElem? ht)
      refine W_skip (kq10 _ _ ?_)
      refine W_seq fun kz11 kq11 => ?_
      refine W_block ?_
      refine W_seq fun kz12 kq12 => ?_
      refine W_region [7, 9, 23, 24, 25] fun R hR => ?_   -- r7
      simp only [go_sem, repB, iaX_tls ht, elA_tls ht, tlPV, tlCells, hir]
      refine hR _ _ (kq12 _ _ ?_); clear hR R; try clear kq12 kz12
      try simp only [go_sem, repB]
      refine W_seq fun kz13 kq13 => ?_
      refine W_region [7, 23, 24, 25, 31] fun R hR => ?_   -- r8
      simp only [go_sem, repB, tl_map, hmpS]
      refine hR _ _ (kq13 _ _ ?_); clear hR R; try clear kq13 kz13
      try simp only [go_sem, repB]
      refine W_block ?_
      refine W_loopT (α := (List Nat) × (List Int)) (fun ⟨seen, vis2⟩ => []) (fun ⟨seen, vis2⟩ => (τ.setVar (σ.store.length + 1) ((mkO l.length vis2).map PV.bool)).ext [some (tlCells (σ.store.length + 1 + 1 + 1 + i) t), some [.itst (σ.store.length + 1 + 1 + 1 + i) t.m.length seen]] []) (fun ⟨seen, vis2⟩ => (seen.Nodup ∧ ∀ j, j ∈ seen → j < t.m.length) ∧ ∀ x, x ∈ vis2 ↔ x ∈ vis ∨ ∃ j, j ∈ seen ∧ ∃ e, t.m[j]? = some e ∧ e.2 = x) (fun ⟨seen, vis2⟩ => t.m.length - seen.length) (([], vis)) rfl (by first | rfl | (simp only [go_sem]; done) | (simp only [go_sem]; rfl)) (⟨⟨List.nodup_nil, fun j h => absurd h (by simp)⟩, fun x => by simp⟩) ?_
      rintro ⟨seen, vis2⟩ ⟨⟨hsn1, hsl2⟩, hv2⟩
      refine W_seq fun kz14 kq14 => ?_
      refine W_next [7, 23, 24, 25, 31, 33] (os := _) rfl rfl rfl (by decide) (it_at get_sv_ext hmpS mapE_len) (fun K hR hall => ?_) (fun K hR j0 k0 u0 hj0 hns => ?_)   -- r9
      · -- next: no more
        simp only [go_sem, repB]
        refine hR _ _ (kq14 _ _ ?_); clear hR K
        try simp only [go_sem, repB]
        refine W_seq fun kz15 kq15 => ?_
        refine W_cond_false rfl ?_
        refine W_exit ?_
        simp only [go_sem, repB]
        refine kq11 _ _ ?_
        refine W_region [7, 23, 24, 25] fun R hR => ?_   -- r12
        simp only [go_sem, repB]
        try simp (disch := omega) only [wrapI, wrapU]
        refine hR _ _ ?_; clear hR R
        try simp only [go_sem, repB]
        refine ⟨(i + 1, vis2), ?_, by (try simp only []); omega, ?_⟩
        · refine Weak.trans (Weak.keep [7, 23, 24, 25]) ?_
          simp only [go_sem]
          refine Weak.trans (Weak.cutSV (σ := τ) 0 0 (by omega) (by omega) hclτ (by simp only [go_sem]) (by simp only [go_sem] <;> omega) (by simp only [go_sem] <;> omega)) ?_
          simp only [go_sem]
          exact Weak.eq rfl rfl
        · try dsimp only
          refine ⟨hi', fun x => ?_⟩
          rw [hsn, cntPl_snoc, List.mem_append, hv2, hvis]
          have hall2 : ∀ j, j < t.m.length → j ∈ seen := by simpa [mapE_len] using hall
          constructor
          · rintro (h | ⟨j, _, e, he, rfl⟩)
            · exact .inl h
            · exact .inr (List.mem_map.2 ⟨e, List.mem_of_getElem? he, rfl⟩)
          · rintro (h | h)
            · exact .inl h
            · obtain ⟨e, he, rfl⟩ := List.mem_map.1 h
              obtain ⟨j, hj⟩ := List.mem_iff_getElem?.1 he
              exact .inr ⟨j, hall2 j (List.getElem?_eq_some_iff.1 hj).1, e, hj, rfl⟩
      · -- next: one more
        obtain ⟨e, he, rfl, rfl⟩ := mapE_get hj0
        have hjl0 := (List.getElem?_eq_some_iff.1 he).1
        have hsn' := snoc_nodup hsn1 hns
        have hsl' := snoc_lt hsl2 hjl0
        have hln : (seen ++ [j0]).length = seen.length + 1 := by simp
        have hjl' := nodup_len hsn' hsl'
        obtain ⟨kk, e1, e2⟩ := hplt e (List.mem_of_getElem? he)
        obtain ⟨ky, kz⟩ := e
        simp only at e1
        subst e1
        have hkl : (kk : Int) < (l.length : Int) := by omega
        have hkn : kk < l.length := e2
        have hkO : decide (kk + 1 ≤ (mkO l.length vis2).length) = true := decide_eq_true (by rw [mkO_len]; omega)
        have hkset : ((mkO l.length vis2).map PV.bool).set kk (.bool true) = (mkO l.length (vis2 ++ [(kk : Int)])).map PV.bool := by rw [← mkO_set hkn, List.map_set]
        simp only [go_sem, repB, set_sv_ext]
        refine hR _ _ (kq14 _ _ ?_); clear hR K
        try simp only [go_sem, repB, set_sv_ext]
        refine W_seq fun kz16 kq16 => ?_
        refine W_cond_true rfl ?_
        refine W_skip (kq16 _ _ ?_)
        refine W_block ?_
        refine W_seq fun kz17 kq17 => ?_
        refine W_region [7, 11, 23, 24, 25, 31] fun R hR => ?_   -- r10
        simp only [go_sem, repB, set_sv_ext, entryPV, iterAt, hmpS, get_sv_ext, mapE_len, List.getLast?_concat, mapE_at he, List.getElem?_cons_succ, List.getElem?_cons_zero]
        refine hR _ _ (kq17 _ _ ?_); clear hR R; try clear kq17 kz17
        try simp only [go_sem, repB, set_sv_ext]
        refine W_region [7, 23, 24, 25, 31] fun R hR => ?_   -- r11
        simp only [go_sem, repB, set_sv_ext, stX_old (hlt2 _), stX_sv hlt, sv_sv, hkl, iaM_nat hkn, Nat.mul_one, Nat.zero_add, hkO, hkset]
        refine hR _ _ ?_; clear hR R
        try simp only [go_sem, repB, set_sv_ext]
        refine ⟨(seen ++ [j0], vis2 ++ [(kk : Int)]), ?_, by (try simp only []); omega, ?_⟩
        · first | exact Weak.refl | exact Weak.eq (by first | rfl | (simp only [go_sem]; done) | (simp only [go_sem]; rfl) | (simp [go_sem]; done) | (simp [go_sem]; omega)) (by first | rfl | (simp only [go_sem]; done) | (simp [go_sem]; done))
        · try dsimp only
          refine ⟨⟨hsn', hsl'⟩, fun x => ?_⟩
          rw [List.mem_append, hv2, List.mem_singleton]
          constructor
          · rintro ((h | ⟨j, h1, h2⟩) | rfl)
            · exact .inl h
            · exact .inr ⟨j, List.mem_append_left _ h1, h2⟩
            · exact .inr ⟨j0, by simp, _, he, rfl⟩
          · rintro (h | ⟨j, h1, e, h2, h3⟩)
            · exact .inl (.inl h)
            · rcases List.mem_append.1 h1 with h1 | h1
              · exact .inl (.inr ⟨j, h1, e, h2, h3⟩)
              · simp only [List.mem_singleton] at h1
                subst h1
                rw [he] at h2
                injection h2 with h2
                subst h2
                exact .inr h3.symm
    · -- c2 false
      try simp only [nrm] at c2
      have hie : ts.length = i := by first | omega | (simp at c2; omega)
      rw [← hie, List.take_length] at hvis
      have hfin := mkO_cong (n := l.length) hvis
      refine W_exit ?_
      simp only [go_sem, repB]
      refine kq7 _ _ ?_
      refine W_seq fun kz18 kq18 => ?_
      refine W_region [4, 5] fun R hR => ?_   -- r13
      simp only [go_sem, repB]
      refine hR _ _ (kq18 _ _ ?_); clear hR R; try clear kq18 kz18
      try simp only [go_sem, repB]
      rw [hfin, ← hτ, Sg.set_ext]
      try rw [Sg.ext_ext]
      simp only [List.set_cons_succ, List.set_cons_zero, List.append_nil]
      refine W_weak (Weak.freezeB (t := 4) (j := 1) (xs := mkO l.length (cntPl ts)) (by rw [mkO_len]; rfl) rfl) ?_
      simp only [go_sem]
      refine W_ret ?_
      simp only [go_sem, repB]
      refine ⟨.inr (by trivial), ?_⟩
      rw [hres]
      refine Fin_same hcl rfl (Wk_eq ?_ (by simp only [go_sem]))
      try simp only [go_sem]
      all_goals
        first | rfl | (simp only [go_sem]; done)
end Go.Proofs.Ytnolifglhhjdnaa
namespace Go.Proofs.Ytnolifglhhjdnaa
open Go Go.RowKit
set_option maxRecDepth 100000
theorem allOne {lo hi x : Int} : allIn lo hi [x] = inR x lo hi := by simp [allIn]
def chkRow (n : Int) : List Int → List Int → Int
  | _, [] => 0
  | p, x :: r => if !(inR x 0 (n - 1)) then 7 else if has p x then 8 else chkRow n (p ++ [x]) r
def orE (a b : Int) : Int := if a ≠ 0 then a else b
def chkRows (n : Int) : List (List Int) → Int
  | [] => 0
  | l :: r => orE (chkRow n [] l) (chkRows n r)
/-- The error of preferences. -/
def chkPf (n : Int) (ls : List (List Int)) : Int := if !(inR n 1 8) then 2 else if (ls.length : Int) > 200 then 5 else chkRows n ls
structure PfV (n : Int) (ls : List (List Int)) : Prop where
  nb : 1 ≤ n ∧ n ≤ 8
  ln : ls.length ≤ 200
  ck : ∀ l, l ∈ ls → chkRow n [] l = 0
theorem chkRows_zero {n : Int} : ∀ {ls : List (List Int)}, chkRows n ls = 0 ↔ ∀ l, l ∈ ls → chkRow n [] l = 0 := by
  intro ls
  induction ls with
  | nil => simp [chkRows]
  | cons a r ih =>
    simp only [chkRows, orE, List.mem_cons, forall_eq_or_imp]
    by_cases h : chkRow n [] a = 0
    · rw [if_neg (by simp [h]), ih]; simp [h]
    · rw [if_pos h]; simp [h]
theorem pfV_iff {n : Int} {ls : List (List Int)} : chkPf n ls = 0 ↔ PfV n ls := by
  unfold chkPf
  constructor
  · intro h
    by_cases h1 : inR n 1 8 = true
    · rw [h1] at h
      simp only [Bool.not_true, Bool.false_eq_true, if_false] at h
      split at h
      · omega
      · exact ⟨inR_true.1 h1, by omega, chkRows_zero.1 h⟩
    · have e : inR n 1 8 = false := by simpa using h1
      rw [e] at h
      simp at h
  · rintro ⟨h1, h2, h3⟩
    rw [inR_true.2 h1, if_neg (by simp), if_neg (by omega)]
    exact chkRows_zero.2 h3
theorem chkRow_mem {n : Int} : ∀ {l p : List Int}, chkRow n p l = 0 → (∀ x, x ∈ l → 0 ≤ x ∧ x ≤ n - 1) ∧ l.Nodup ∧ ∀ x, x ∈ l → x ∉ p := by
  intro l
  induction l with
  | nil => intro p _; simp
  | cons x r ih =>
    intro p h
    simp only [chkRow] at h
    by_cases h1 : inR x 0 (n - 1) = true
    · rw [h1] at h
      simp only [Bool.not_true, Bool.false_eq_true, if_false] at h
      by_cases h2 : has p x = true
      · rw [if_pos h2] at h; omega
      · rw [if_neg h2] at h
        obtain ⟨a, b, c⟩ := ih h
        have hx : x ∉ p := fun hm => h2 (has_iff.2 hm)
        refine ⟨fun y hy => ?_, List.nodup_cons.2 ⟨fun hm => c x hm (by simp), b⟩, fun y hy => ?_⟩
        · rcases List.mem_cons.1 hy with rfl | hy
          · exact inR_true.1 h1
          · exact a y hy
        · rcases List.mem_cons.1 hy with rfl | hy
          · exact hx
          · exact fun hm => c y hy (by simp [hm])
    · have e : inR x 0 (n - 1) = false := by simpa using h1
      rw [e] at h
      simp at h
set_option maxHeartbeats 4000000 in
theorem chkPf_pc (Y : YEnv) (σ : Sg) (n : Int) (ls : List (List Int)) (hl : ls.length < 2 ^ 40) (hl2 : ∀ l, l ∈ ls → l.length < 2 ^ 40) :
    PC Try.prog Y 45 [I n, lls ls] σ (I (chkPf n ls)) (σ) := by
  refine PC_of_W Try.func45 rfl (by kernel_rfl) Try.ntmps45 (by simp) fun hcl hca => ?_
  obtain ⟨res, hres⟩ : ∃ r, chkPf n ls = r := ⟨_, rfl⟩
  rw [hres]
  have hres2 := hres.symm
  unfold chkPf at hres2
  refine W_seq fun kz1 kq1 => ?_
  refine W_region [0, 1] fun R hR => ?_   -- r0
  simp only [go_sem, allOne]
  refine hR _ _ (kq1 _ _ ?_); clear hR R; try clear kq1 kz1
  try simp only [go_sem, allOne]
  refine W_seq fun kz2 kq2 => ?_
  refine W_block ?_
  refine W_seq fun kz3 kq3 => ?_
  refine W_region [0, 1, 9] fun R hR => ?_   -- r1
  simp only [go_sem, allOne]
  refine GCall_of (in_pc Y _ 1 8 [n] .exact (by simp)) ?_   -- t12
  simp only [go_sem, allOne]
  refine hR _ _ (kq3 _ _ ?_); clear hR R; try clear kq3 kz3
  try simp only [go_sem, allOne]
  refine W_cond rfl (fun c1 => ?_) (fun c1 => ?_)
  · -- c1 true
    try simp only [nrm] at c1
    have c1b : inR n 1 8 = false := by simpa using c1
    refine W_seq fun kz4 kq4 => ?_
    refine W_region [4] fun R hR => ?_   -- r2
    simp only [go_sem, allOne]
    refine hR _ _ (kq4 _ _ ?_); clear hR R; try clear kq4 kz4
    try simp only [go_sem, allOne]
    refine W_ret ?_
    simp only [go_sem, allOne]
    refine ⟨.inr (by trivial), ?_⟩
    first | refine Fin_same hcl rfl (Wk_eq ?_ (by simp only [go_sem])) | refine Fin_self hcl rfl (Wk_eq ?_ (by simp only [go_sem]))
    try simp only [go_sem]
    all_goals
      rw [hres2, c1b]; simp
  · -- c1 false
    try simp only [nrm] at c1
    have c1b : inR n 1 8 = true := by simpa using c1
    have hn := inR_true.1 c1b
    refine W_seq fun kz5 kq5 => ?_
    refine W_region [0, 1, 14] fun R hR => ?_   -- r3
    simp only [go_sem, allOne]
    refine hR _ _ (kq5 _ _ ?_); clear hR R; try clear kq5 kz5
    try simp only [go_sem, allOne]
    refine W_cond rfl (fun c2 => ?_) (fun c2 => ?_)
    · -- c2 true
      try simp only [nrm] at c2
      have c2b : (ls.length : Int) > 200 := by first | omega | (simp at c2; omega)
      refine W_seq fun kz6 kq6 => ?_
      refine W_region [4] fun R hR => ?_   -- r4
      simp only [go_sem, allOne]
      refine hR _ _ (kq6 _ _ ?_); clear hR R; try clear kq6 kz6
      try simp only [go_sem, allOne]
      refine W_ret ?_
      simp only [go_sem, allOne]
      refine ⟨.inr (by trivial), ?_⟩
      first | refine Fin_same hcl rfl (Wk_eq ?_ (by simp only [go_sem])) | refine Fin_self hcl rfl (Wk_eq ?_ (by simp only [go_sem]))
      try simp only [go_sem]
      all_goals
        rw [hres2, c1b, if_neg (by simp), if_pos c2b]
    · -- c2 false
      try simp only [nrm] at c2
      have c2b : ¬ (ls.length : Int) > 200 := by first | omega | (simp at c2; omega)
      have hres3 : res = chkRows n ls := by rw [hres2, c1b, if_neg (by simp), if_neg c2b]
      refine W_skip (kq2 _ _ ?_)
      refine W_seq fun kz7 kq7 => ?_
      refine W_seq fun kz8 kq8 => ?_
      refine W_region [0, 18, 19, 20] fun R hR => ?_   -- r5
      simp only [go_sem, allOne]
      refine hR _ _ (kq8 _ _ ?_); clear hR R; try clear kq8 kz8
      try simp only [go_sem, allOne]
      refine W_block ?_
      refine W_loopS (α := Nat) (fun (i : Nat) => [(20, I i)]) (fun (i : Nat) => i ≤ ls.length ∧ res = chkRows n (ls.drop i)) (fun (i : Nat) => ls.length - i) (0) rfl (⟨Nat.zero_le _, hres3⟩) ?_
      rintro i ⟨hi, hinv⟩
      refine W_seq fun kz9 kq9 => ?_
      refine W_region [0, 18, 19, 20, 21] fun R hR => ?_   -- r6
      simp only [go_sem, allOne]
      refine hR _ _ (kq9 _ _ ?_); clear hR R; try clear kq9 kz9
      try simp only [go_sem, allOne]
      refine W_seq fun kz10 kq10 => ?_
      refine W_cond rfl (fun c3 => ?_) (fun c3 => ?_)
      · -- c3 true
        try simp only [nrm] at c3
        have hi' : i < ls.length := by first | assumption | omega
        obtain ⟨l, hx⟩ : ∃ x, ls[i]? = some x := ⟨ls[i], by simp [hi']⟩
        have hdrop : ls.drop i = l :: ls.drop (i + 1) := by
          rw [List.drop_eq_getElem_cons hi']; congr 1; exact (List.getElem?_eq_some_iff.1 hx).2
        rw [hdrop] at hinv
        simp only [chkRows] at hinv
        have hll := hl2 l (List.mem_of_getElem? hx)
        have hik : i + 1 ≤ ls.length := hi'
        refine W_skip (kq10 _ _ ?_)
        refine W_seq fun kz11 kq11 => ?_
        refine W_block ?_
        refine W_seq fun kz12 kq12 => ?_
        refine W_region [0, 6, 18, 19, 20] fun R hR => ?_   -- r7
        simp only [go_sem, allOne, hx, llPV]
        refine hR _ _ (kq12 _ _ ?_); clear hR R; try clear kq12 kz12
        try simp only [go_sem, allOne, hx, llPV]
        refine W_seq fun kz13 kq13 => ?_
        refine W_region [0, 6, 18, 19, 20, 24, 25, 26] fun R hR => ?_   -- r8
        simp only [go_sem, allOne, hx, llPV]
        refine hR _ _ (kq13 _ _ ?_); clear hR R; try clear kq13 kz13
        try simp only [go_sem, allOne, hx, llPV]
        refine W_block ?_
        refine W_loopS (α := Nat) (fun (k : Nat) => [(26, I k)]) (fun (k : Nat) => k ≤ l.length ∧ res = orE (chkRow n (l.take k) (l.drop k)) (chkRows n (ls.drop (i + 1)))) (fun (k : Nat) => l.length - k) (0) rfl (⟨Nat.zero_le _, by rw [hinv]; rfl⟩) ?_
        rintro k ⟨hk, hinv2⟩
        refine W_seq fun kz14 kq14 => ?_
        refine W_region [0, 6, 18, 19, 20, 24, 25, 26, 27] fun R hR => ?_   -- r9
        simp only [go_sem, allOne, hx, llPV]
        refine hR _ _ (kq14 _ _ ?_); clear hR R; try clear kq14 kz14
        try simp only [go_sem, allOne, hx, llPV]
        refine W_seq fun kz15 kq15 => ?_
        refine W_cond rfl (fun c4 => ?_) (fun c4 => ?_)
        · -- c4 true
          try simp only [nrm] at c4
          have hk' : k < l.length := by first | assumption | omega
          obtain ⟨v, hv⟩ : ∃ v, l[k]? = some v := ⟨l[k], by simp [hk']⟩
          have hdk : l.drop k = v :: l.drop (k + 1) := by
            rw [List.drop_eq_getElem_cons hk']; congr 1; exact (List.getElem?_eq_some_iff.1 hv).2
          rw [hdk] at hinv2
          simp only [chkRow] at hinv2
          have htk : l.take (k + 1) = l.take k ++ [v] := by rw [List.take_add_one, hv]; rfl
          refine W_skip (kq15 _ _ ?_)
          refine W_seq fun kz16 kq16 => ?_
          refine W_block ?_
          refine W_seq fun kz17 kq17 => ?_
          refine W_region [0, 6, 7, 8, 18, 19, 20, 24, 25, 26] fun R hR => ?_   -- r10
          simp only [go_sem, allOne, hx, llPV, hv]
          refine hR _ _ (kq17 _ _ ?_); clear hR R; try clear kq17 kz17
          try simp only [go_sem, allOne, hx, llPV, hv]
          refine W_block ?_
          refine W_seq fun kz18 kq18 => ?_
          refine W_region [0, 6, 7, 8, 18, 19, 20, 24, 25, 26, 31] fun R hR => ?_   -- r11
          simp only [go_sem, allOne, hx, llPV, hv]
          try simp (disch := omega) only [wrapI, wrapU]
          refine GCall_of (in_pc Y _ 0 (n - 1) [v] .exact (by simp)) ?_   -- t36
          simp only [go_sem, allOne, hx, llPV, hv]
          try simp (disch := omega) only [wrapI, wrapU]
          refine hR _ _ (kq18 _ _ ?_); clear hR R; try clear kq18 kz18
          try simp only [go_sem, allOne, hx, llPV, hv]
          refine W_cond rfl (fun c5 => ?_) (fun c5 => ?_)
          · -- c5 true
            try simp only [nrm] at c5
            have c5b : inR v 0 (n - 1) = false := by simpa using c5
            refine W_seq fun kz19 kq19 => ?_
            refine W_region [4] fun R hR => ?_   -- r12
            simp only [go_sem, allOne, hx, llPV, hv]
            refine hR _ _ (kq19 _ _ ?_); clear hR R; try clear kq19 kz19
            try simp only [go_sem, allOne, hx, llPV, hv]
            refine W_ret ?_
            simp only [go_sem, allOne, hx, llPV, hv]
            refine ⟨.inr (by trivial), ?_⟩
            first | refine Fin_same hcl rfl (Wk_eq ?_ (by simp only [go_sem])) | refine Fin_self hcl rfl (Wk_eq ?_ (by simp only [go_sem]))
            try simp only [go_sem]
            all_goals
              rw [hinv2, c5b]; simp [orE]
          · -- c5 false
            try simp only [nrm] at c5
            have c5b : inR v 0 (n - 1) = true := by simpa using c5
            refine W_seq fun kz20 kq20 => ?_
            refine W_region [0, 6, 18, 19, 20, 24, 25, 26, 38] fun R hR => ?_   -- r13
            simp only [go_sem, allOne, hx, llPV, hv, hk, ← List.map_take]
            refine GCall_of (contains_pc Y _ (l.take k) _ v (by rw [List.length_take]; omega)) ?_   -- t43
            simp only [go_sem, allOne, hx, llPV, hv, hk, ← List.map_take]
            refine hR _ _ (kq20 _ _ ?_); clear hR R; try clear kq20 kz20
            try simp only [go_sem, allOne, hx, llPV, hv]
            refine W_cond rfl (fun c6 => ?_) (fun c6 => ?_)
            · -- c6 true
              try simp only [nrm] at c6
              have c6b : has (l.take k) v = true := by simpa using c6
              refine W_seq fun kz21 kq21 => ?_
              refine W_region [4] fun R hR => ?_   -- r14
              simp only [go_sem, allOne, hx, llPV, hv]
              refine hR _ _ (kq21 _ _ ?_); clear hR R; try clear kq21 kz21
              try simp only [go_sem, allOne, hx, llPV, hv]
              refine W_ret ?_
              simp only [go_sem, allOne, hx, llPV, hv]
              refine ⟨.inr (by trivial), ?_⟩
              first | refine Fin_same hcl rfl (Wk_eq ?_ (by simp only [go_sem])) | refine Fin_self hcl rfl (Wk_eq ?_ (by simp only [go_sem]))
              try simp only [go_sem]
              all_goals
                rw [hinv2, c5b, c6b]; simp [orE]
            · -- c6 false
              try simp only [nrm] at c6
              have c6b : has (l.take k) v = false := by simpa using c6
              refine W_skip (kq16 _ _ ?_)
              refine W_region [0, 6, 18, 19, 20, 24, 25, 26] fun R hR => ?_   -- r15
              simp only [go_sem, allOne, hx, llPV, hv]
              try simp (disch := omega) only [wrapI, wrapU]
              refine hR _ _ ?_; clear hR R
              try simp only [go_sem, allOne, hx, llPV, hv]
              refine ⟨k + 1, ?_, by (try simp only []); omega, ?_⟩
              · first | exact Weak.refl | exact Weak.eq (by first | rfl | (simp only [go_sem]; done) | (simp only [go_sem]; rfl) | (simp [go_sem]; done) | (simp [go_sem]; omega)) (by first | rfl | (simp only [go_sem]; done) | (simp [go_sem]; done))
              · try dsimp only
                refine ⟨by omega, ?_⟩
                rw [hinv2, htk, c5b, c6b]
                simp
        · -- c4 false
          try simp only [nrm] at c4
          have hdk : l.drop k = [] := List.drop_eq_nil_of_le (by omega)
          rw [hdk] at hinv2
          simp only [chkRow, orE] at hinv2
          have hdone : res = chkRows n (ls.drop (i + 1)) := by rw [hinv2]; simp
          refine W_exit ?_
          simp only [go_sem, allOne, hx, llPV]
          refine kq11 _ _ ?_
          refine W_region [0, 18, 19, 20] fun R hR => ?_   -- r16
          simp only [go_sem, allOne, hx, llPV]
          try simp (disch := omega) only [wrapI, wrapU]
          refine hR _ _ ?_; clear hR R
          try simp only [go_sem, allOne, hx, llPV]
          refine ⟨i + 1, ?_, by (try simp only []); omega, ?_⟩
          · first | exact Weak.refl | exact Weak.eq (by first | rfl | (simp only [go_sem]; done) | (simp only [go_sem]; rfl) | (simp [go_sem]; done) | (simp [go_sem]; omega)) (by first | rfl | (simp only [go_sem]; done) | (simp [go_sem]; done))
          · try dsimp only
            exact ⟨hik, hdone⟩
      · -- c3 false
        try simp only [nrm] at c3
        have hdrop : ls.drop i = [] := List.drop_eq_nil_of_le (by omega)
        rw [hdrop] at hinv
        simp only [chkRows] at hinv
        refine W_exit ?_
        simp only [go_sem, allOne]
        refine kq7 _ _ ?_
        refine W_seq fun kz22 kq22 => ?_
        refine W_region [4] fun R hR => ?_   -- r17
        simp only [go_sem, allOne]
        refine hR _ _ (kq22 _ _ ?_); clear hR R; try clear kq22 kz22
        try simp only [go_sem, allOne]
        refine W_ret ?_
        simp only [go_sem, allOne]
        refine ⟨.inr (by trivial), ?_⟩
        first | refine Fin_same hcl rfl (Wk_eq ?_ (by simp only [go_sem])) | refine Fin_self hcl rfl (Wk_eq ?_ (by simp only [go_sem]))
        try simp only [go_sem]
        all_goals
          rw [hinv]
end Go.Proofs.Ytnolifglhhjdnaa
namespace Go.Proofs.Ytnolifglhhjdnaa
open Go Go.RowKit
set_option maxRecDepth 100000
/-- What depends on the drum's beat, and the beat behind it. -/
abbrev D (α : Type) := Int → α × Int
def dret {α : Type} (a : α) : D α := fun b => (a, b)
def dbind {α β : Type} (m : D α) (f : α → D β) : D β := fun b => f (m b).1 (m b).2
def Holds {α : Type} (m : D α) (R : α → Prop) : Prop := ∀ b, R (m b).1
theorem Holds.ret {α : Type} {a : α} {R : α → Prop} (h : R a) : Holds (dret a) R := fun _ => h
theorem Holds.bind {α β : Type} {m : D α} {f : α → D β} {R : α → Prop} {S : β → Prop} (h : Holds m R) (k : ∀ a, R a → Holds (f a) S) : Holds (dbind m f) S := fun b => k _ (h b) _
theorem Holds.mono {α : Type} {m : D α} {R S : α → Prop} (h : Holds m R) (k : ∀ a, R a → S a) : Holds m S := fun b => k _ (h b)
def xorU (a b : Int) : Int := match arith .xor .u64 a b with | some (.int _ n) => n | _ => 0
def hitB (b : Int) : Int := IntKind.u64.wrap (IntKind.u64.wrap (b * 15074714826142052245) + 11400714819323198485)
def hitM (x : Int) : Int := IntKind.u64.wrap (xorU x (x.fdiv 4294967296) * 15760922415973212899)
def hitX (b : Int) : Int := xorU (hitM (hitM (hitB b))) ((hitM (hitM (hitB b))).fdiv 4294967296)
theorem wrapU_bd (n : Int) : 0 ≤ IntKind.u64.wrap n ∧ IntKind.u64.wrap n ≤ 18446744073709551615 := by
  have h : IntKind.u64.wrap n = n % 18446744073709551616 := rfl
  rw [h]; omega
theorem hitX_bd (b : Int) : 0 ≤ hitX b ∧ hitX b ≤ 18446744073709551615 := wrapU_bd _
def roll0 (n : Int) : D Int := fun b => if n < 2 then (0, b) else ((hitX b / 2) % n, hitB b)
/-- A number drawn: sealed, so that nobody computes with it. -/
noncomputable def roll : Int → D Int := Classical.choose (⟨roll0, rfl⟩ : ∃ f, f = roll0)
theorem roll_eq : roll = fun n b => if n < 2 then (0, b) else ((hitX b / 2) % n, hitB b) := Classical.choose_spec (⟨roll0, rfl⟩ : ∃ f, f = roll0)
noncomputable def mid (lo hi : Int) : D Int := fun b => (lo + (roll (hi - lo + 1) b).1, (roll (hi - lo + 1) b).2)
noncomputable def anyOf (l : List Int) : D Int := fun b => ((l[(roll l.length b).1.toNat]?).getD 0, (roll l.length b).2)
theorem roll_bd (n : Int) : Holds (roll n) fun r => 0 ≤ r ∧ r < max n 1 := by
  intro b
  rw [roll_eq]
  dsimp only
  have := hitX_bd b
  by_cases h : n < 2
  · rw [if_pos h]; simp only []; omega
  · rw [if_neg h]
    have h1 := Int.emod_nonneg (hitX b / 2) (show n ≠ 0 by omega)
    have h2 := Int.emod_lt_of_pos (hitX b / 2) (show 0 < n by omega)
    simp only []; omega
theorem mid_bd (lo hi : Int) (h : lo ≤ hi) : Holds (mid lo hi) fun r => lo ≤ r ∧ r ≤ hi := by
  intro b
  have := roll_bd (hi - lo + 1) b
  simp only [mid] at *
  omega
theorem anyOf_mem (l : List Int) (h : l ≠ []) : Holds (anyOf l) fun r => r ∈ l := by
  intro b
  have := roll_bd l.length b
  simp only [anyOf] at *
  have hl : 0 < l.length := by cases l with | nil => exact absurd rfl h | cons => simp
  have hlt : (roll (l.length : Int) b).1.toNat < l.length := by omega
  rw [List.getElem?_eq_getElem hlt]
  exact List.getElem_mem hlt
set_option maxHeartbeats 2000000 in
theorem hit_pc (Y : YEnv) (σ : Sg) (d : Nat) (b : Int) (hd : σ.store[d]? = some (some [.int .u64 b])) :
    PC Try.prog Y 35 [.ptr d 0] σ (.int .u64 (hitX b)) (σ.setVar d [.int .u64 (hitB b)]) := by
  refine PC_of_W Try.func35 rfl (by kernel_rfl) Try.ntmps35 (by simp) fun hcl hca => ?_
  have hlt := lt_of_get hd
  refine W_seq fun kz1 kq1 => ?_
  refine W_region [0] fun R hR => ?_   -- r0
  simp only [go_sem, ldS_at hd, stX_at hd, ldS_sv hlt, stX_sv hlt, sv_ext hlt, sv_ext_sv hlt]
  refine hR _ _ (kq1 _ _ ?_); clear hR R; try clear kq1 kz1
  try simp only [go_sem, ldS_at hd, stX_at hd, ldS_sv hlt, stX_sv hlt, sv_ext hlt, sv_ext_sv hlt]
  refine W_seq fun kz2 kq2 => ?_
  refine W_region [0] fun R hR => ?_   -- r1
  simp only [go_sem, ldS_at hd, stX_at hd, ldS_sv hlt, stX_sv hlt, sv_ext hlt, sv_ext_sv hlt]
  try simp (disch := omega) only [wrapI, wrapU]
  refine hR _ _ (kq2 _ _ ?_); clear hR R; try clear kq2 kz2
  try simp only [go_sem, ldS_at hd, stX_at hd, ldS_sv hlt, stX_sv hlt, sv_ext hlt, sv_ext_sv hlt]
  refine W_seq fun kz3 kq3 => ?_
  refine W_region [3] fun R hR => ?_   -- r2
  simp only [go_sem, ldS_at hd, stX_at hd, ldS_sv hlt, stX_sv hlt, sv_ext hlt, sv_ext_sv hlt]
  refine hR _ _ (kq3 _ _ ?_); clear hR R; try clear kq3 kz3
  try simp only [go_sem, ldS_at hd, stX_at hd, ldS_sv hlt, stX_sv hlt, sv_ext hlt, sv_ext_sv hlt]
  refine W_seq fun kz4 kq4 => ?_
  refine W_region [3] fun R hR => ?_   -- r3
  simp only [go_sem, ldS_at hd, stX_at hd, ldS_sv hlt, stX_sv hlt, sv_ext hlt, sv_ext_sv hlt]
  try simp (disch := omega) only [wrapI, wrapU]
  refine hR _ _ (kq4 _ _ ?_); clear hR R; try clear kq4 kz4
  try simp only [go_sem, ldS_at hd, stX_at hd, ldS_sv hlt, stX_sv hlt, sv_ext hlt, sv_ext_sv hlt]
  refine W_seq fun kz5 kq5 => ?_
  refine W_region [3] fun R hR => ?_   -- r4
  simp only [go_sem, ldS_at hd, stX_at hd, ldS_sv hlt, stX_sv hlt, sv_ext hlt, sv_ext_sv hlt]
  try simp (disch := omega) only [wrapI, wrapU]
  refine hR _ _ (kq5 _ _ ?_); clear hR R; try clear kq5 kz5
  try simp only [go_sem, ldS_at hd, stX_at hd, ldS_sv hlt, stX_sv hlt, sv_ext hlt, sv_ext_sv hlt]
  refine W_seq fun kz6 kq6 => ?_
  refine W_region [2] fun R hR => ?_   -- r5
  simp only [go_sem, ldS_at hd, stX_at hd, ldS_sv hlt, stX_sv hlt, sv_ext hlt, sv_ext_sv hlt]
  refine hR _ _ (kq6 _ _ ?_); clear hR R; try clear kq6 kz6
  try simp only [go_sem, ldS_at hd, stX_at hd, ldS_sv hlt, stX_sv hlt, sv_ext hlt, sv_ext_sv hlt]
  refine W_ret ?_
  simp only [go_sem, ldS_at hd, stX_at hd, ldS_sv hlt, stX_sv hlt, sv_ext hlt, sv_ext_sv hlt]
  refine ⟨.inr (by trivial), ?_⟩
  first | refine Fin_set hcl (by simp only [go_sem]) rfl (Wk_eq ?_ (by simp only [go_sem])) | refine Fin_set0 hcl (by simp only [go_sem]) rfl (Wk_eq ?_ (by simp only [go_sem]))
  try simp only [go_sem]
  all_goals
    simp only [hitX, hitM, hitB, xorU, go_sem]; simp (disch := omega) only [wrapU]
set_option maxHeartbeats 2000000 in
theorem Roll_lo (Y : YEnv) (σ : Sg) (d : Nat) (n : Int) (hn : n < 2) :
    PC Try.prog Y 27 [.ptr d 0, I n] σ (I 0) (σ) := by
  refine PC_of_W Try.func27 rfl (by kernel_rfl) Try.ntmps27 (by simp) fun hcl hca => ?_
  refine W_seq fun kz1 kq1 => ?_
  refine W_region [0, 1] fun R hR => ?_   -- r0
  simp only [go_sem]
  refine hR _ _ (kq1 _ _ ?_); clear hR R; try clear kq1 kz1
  try simp only [go_sem]
  refine W_seq fun kz2 kq2 => ?_
  refine W_seq fun kz3 kq3 => ?_
  refine W_region [0, 1, 6] fun R hR => ?_   -- r1
  simp only [go_sem]
  refine hR _ _ (kq3 _ _ ?_); clear hR R; try clear kq3 kz3
  try simp only [go_sem]
  refine W_cond rfl (fun c1 => ?_) (fun c1 => ?_)
  · -- c1 true
    try simp only [nrm] at c1
    refine W_seq fun kz4 kq4 => ?_
    refine W_region [4] fun R hR => ?_   -- r2
    simp only [go_sem]
    refine hR _ _ (kq4 _ _ ?_); clear hR R; try clear kq4 kz4
    try simp only [go_sem]
    refine W_ret ?_
    simp only [go_sem]
    refine ⟨.inr (by trivial), ?_⟩
    first | refine Fin_same hcl rfl (Wk_eq ?_ (by simp only [go_sem])) | refine Fin_self hcl rfl (Wk_eq ?_ (by simp only [go_sem]))
    try simp only [go_sem]
    all_goals
      first | rfl | (simp_all; done) | (simp_all; omega)
  · -- c1 false
    try simp only [nrm] at c1
    exfalso
    omega
set_option maxHeartbeats 2000000 in
theorem Roll_hi (Y : YEnv) (σ : Sg) (d : Nat) (b : Int) (hd : σ.store[d]? = some (some [.int .u64 b])) (n : Int) (hn : 2 ≤ n) (hn2 : n < 2 ^ 62) :
    PC Try.prog Y 27 [.ptr d 0, I n] σ (I ((hitX b / 2) % n)) (σ.setVar d [.int .u64 (hitB b)]) := by
  refine PC_of_W Try.func27 rfl (by kernel_rfl) Try.ntmps27 (by simp) fun hcl hca => ?_
  have hlt := lt_of_get hd
  have hb := hitX_bd b
  have e1 : (hitX b).fdiv 2 = hitX b / 2 := Int.fdiv_eq_ediv_of_nonneg _ (by omega)
  have e2 : (hitX b / 2).tmod n = (hitX b / 2) % n := Int.tmod_eq_emod_of_nonneg (by omega)
  have h1 := Int.emod_nonneg (hitX b / 2) (show n ≠ 0 by omega)
  have h2 := Int.emod_lt_of_pos (hitX b / 2) (show 0 < n by omega)
  have e3 : ¬ n = 0 := by omega
  have e4 : IntKind.u64.wrap n = n := wrapU (by omega) (by omega)
  refine W_seq fun kz1 kq1 => ?_
  refine W_region [0, 1] fun R hR => ?_   -- r0
  simp only [go_sem, ldS_at hd, stX_at hd, ldS_sv hlt, stX_sv hlt, sv_ext hlt, sv_ext_sv hlt]
  refine hR _ _ (kq1 _ _ ?_); clear hR R; try clear kq1 kz1
  try simp only [go_sem, ldS_at hd, stX_at hd, ldS_sv hlt, stX_sv hlt, sv_ext hlt, sv_ext_sv hlt]
  refine W_seq fun kz2 kq2 => ?_
  refine W_seq fun kz3 kq3 => ?_
  refine W_region [0, 1, 6] fun R hR => ?_   -- r1
  simp only [go_sem, ldS_at hd, stX_at hd, ldS_sv hlt, stX_sv hlt, sv_ext hlt, sv_ext_sv hlt]
  refine hR _ _ (kq3 _ _ ?_); clear hR R; try clear kq3 kz3
  try simp only [go_sem, ldS_at hd, stX_at hd, ldS_sv hlt, stX_sv hlt, sv_ext hlt, sv_ext_sv hlt]
  refine W_cond rfl (fun c1 => ?_) (fun c1 => ?_)
  · -- c1 true
    try simp only [nrm] at c1
    exfalso
    omega
  · -- c1 false
    try simp only [nrm] at c1
    refine W_skip (kq2 _ _ ?_)
    refine W_seq fun kz4 kq4 => ?_
    refine W_region [4] fun R hR => ?_   -- r3
    simp only [go_sem, ldS_at hd, stX_at hd, ldS_sv hlt, stX_sv hlt, sv_ext hlt, sv_ext_sv hlt, e4, e1, e2, e3]
    refine GCall_of (hit_pc Y _ d b hd) ?_   -- t8
    simp only [go_sem, ldS_at hd, stX_at hd, ldS_sv hlt, stX_sv hlt, sv_ext hlt, sv_ext_sv hlt, e4, e1, e2, e3]
    try simp (disch := omega) only [wrapI, wrapU]
    refine hR _ _ (kq4 _ _ ?_); clear hR R; try clear kq4 kz4
    try simp only [go_sem, ldS_at hd, stX_at hd, ldS_sv hlt, stX_sv hlt, sv_ext hlt, sv_ext_sv hlt]
    refine W_ret ?_
    simp only [go_sem, ldS_at hd, stX_at hd, ldS_sv hlt, stX_sv hlt, sv_ext hlt, sv_ext_sv hlt]
    refine ⟨.inr (by trivial), ?_⟩
    first | refine Fin_set hcl (by simp only [go_sem]) rfl (Wk_eq ?_ (by simp only [go_sem])) | refine Fin_set0 hcl (by simp only [go_sem]) rfl (Wk_eq ?_ (by simp only [go_sem]))
    try simp only [go_sem]
    all_goals
      first | rfl | (simp_all; done) | (simp_all; omega)
theorem Roll_pc (Y : YEnv) (σ : Sg) (d : Nat) (b : Int) (hd : σ.store[d]? = some (some [.int .u64 b])) (n : Int) (hn2 : n < 2 ^ 62) : PC Try.prog Y 27 [.ptr d 0, I n] σ (I (roll n b).1) (σ.setVar d [.int .u64 (roll n b).2]) := by
  rw [roll_eq]
  dsimp only
  by_cases h : n < 2
  · rw [if_pos h]; simp only []; rw [sv_self hd]; exact Roll_lo Y σ d n h
  · rw [if_neg h]; exact Roll_hi Y σ d b hd n (by omega) hn2
set_option maxHeartbeats 2000000 in
theorem Mid_pc (Y : YEnv) (σ : Sg) (d : Nat) (b : Int) (hd : σ.store[d]? = some (some [.int .u64 b])) (lo hi : Int) (h1 : -2 ^ 60 ≤ lo) (h2 : lo ≤ 2 ^ 60) (h3 : -2 ^ 60 ≤ hi) (h4 : hi ≤ 2 ^ 60) :
    PC Try.prog Y 19 [.ptr d 0, I lo, I hi] σ (I (mid lo hi b).1) (σ.setVar d [.int .u64 (mid lo hi b).2]) := by
  refine PC_of_W Try.func19 rfl (by kernel_rfl) Try.ntmps19 (by simp) fun hcl hca => ?_
  have hlt := lt_of_get hd
  have hr := roll_bd (hi - lo + 1) b
  simp only [] at hr
  refine W_seq fun kz1 kq1 => ?_
  refine W_region [0, 1, 2] fun R hR => ?_   -- r0
  simp only [go_sem, ldS_at hd, stX_at hd, ldS_sv hlt, stX_sv hlt, sv_ext hlt, sv_ext_sv hlt]
  refine hR _ _ (kq1 _ _ ?_); clear hR R; try clear kq1 kz1
  try simp only [go_sem, ldS_at hd, stX_at hd, ldS_sv hlt, stX_sv hlt, sv_ext hlt, sv_ext_sv hlt]
  refine W_seq fun kz2 kq2 => ?_
  refine W_region [6] fun R hR => ?_   -- r1
  simp only [go_sem, ldS_at hd, stX_at hd, ldS_sv hlt, stX_sv hlt, sv_ext hlt, sv_ext_sv hlt]
  try simp (disch := omega) only [wrapI, wrapU]
  refine GCall_of (Roll_pc Y _ d b (by first | exact hd | exact sv_get hlt | exact get_svx hlt | exact get_extx hd) _ (by omega)) ?_   -- t13
  simp only [go_sem, ldS_at hd, stX_at hd, ldS_sv hlt, stX_sv hlt, sv_ext hlt, sv_ext_sv hlt]
  try simp (disch := omega) only [wrapI, wrapU]
  refine hR _ _ (kq2 _ _ ?_); clear hR R; try clear kq2 kz2
  try simp only [go_sem, ldS_at hd, stX_at hd, ldS_sv hlt, stX_sv hlt, sv_ext hlt, sv_ext_sv hlt]
  refine W_ret ?_
  simp only [go_sem, ldS_at hd, stX_at hd, ldS_sv hlt, stX_sv hlt, sv_ext hlt, sv_ext_sv hlt]
  refine ⟨.inr (by trivial), ?_⟩
  first | refine Fin_set hcl (by simp only [go_sem]) rfl (Wk_eq ?_ (by simp only [go_sem])) | refine Fin_set0 hcl (by simp only [go_sem]) rfl (Wk_eq ?_ (by simp only [go_sem]))
  try simp only [go_sem]
  all_goals
    first | rfl | (simp_all; done) | (simp_all; omega)
set_option maxHeartbeats 2000000 in
theorem Any_pc (Y : YEnv) (σ : Sg) (d : Nat) (b : Int) (hd : σ.store[d]? = some (some [.int .u64 b])) (l : List Int) (hl : l ≠ []) (hl2 : l.length < 2 ^ 50) :
    PC Try.prog Y 36 [.ptr d 0, .isl (l.map I) .exact] σ (I (anyOf l b).1) (σ.setVar d [.int .u64 (anyOf l b).2]) := by
  refine PC_of_W Try.func36 rfl (by kernel_rfl) Try.ntmps36 (by simp) fun hcl hca => ?_
  have hlt := lt_of_get hd
  have hr := roll_bd l.length b
  simp only [] at hr
  have hl0 : 0 < l.length := by cases l with | nil => exact absurd rfl hl | cons => simp
  have hlt2 : (roll (l.length : Int) b).1.toNat < l.length := by omega
  obtain ⟨x, hx⟩ : ∃ x, l[(roll (l.length : Int) b).1.toNat]? = some x := ⟨_, List.getElem?_eq_getElem hlt2⟩
  have hnn := hr.1
  refine W_seq fun kz1 kq1 => ?_
  refine W_region [0, 1] fun R hR => ?_   -- r0
  simp only [go_sem, ldS_at hd, stX_at hd, ldS_sv hlt, stX_sv hlt, sv_ext hlt, sv_ext_sv hlt]
  refine hR _ _ (kq1 _ _ ?_); clear hR R; try clear kq1 kz1
  try simp only [go_sem, ldS_at hd, stX_at hd, ldS_sv hlt, stX_sv hlt, sv_ext hlt, sv_ext_sv hlt]
  refine W_seq fun kz2 kq2 => ?_
  refine W_seq fun kz3 kq3 => ?_
  refine W_region [0, 1, 7] fun R hR => ?_   -- r1
  simp only [go_sem, ldS_at hd, stX_at hd, ldS_sv hlt, stX_sv hlt, sv_ext hlt, sv_ext_sv hlt]
  refine hR _ _ (kq3 _ _ ?_); clear hR R; try clear kq3 kz3
  try simp only [go_sem, ldS_at hd, stX_at hd, ldS_sv hlt, stX_sv hlt, sv_ext hlt, sv_ext_sv hlt]
  refine W_cond rfl (fun c1 => ?_) (fun c1 => ?_)
  · -- c1 true
    try simp only [nrm] at c1
    exfalso
    omega
  · -- c1 false
    try simp only [nrm] at c1
    refine W_skip (kq2 _ _ ?_)
    refine W_seq fun kz4 kq4 => ?_
    refine W_region [4] fun R hR => ?_   -- r3
    simp only [go_sem, ldS_at hd, stX_at hd, ldS_sv hlt, stX_sv hlt, sv_ext hlt, sv_ext_sv hlt, hnn, hx]
    refine GCall_of (Roll_pc Y _ d b (by first | exact hd | exact sv_get hlt | exact get_svx hlt | exact get_extx hd) _ (by omega)) ?_   -- t12
    simp only [go_sem, ldS_at hd, stX_at hd, ldS_sv hlt, stX_sv hlt, sv_ext hlt, sv_ext_sv hlt, hnn, hx]
    refine hR _ _ (kq4 _ _ ?_); clear hR R; try clear kq4 kz4
    try simp only [go_sem, ldS_at hd, stX_at hd, ldS_sv hlt, stX_sv hlt, sv_ext hlt, sv_ext_sv hlt]
    refine W_ret ?_
    simp only [go_sem, ldS_at hd, stX_at hd, ldS_sv hlt, stX_sv hlt, sv_ext hlt, sv_ext_sv hlt]
    refine ⟨.inr (by trivial), ?_⟩
    first | refine Fin_set hcl (by simp only [go_sem]) rfl (Wk_eq ?_ (by simp only [go_sem])) | refine Fin_set0 hcl (by simp only [go_sem]) rfl (Wk_eq ?_ (by simp only [go_sem]))
    try simp only [go_sem]
    all_goals
      simp only [anyOf, hx, Option.getD_some]
end Go.Proofs.Ytnolifglhhjdnaa
namespace Go.Proofs.Ytnolifglhhjdnaa
open Go Go.RowKit
set_option maxRecDepth 100000
def drumB : List Int → Int → Int
  | [], b => b
  | x :: r, b => drumB r (hitB (xorU b (IntKind.u64.wrap x)))
set_option maxHeartbeats 2000000 in
theorem DrumOf_pc (Y : YEnv) (σ : Sg) (nums : List Int) (hl : nums.length < 2 ^ 60) :
    PC Try.prog Y 10 [ints nums] σ (.ptr σ.store.length 0) (σ.ext [some [.int .u64 (drumB nums 2685821657736338717)]] []) := by
  refine PC_of_W Try.func10 rfl (by kernel_rfl) Try.ntmps10 (by simp) fun hcl hca => ?_
  refine W_seq fun kz1 kq1 => ?_
  refine W_region [0] fun R hR => ?_   -- r0
  simp only [go_sem]
  refine hR _ _ (kq1 _ _ ?_); clear hR R; try clear kq1 kz1
  try simp only [go_sem]
  refine W_seq fun kz2 kq2 => ?_
  refine W_region [0, 3] fun R hR => ?_   -- r1
  simp only [go_sem]
  refine hR _ _ (kq2 _ _ ?_); clear hR R; try clear kq2 kz2
  try simp only [go_sem]
  refine W_seq fun kz3 kq3 => ?_
  refine W_seq fun kz4 kq4 => ?_
  refine W_region [0, 3, 4] fun R hR => ?_   -- r2
  simp only [go_sem]
  refine hR _ _ (kq4 _ _ ?_); clear hR R; try clear kq4 kz4
  try simp only [go_sem]
  refine W_block ?_
  refine W_loopT (α := Nat × Int) (fun ⟨i, b⟩ => [(4, I i)]) (fun ⟨i, b⟩ => σ.ext [some [.int .u64 b]] []) (fun ⟨i, b⟩ => i ≤ nums.length ∧ drumB nums 2685821657736338717 = drumB (nums.drop i) b) (fun ⟨i, b⟩ => nums.length - i) ((0, 2685821657736338717)) rfl (by first | rfl | (simp only [go_sem]; done) | (simp only [go_sem]; rfl)) (⟨Nat.zero_le _, rfl⟩) ?_
  rintro ⟨i, b⟩ ⟨hi, hb⟩
  refine W_seq fun kz5 kq5 => ?_
  refine W_seq fun kz6 kq6 => ?_
  refine W_region [0, 3, 4, 10] fun R hR => ?_   -- r3
  simp only [go_sem]
  refine hR _ _ (kq6 _ _ ?_); clear hR R; try clear kq6 kz6
  try simp only [go_sem]
  refine W_cond rfl (fun c1 => ?_) (fun c1 => ?_)
  · -- c1 true
    try simp only [nrm] at c1
    have hi' : i < nums.length := by first | assumption | omega
    obtain ⟨x, hx⟩ : ∃ x, nums[i]? = some x := ⟨nums[i], by simp [hi']⟩
    have hdrop : nums.drop i = x :: nums.drop (i + 1) := by
      rw [List.drop_eq_getElem_cons hi']; congr 1; exact (List.getElem?_eq_some_iff.1 hx).2
    rw [hdrop] at hb
    simp only [drumB] at hb
    refine W_skip (kq5 _ _ ?_)
    refine W_seq fun kz7 kq7 => ?_
    refine W_block ?_
    refine W_seq fun kz8 kq8 => ?_
    refine W_draw [0, 3, 4] [0, 1, 2, 3, 4, 5, 6, 7, 8, 9, 10, 11, 12, 13] [] [[], [], [1], [1, 2], [1, 2, 3], [], [], [5, 6], [5, 6, 7], [5, 6, 7, 8], [1, 2, 3, 4, 5, 6, 7, 8, 9], [0, 1, 2, 3, 4, 5, 6, 7, 8, 9, 10], [0, 1, 2, 3, 4, 5, 6, 7, 8, 9, 10, 11], [0, 1, 2, 3, 4, 5, 6, 7, 8, 9, 10, 11, 12]] mixed (by kernel_rfl) fun R hR => ?_   -- r5
    simp only [go_sem, hx]
    try simp (disch := omega) only [wrapI, wrapU]
    try refine And.intro (by repeat' (first | refine And.intro ?_ ?_ | exact GOr_right (fun _ => by simp only [go_sem, hx]))) ?_
    refine hR _ _ (kq8 _ _ ?_); clear hR R; try clear kq8 kz8
    try simp only [go_sem, hx]
    refine W_region [0, 3, 4] fun R hR => ?_   -- r6
    simp only [go_sem, hx]
    refine GCall_of (hit_pc Y _ _ _ (Sg.get_ext0 _ _ _ _)) ?_   -- t27
    simp only [go_sem, hx]
    refine hR _ _ (kq7 _ _ ?_); clear hR R; try clear kq7 kz7
    try simp only [go_sem, hx]
    refine W_region [0, 3, 4] fun R hR => ?_   -- r4
    simp only [go_sem, hx]
    try simp (disch := omega) only [wrapI, wrapU]
    refine hR _ _ ?_; clear hR R
    try simp only [go_sem, hx]
    refine ⟨(i + 1, hitB (xorU b (IntKind.u64.wrap x))), ?_, by (try simp only []); omega, ?_⟩
    · exact Weak.eq (by rfl) (by simp only [xorU, go_sem]; simp (disch := omega) only [wrapU])
    · try dsimp only
      exact ⟨hi', hb⟩
  · -- c1 false
    try simp only [nrm] at c1
    have hdrop : nums.drop i = [] := List.drop_eq_nil_of_le (by omega)
    rw [hdrop] at hb
    simp only [drumB] at hb
    refine W_exit ?_
    simp only [go_sem]
    refine kq3 _ _ ?_
    refine W_seq fun kz9 kq9 => ?_
    refine W_region [2] fun R hR => ?_   -- r7
    simp only [go_sem]
    refine hR _ _ (kq9 _ _ ?_); clear hR R; try clear kq9 kz9
    try simp only [go_sem]
    refine W_ret ?_
    simp only [go_sem]
    refine ⟨.inr (by trivial), ?_⟩
    rw [hb]; exact Fin_ext 1 0 hcl rfl (Wk_eq rfl (by simp only [go_sem] <;> omega)) (by show CleanLs _ _ _ _; simp only [go_sem])
    try simp only [go_sem]
    all_goals
      skip
end Go.Proofs.Ytnolifglhhjdnaa
namespace Go.Proofs.Ytnolifglhhjdnaa
open Go Go.RowKit
set_option maxRecDepth 100000
/-- Two places exchanged. -/
def swapAt (l : List Int) (i k : Nat) : List Int := (l.set i ((l[k]?).getD 0)).set k ((l[i]?).getD 0)
theorem swapAt_len (l : List Int) (i k : Nat) : (swapAt l i k).length = l.length := by simp [swapAt]
theorem swapAt_perm {l : List Int} {i k : Nat} (hi : i < l.length) (hk : k < l.length) : (swapAt l i k).Perm l := by
  unfold swapAt
  rw [List.getElem?_eq_getElem hi, List.getElem?_eq_getElem hk]
  exact List.set_set_perm hi hk
noncomputable def orderA (n : Nat) : Nat → List Int → D (List Int)
  | 0, acc => dret acc
  | j + 1, acc => dbind (roll (((n - (j + 1) : Nat) : Int) + 1)) fun k => orderA n j (swapAt (acc ++ [((n - (j + 1) : Nat) : Int)]) (n - (j + 1)) k.toNat)
noncomputable def orderD (n : Nat) : D (List Int) := orderA n n []
theorem orderA_perm (n : Nat) : ∀ (j : Nat) (acc : List Int), j ≤ n → acc.Perm ((List.range (n - j)).map fun (i : Nat) => (i : Int)) → Holds (orderA n j acc) fun l => l.Perm ((List.range n).map fun (i : Nat) => (i : Int)) := by
  intro j
  induction j with
  | zero => intro acc _ h; exact .ret h
  | succ j ih =>
    intro acc hj h
    refine (roll_bd _).bind fun k hk => ih _ (by omega) ?_
    have hl : acc.length = n - (j + 1) := by rw [h.length_eq]; simp
    have hkl : k.toNat < (acc ++ [((n - (j + 1) : Nat) : Int)]).length := by simp; omega
    refine (swapAt_perm (by simp; omega) hkl).trans ?_
    have e : n - j = (n - (j + 1)) + 1 := by omega
    rw [e, List.range_succ, List.map_append]
    exact h.append_right _
theorem orderD_perm (n : Nat) : Holds (orderD n) fun l => l.Perm ((List.range n).map fun (i : Nat) => (i : Int)) := orderA_perm n n [] (Nat.le_refl _) (by simp)
theorem glI_of {l : List Int} {m : Nat} (h : l.length = m + 1) (n : Nat) : glI n l = .gsl (n + m) (m + 1) 1 := by
  cases l with
  | nil => simp at h
  | cons x l => simp only [List.length_cons] at h; simp only [glI]; rw [show l.length = m by omega]
theorem gsI_of {l : List Int} {m : Nat} (h : l.length = m + 1) : gsI l = List.replicate m none ++ [some (l.map I)] := by
  cases l with
  | nil => simp at h
  | cons x l => simp only [List.length_cons] at h; simp only [gsI]; rw [show l.length = m by omega]
theorem Weak.ungnilT {N : Nat} {lo : Nat × Nat} {E : Env} {σ : Sg} {t : Nat} (ht : E.get t = .gnil) : Weak N lo E σ (E.put (some t) (.isl [] .ro)) σ := by
  intro Ψ0 Ψ D a w hb le hr
  refine ⟨Ψ, le, hr.size, fun t' => ?_, hr.sg, hr.dsub, hr.defs⟩
  rw [get_put1]
  split
  · rename_i e
    subst e
    have hv := hr.env t'
    rw [ht] at hv
    exact VR.of_gnil hv
  · exact hr.env t'
/-- Read at last. -/
theorem Weak.readI {N : Nat} {lo : Nat × Nat} {E : Env} {σ : Sg} {t : Nat} {A : List (Option (List PV))} {rm : List Nat} {ys : List LState} {out : List Int} (ht : E.get t = glI (σ.store.length + A.length) out) :
    Weak N lo E (σ.ext (A ++ gsI out) rm ys) (E.put (some t) (ints out)) (σ.ext (A ++ List.replicate out.length none) rm ys) := by
  cases out with
  | nil =>
    have h := Weak.ungnilT (N := N) (lo := lo) (E := E) (σ := σ.ext A rm ys) (t := t) ht
    simp only [gsI, List.append_nil, List.length_nil, List.replicate_zero]
    exact h
  | cons z zs =>
    have h := Weak.freeze (N := N) (lo := lo) (E := E) (σ := σ.ext (A ++ gsI (z :: zs)) rm ys) (t := t) (id := σ.store.length + (A.length + zs.length)) (len := zs.length + 1) (es := 1) (l := (z :: zs).map I) (by rw [ht]; simp only [glI, Nat.add_assoc]) (by rw [Sg.get_ext, rowC_ints]; exact gsI_get) (by simp) (fun q hq => by obtain ⟨x, _, rfl⟩ := List.mem_map.1 hq; rfl)
    rw [Sg.drop_ext, gsI_set] at h
    have e : List.replicate (z :: zs).length (none : Option (List PV)) = List.replicate zs.length none ++ [none] := by simp [List.replicate_succ']
    rw [e]
    exact h
set_option maxHeartbeats 4000000 in
theorem Order_pc (Y : YEnv) (σ : Sg) (d : Nat) (b : Int) (hd : σ.store[d]? = some (some [.int .u64 b])) (n : Nat) (hn : n < 2 ^ 40) :
    PC Try.prog Y 23 [.ptr d 0, I n] σ (ints (orderD n b).1) (σ.setVar d [.int .u64 (orderD n b).2]) := by
  refine PC_of_W Try.func23 rfl (by kernel_rfl) Try.ntmps23 (by simp) fun hcl hca => ?_
  have hlt := lt_of_get hd
  obtain ⟨res, hres⟩ : ∃ r, orderD n b = r := ⟨_, rfl⟩
  rw [hres]
  refine W_seq fun kz1 kq1 => ?_
  refine W_region [0, 1] fun R hR => ?_   -- r0
  simp only [go_sem, ldS_at hd, stX_at hd, ldS_sv hlt, stX_sv hlt, sv_ext hlt, sv_ext_sv hlt]
  refine hR _ _ (kq1 _ _ ?_); clear hR R; try clear kq1 kz1
  try simp only [go_sem, ldS_at hd, stX_at hd, ldS_sv hlt, stX_sv hlt, sv_ext hlt, sv_ext_sv hlt]
  refine W_seq fun kz2 kq2 => ?_
  refine W_region [0, 1, 5] fun R hR => ?_   -- r1
  simp only [go_sem, ldS_at hd, stX_at hd, ldS_sv hlt, stX_sv hlt, sv_ext hlt, sv_ext_sv hlt]
  refine hR _ _ (kq2 _ _ ?_); clear hR R; try clear kq2 kz2
  try simp only [go_sem, ldS_at hd, stX_at hd, ldS_sv hlt, stX_sv hlt, sv_ext hlt, sv_ext_sv hlt]
  refine W_seq fun kz3 kq3 => ?_
  refine W_seq fun kz4 kq4 => ?_
  refine W_region [0, 1, 5, 6] fun R hR => ?_   -- r2
  simp only [go_sem, ldS_at hd, stX_at hd, ldS_sv hlt, stX_sv hlt, sv_ext hlt, sv_ext_sv hlt]
  refine hR _ _ (kq4 _ _ ?_); clear hR R; try clear kq4 kz4
  try simp only [go_sem, ldS_at hd, stX_at hd, ldS_sv hlt, stX_sv hlt, sv_ext hlt, sv_ext_sv hlt]
  refine W_block ?_
  refine W_weak (Weak.gnil (t := 5) rfl) ?_
  refine W_weak (Weak.keep [0, 1, 5, 6]) ?_
  simp only [go_sem]
  refine W_loopT (α := Nat × (List Int) × Int) (fun ⟨i, acc, b⟩ => [(5, glI σ.store.length acc), (6, I i)]) (fun ⟨i, acc, b⟩ => (σ.setVar d [.int .u64 b]).ext (gsI acc) []) (fun ⟨i, acc, b⟩ => i ≤ n ∧ acc.length = i ∧ res = orderA n (n - i) acc b) (fun ⟨i, acc, b⟩ => n - i) ((0, [], b)) rfl (by simp only [gsI, go_sem, sv_self hd]) (⟨Nat.zero_le _, rfl, hres.symm⟩) ?_
  rintro ⟨i, acc, b⟩ ⟨hi, hal, hinv⟩
  refine W_seq fun kz5 kq5 => ?_
  refine W_seq fun kz6 kq6 => ?_
  refine W_region [0, 1, 5, 6, 10] fun R hR => ?_   -- r3
  simp only [go_sem, ldS_at hd, stX_at hd, ldS_sv hlt, stX_sv hlt, sv_ext hlt, sv_ext_sv hlt]
  refine hR _ _ (kq6 _ _ ?_); clear hR R; try clear kq6 kz6
  try simp only [go_sem, ldS_at hd, stX_at hd, ldS_sv hlt, stX_sv hlt, sv_ext hlt, sv_ext_sv hlt]
  refine W_cond rfl (fun c1 => ?_) (fun c1 => ?_)
  · -- c1 true
    try simp only [nrm] at c1
    have hin : i < n := by first | omega | (simp at c1; omega)
    rw [show n - i = (n - (i + 1)) + 1 by omega] at hinv
    simp only [orderA, dbind] at hinv
    rw [show (n - (n - (i + 1) + 1) : Nat) = i by omega] at hinv
    have hkb := roll_bd ((i : Int) + 1) b
    obtain ⟨kz, hkz⟩ : ∃ z, (roll ((i : Int) + 1) b).1 = z := ⟨_, rfl⟩
    obtain ⟨b1, hb1⟩ : ∃ z, (roll ((i : Int) + 1) b).2 = z := ⟨_, rfl⟩
    simp only [hkz] at hkb
    obtain ⟨k, rfl⟩ : ∃ k : Nat, kz = k := ⟨kz.toNat, by omega⟩
    rw [hkz, hb1, Int.toNat_natCast] at hinv
    have hki : k < i + 1 := by omega
    have hL : (σ.setVar d [.int .u64 b1]).store.length = σ.store.length := sv_len
    have happ := appG_gl (σ := σ.setVar d [.int .u64 b1]) (A := []) (rm := []) (ys := []) (out := acc) (i : Int) (by omega)
    have hal2 : (acc ++ [(i : Int)]).length = i + 1 := by simp [hal]
    rw [glI_of hal2, gsI_of hal2] at happ
    obtain ⟨ac2, hac2⟩ : ∃ z, acc ++ [(i : Int)] = z := ⟨_, rfl⟩
    rw [hac2] at happ hal2 hinv
    simp only [go_sem, List.length_nil, hL] at happ
    obtain ⟨x, hx⟩ : ∃ z, ac2[i]? = some z := ⟨ac2[i]'(by omega), by simp⟩
    obtain ⟨y, hy⟩ : ∃ z, ac2[k]? = some z := ⟨ac2[k]'(by omega), by simp⟩
    have hsw : swapAt ac2 i k = (ac2.set i y).set k x := by simp only [swapAt, hx, hy, Option.getD_some]
    have hI1 : (i : Int) < ((i + 1 : Nat) : Int) := by omega
    have hI2 : (k : Int) < ((i + 1 : Nat) : Int) := by omega
    have hg1 : ∀ c : Option (List PV), (List.replicate i none ++ [c])[i]? = some c := fun c => by rw [List.getElem?_append_right (by simp)]; simp
    have hg2 : ∀ c c2 : Option (List PV), (List.replicate i none ++ [c]).set i c2 = List.replicate i none ++ [c2] := fun c c2 => by rw [List.set_append_right _ _ (by simp)]; simp
    have hm1 : i + 1 ≤ ac2.length := by omega
    have hm2 : k + 1 ≤ ac2.length := by omega
    have hsl : (swapAt ac2 i k).length = i + 1 := by rw [swapAt_len]; exact hal2
    refine W_skip (kq5 _ _ ?_)
    refine W_seq fun kz7 kq7 => ?_
    refine W_block ?_
    refine W_seq fun kz8 kq8 => ?_
    refine W_region [0, 1, 5, 6, 7] fun R hR => ?_   -- r5
    simp only [go_sem, ldS_at hd, stX_at hd, ldS_sv hlt, stX_sv hlt, sv_ext hlt, sv_ext_sv hlt, hkz, hb1, hL]
    try simp (disch := omega) only [wrapI, wrapU]
    refine GCall_of (Roll_pc Y _ d b (by first | exact hd | exact sv_get hlt | exact get_svx hlt | exact get_extx hd) ((i : Int) + 1) (by omega)) ?_   -- t16
    simp only [go_sem, ldS_at hd, stX_at hd, ldS_sv hlt, stX_sv hlt, sv_ext hlt, sv_ext_sv hlt, hkz, hb1, hL]
    try simp (disch := omega) only [wrapI, wrapU]
    refine hR _ _ (kq8 _ _ ?_); clear hR R; try clear kq8 kz8
    try simp only [go_sem, ldS_at hd, stX_at hd, ldS_sv hlt, stX_sv hlt, sv_ext hlt, sv_ext_sv hlt, hkz, hb1, hL]
    refine W_seq fun kz9 kq9 => ?_
    refine W_region [0, 1, 5, 6, 7] fun R hR => ?_   -- r6
    simp only [go_sem, ldS_at hd, stX_at hd, ldS_sv hlt, stX_sv hlt, sv_ext hlt, sv_ext_sv hlt, hkz, hb1, hL, happ]
    try simp (disch := first | omega | (simp only [go_sem] <;> omega)) only [wrapI, wrapU, appX_exact, appX_tok]
    try simp only [go_sem, ldS_at hd, stX_at hd, ldS_sv hlt, stX_sv hlt, sv_ext hlt, sv_ext_sv hlt, hkz, hb1, hL, happ]
    refine hR _ _ (kq9 _ _ ?_); clear hR R; try clear kq9 kz9
    try simp only [go_sem, ldS_at hd, stX_at hd, ldS_sv hlt, stX_sv hlt, sv_ext hlt, sv_ext_sv hlt, hkz, hb1, hL]
    refine W_draw [0, 1, 5, 6] [0, 1, 2, 3, 4, 5, 6, 7, 8, 9, 10, 11, 12, 13, 14, 15] [(2, 15), (3, 15)] [[], [], [], [], [], [], [4, 5], [4, 5, 6], [], [], [8, 9], [8, 9, 10], [0, 1, 4, 5, 6, 7, 8, 9, 10, 11], [0, 1, 4, 5, 6, 7, 8, 9, 10, 11, 12], [0, 1, 2, 3, 4, 5, 6, 7, 8, 9, 10, 11, 12, 13], [0, 1, 2, 3, 4, 5, 6, 7, 8, 9, 10, 11, 12, 13, 14]] mixed (by kernel_rfl) fun R hR => ?_   -- r7
    simp only [go_sem, ldS_at hd, stX_at hd, ldS_sv hlt, stX_sv hlt, sv_ext hlt, sv_ext_sv hlt, hkz, hb1, hL, hI1, hI2, iaM_nat (Int.ofNat_lt.1 hI1), iaM_nat (Int.ofNat_lt.1 hI2), Nat.mul_one, Nat.zero_add, hg1, hg2, hx, hy, hm1, hm2, List.getElem?_map, List.length_set]
    try refine And.intro (by repeat' (first | refine And.intro ?_ ?_ | exact GOr_right (fun _ => by simp only [go_sem, ldS_at hd, stX_at hd, ldS_sv hlt, stX_sv hlt, sv_ext hlt, sv_ext_sv hlt, hkz, hb1, hL, hI1, hI2, iaM_nat (Int.ofNat_lt.1 hI1), iaM_nat (Int.ofNat_lt.1 hI2), Nat.mul_one, Nat.zero_add, hg1, hg2, hx, hy, hm1, hm2, List.getElem?_map, List.length_set]))) ?_
    refine hR _ _ (kq7 _ _ ?_); clear hR R; try clear kq7 kz7
    try simp only [go_sem, ldS_at hd, stX_at hd, ldS_sv hlt, stX_sv hlt, sv_ext hlt, sv_ext_sv hlt, hkz, hb1, hL]
    refine W_region [0, 1, 5, 6] fun R hR => ?_   -- r4
    simp only [go_sem, ldS_at hd, stX_at hd, ldS_sv hlt, stX_sv hlt, sv_ext hlt, sv_ext_sv hlt, hkz, hb1, hL]
    try simp (disch := omega) only [wrapI, wrapU]
    refine hR _ _ ?_; clear hR R
    try simp only [go_sem, ldS_at hd, stX_at hd, ldS_sv hlt, stX_sv hlt, sv_ext hlt, sv_ext_sv hlt, hkz, hb1, hL]
    refine ⟨(i + 1, swapAt ac2 i k, b1), ?_, by (try simp only []); omega, ?_⟩
    · refine Weak.eq ?_ ?_
      · simp only [go_sem, glI_of hsl]
        first | done | rfl | simp
      · rw [gsI_of hsl, hsw]
    · try dsimp only
      exact ⟨by omega, hsl, by rw [hinv]⟩
  · -- c1 false
    try simp only [nrm] at c1
    have hie : n = i := by first | omega | (simp at c1; omega)
    subst hie
    rw [Nat.sub_self] at hinv
    simp only [orderA, dret] at hinv
    refine W_exit ?_
    simp only [go_sem, ldS_at hd, stX_at hd, ldS_sv hlt, stX_sv hlt, sv_ext hlt, sv_ext_sv hlt]
    refine kq3 _ _ ?_
    refine W_seq fun kz10 kq10 => ?_
    refine W_weak (Weak.readI (t := 5) (A := []) (out := acc) (by simp only [go_sem, sv_len])) ?_
    refine W_weak (Weak.keep [5]) ?_
    simp only [go_sem]
    refine W_region [4] fun R hR => ?_   -- r8
    simp only [go_sem, ldS_at hd, stX_at hd, ldS_sv hlt, stX_sv hlt, sv_ext hlt, sv_ext_sv hlt]
    refine hR _ _ (kq10 _ _ ?_); clear hR R; try clear kq10 kz10
    try simp only [go_sem, ldS_at hd, stX_at hd, ldS_sv hlt, stX_sv hlt, sv_ext hlt, sv_ext_sv hlt]
    refine W_ret ?_
    simp only [go_sem, ldS_at hd, stX_at hd, ldS_sv hlt, stX_sv hlt, sv_ext hlt, sv_ext_sv hlt]
    refine ⟨.inr (by trivial), ?_⟩
    rw [hinv]; refine Fin_set hcl (by simp only [go_sem]) rfl (Wk_eq rfl ?_)
    try simp only [go_sem]
    all_goals
      simp only [go_sem]
end Go.Proofs.Ytnolifglhhjdnaa
namespace Go.Proofs.Ytnolifglhhjdnaa
open Go Go.RowKit
set_option maxRecDepth 100000
theorem mem2 {a b r : Int} (h : r ∈ [a, b]) : r = a ∨ r = b := by simpa using h
theorem mem3 {a b c r : Int} (h : r ∈ [a, b, c]) : r = a ∨ r = b ∨ r = c := by simpa using h
theorem nodup_range (n : Nat) : ((List.range n).map fun (i : Nat) => (i : Int)).Nodup := by
  rw [List.nodup_iff_pairwise_ne, List.pairwise_map]
  refine List.Pairwise.imp ?_ (List.nodup_range (n := n))
  intro a b h e
  exact h (by omega)
end Go.Proofs.Ytnolifglhhjdnaa
namespace Go.Proofs.Ytnolifglhhjdnaa
open Go
set_option maxRecDepth 100000
theorem unl_true {b : Bool} {e : Int} (h : b = true) : unl b e = 0 := by unfold unl; rw [h]; rfl
theorem chkBl_of {c : Contest} {b : Ballot} (h : BlV c b) : chkBl c b = 0 := by
  have h1 : bl1 c b = 0 := unl_true (inR_true.2 (by have := h.rd; omega))
  have h2 : bl2 b = 0 := unl_true (inR_true.2 (by have := h.kd; omega))
  have h3 : bl3 c b = 0 := unl_true (inR_true.2 (by have := h.vt; omega))
  have h4 : bl4 c b = 0 := unl_true (inR_true.2 (by have := h.sg; omega))
  have h5 : bl5 c b = 0 := by
    have := h.pt
    unfold bl5
    split
    · rename_i hk
      rw [if_pos hk] at this
      exact unl_true (by simp; omega)
    · rename_i hk
      rw [if_neg hk] at this
      exact unl_true (inR_true.2 this)
  simp [chkBl, blEs, firstE, h1, h2, h3, h4, h5]
theorem blsF_ok {c : Contest} : ∀ {l : List Ballot} {p : List Int}, (∀ b, b ∈ l → BlV c b) → (p ++ l.map (·.serial)).Nodup → chkBlsF c p l = 0 := by
  intro l
  induction l with
  | nil => intro p _ _; rfl
  | cons b l ih =>
    intro p hb hn
    have h1 := hb b (by simp)
    have hin : inR b.serial 1 1000000000 = true := inR_true.2 h1.sr
    have hno : has p b.serial = false := by
      cases h : has p b.serial with
      | false => rfl
      | true =>
        have := has_iff.1 h
        rw [List.nodup_append] at hn
        exact absurd rfl (hn.2.2 _ this b.serial (by simp))
    simp only [chkBlsF, hin, hno, chkBl_of h1]
    simp only [Bool.not_true, Bool.false_eq_true, if_false, ne_eq, not_true]
    exact ih (fun x hx => hb x (by simp [hx])) (by simpa using hn)
theorem chkBls_of {c : Contest} {l : List Ballot} (hc : chkCn c = 0) (hl : l.length ≤ 300) (hb : ∀ b, b ∈ l → BlV c b) (hn : (l.map (·.serial)).Nodup) : chkBls c l = 0 := by
  unfold chkBls
  rw [if_neg (by simp [hc]), if_neg (by omega)]
  exact blsF_ok hb (by simpa using hn)
noncomputable def roundsC : Nat → Int → List Rnd → D (List Rnd)
  | 0, _, acc => dret acc
  | k + 1, keep, acc => if k = 0 then dbind (roll 4) fun a => dbind (roll 5) fun b => roundsC k 1 (acc ++ [⟨1, a, b⟩]) else dbind (mid 1 keep) fun kp => dbind (roll 4) fun a => dbind (roll 5) fun b => roundsC k kp (acc ++ [⟨kp, a, b⟩])
noncomputable def contestD (songs juries members : Int) : D Contest := dbind (mid 1 songs) fun s => dbind (roll (juries + 1)) fun j => dbind (roll (members + 1)) fun m => dbind (anyOf [0, 2, 10]) fun mo => dbind (mid 1 3) fun k =>
  dbind (roundsC k.toNat s []) fun rs => dret ⟨s, j, m, mo, rs⟩
theorem roundsC_ok : ∀ (k : Nat) (keep : Int) (acc : List Rnd), 1 ≤ keep → (k = 0 → keep = 1) → Holds (roundsC k keep acc) fun l => ∃ r, l = acc ++ r ∧ r.length = k ∧ chkRds keep r = 0 := by
  intro k
  induction k with
  | zero => intro keep acc _ h0; exact .ret ⟨[], by simp, rfl, by simp [chkRds, h0 rfl]⟩
  | succ k ih =>
    intro keep acc hk _
    have step : ∀ {kp a b : Int}, 1 ≤ kp ∧ kp ≤ keep → 0 ≤ a ∧ a < 4 → 0 ≤ b ∧ b < 5 → ∀ l, (∃ r, l = (acc ++ [(⟨kp, a, b⟩ : Rnd)]) ++ r ∧ r.length = k ∧ chkRds kp r = 0) → ∃ r, l = acc ++ r ∧ r.length = k + 1 ∧ chkRds keep r = 0 := by
      rintro kp a b hkp ha hb l ⟨r, h1, h2, h3⟩
      refine ⟨⟨kp, a, b⟩ :: r, by rw [h1]; simp, by simp [h2], ?_⟩
      have : chkRd keep ⟨kp, a, b⟩ = true := by
        simp only [chkRd, allIn, List.all_cons, List.all_nil, Bool.and_true, Bool.and_eq_true, inR_true]
        omega
      simp only [chkRds, this, Bool.not_true, Bool.false_eq_true, if_false]
      exact h3
    simp only [roundsC]
    split
    · rename_i h0
      subst h0
      exact (roll_bd 4).bind fun a ha => (roll_bd 5).bind fun b hb => (ih 1 _ (by omega) (fun _ => rfl)).mono (step (by omega) (by omega) (by omega))
    · rename_i h0
      exact (mid_bd 1 keep hk).bind fun kp hkp => (roll_bd 4).bind fun a ha => (roll_bd 5).bind fun b hb => (ih kp _ hkp.1 (fun e => absurd e h0)).mono (step hkp (by omega) (by omega))
/-- A contest made of numbers. -/
structure CnMade (c : Contest) (songs juries members : Int) : Prop where
  ok : chkCn c = 0
  sg : 1 ≤ c.songs ∧ c.songs ≤ songs
  jr : 0 ≤ c.juries ∧ c.juries ≤ juries
  mb : 0 ≤ c.members ∧ c.members ≤ members
  ms : 0 ≤ c.most ∧ c.most ≤ 10
  rl : 1 ≤ c.rounds.length ∧ c.rounds.length ≤ 3
theorem contestD_ok {songs juries members : Int} (h1 : 1 ≤ songs ∧ songs ≤ 8) (h2 : 0 ≤ juries ∧ juries ≤ 8) (h3 : 0 ≤ members ∧ members ≤ 1000) : Holds (contestD songs juries members) fun c => CnMade c songs juries members := by
  unfold contestD
  refine (mid_bd 1 songs h1.1).bind fun s hs => (roll_bd (juries + 1)).bind fun j hj => (roll_bd (members + 1)).bind fun m hm => (anyOf_mem [0, 2, 10] (by simp)).bind fun mo hmo => (mid_bd 1 3 (by omega)).bind fun k hk => (roundsC_ok k.toNat s [] hs.1 (fun e => by omega)).bind fun rs hrs => .ret ?_
  obtain ⟨r, e1, e2, e3⟩ := hrs
  simp only [List.nil_append] at e1
  subst e1
  have hmo2 : 0 ≤ mo ∧ mo ≤ 10 := by rcases mem3 hmo with h | h | h <;> omega
  refine ⟨?_, hs, by simp only; omega, by simp only; omega, hmo2, by simp only; omega⟩
  unfold chkCn
  have e : chkCn0 ⟨s, j, m, mo, rs⟩ = true := by
    simp only [chkCn0, allIn1, Bool.and_eq_true, inR_true]
    omega
  simp only [e, Bool.not_true, Bool.false_eq_true, if_false]
  rw [if_neg (by omega), if_neg (by omega)]
  exact e3
def serAt (ser : List Int) (i : Nat) : Int := (ser[i]?).getD 0 + 1
noncomputable def ballotsC (c : Contest) (ser : List Int) : Nat → Nat → List Ballot → D (List Ballot)
  | 0, _, acc => dret acc
  | k + 1, i, acc => dbind (roll c.rounds.length) fun rd => dbind (anyOf [1, 2]) fun kd => dbind (roll c.songs) fun sg =>
    if (if c.members = 0 then 1 else if c.juries = 0 then 2 else kd) = 1 then dbind (roll c.juries) fun v => dbind (mid 0 c.most) fun p => ballotsC c ser k (i + 1) (acc ++ [⟨serAt ser i, rd, 1, v, sg, p⟩])
    else dbind (roll c.members) fun v => ballotsC c ser k (i + 1) (acc ++ [⟨serAt ser i, rd, 2, v, sg, 0⟩])
noncomputable def ballotsD (c : Contest) (most : Int) : D (List Ballot) := if c.juries + c.members = 0 then dret [] else dbind (roll (most + 1)) fun k => dbind (orderD (3 * (k.toNat + 1))) fun ser => ballotsC c ser k.toNat 0 []
theorem ballotsC_ok {c : Contest} {songs juries members : Int} (hc : CnMade c songs juries members) (h0 : c.juries + c.members ≠ 0) {ser : List Int} (hs : ∀ x, x ∈ ser → 0 ≤ x ∧ x < 100000) : ∀ (k i : Nat) (acc : List Ballot), i + k ≤ ser.length → (∀ b, b ∈ acc → BlV c b) → acc.map (·.serial) = (List.range i).map (serAt ser) →
    Holds (ballotsC c ser k i acc) fun l => l.length = acc.length + k ∧ (∀ b, b ∈ l → BlV c b) ∧ l.map (·.serial) = (List.range (i + k)).map (serAt ser) := by
  intro k
  induction k with
  | zero => intro i acc _ h2 h3; exact .ret ⟨rfl, h2, h3⟩
  | succ k ih =>
    intro i acc h1 h2 h3
    have hsg := hc.sg
    have hjr := hc.jr
    have hmb := hc.mb
    have hms := hc.ms
    have hrl := hc.rl
    have hser : 1 ≤ serAt ser i ∧ serAt ser i ≤ 1000000000 := by
      have hi : i < ser.length := by omega
      have := hs ser[i] (by simp)
      unfold serAt
      simp [hi]; omega
    have step : ∀ b : Ballot, BlV c b → b.serial = serAt ser i → Holds (ballotsC c ser k (i + 1) (acc ++ [b])) fun l => l.length = acc.length + (k + 1) ∧ (∀ b, b ∈ l → BlV c b) ∧ l.map (·.serial) = (List.range (i + (k + 1))).map (serAt ser) := by
      intro b hb e
      refine (ih (i + 1) (acc ++ [b]) (by omega) (fun x hx => ?_) ?_).mono fun l hl => ⟨by rw [hl.1]; simp; omega, hl.2.1, by rw [hl.2.2]; congr 2; omega⟩
      · rcases List.mem_append.1 hx with hx | hx
        · exact h2 x hx
        · simp only [List.mem_singleton] at hx
          subst hx
          exact hb
      · rw [List.map_append, h3, List.range_succ, List.map_append]
        simp [e]
    simp only [ballotsC]
    refine (roll_bd c.rounds.length).bind fun rd hrd => (anyOf_mem [1, 2] (by simp)).bind fun kd hkd => (roll_bd c.songs).bind fun sg hsg2 => ?_
    by_cases hk : (if c.members = 0 then (1 : Int) else if c.juries = 0 then 2 else kd) = 1
    · rw [if_pos hk]
      refine (roll_bd c.juries).bind fun v hv => (mid_bd 0 c.most hms.1).bind fun p hp => step _ ⟨hser, by simp only; omega, .inl rfl, ?_, by simp only; omega, ?_⟩ rfl
      · simp only
        rw [if_neg (by omega)]
        split at hk
        · omega
        · split at hk
          · omega
          · omega
      · simp only
        rw [if_neg (by omega)]
        exact hp
    · rw [if_neg hk]
      refine (roll_bd c.members).bind fun v hv => step _ ⟨hser, by simp only; omega, .inr rfl, ?_, by simp only; omega, ?_⟩ rfl
      · simp only [if_true]
        split at hk
        · omega
        · omega
      · simp only [if_true]
        omega
theorem ballotsD_ok {c : Contest} {songs juries members : Int} (hc : CnMade c songs juries members) {most : Int} (hm : 0 ≤ most ∧ most ≤ 300) : Holds (ballotsD c most) fun l => (l.length : Int) ≤ most ∧ (∀ b, b ∈ l → BlV c b) ∧ (l.map (·.serial)).Nodup ∧ ∀ b, b ∈ l → b.serial < 1000 * 1000 := by
  unfold ballotsD
  split
  · exact .ret ⟨by simp; omega, by simp, by simp, by simp⟩
  · rename_i h0
    refine (roll_bd (most + 1)).bind fun k hk => (orderD_perm (3 * (k.toNat + 1))).bind fun ser hser => ?_
    have hsl : ser.length = 3 * (k.toNat + 1) := by rw [hser.length_eq]; simp
    have hsb : ∀ x, x ∈ ser → 0 ≤ x ∧ x < 100000 := fun x hx => by
      obtain ⟨i, h1, rfl⟩ := List.mem_map.1 (hser.mem_iff.1 hx)
      have := List.mem_range.1 h1
      omega
    refine (ballotsC_ok hc h0 hsb k.toNat 0 [] (by omega) (by simp) rfl).mono fun l hl => ?_
    obtain ⟨h1, h2, h3⟩ := hl
    have hat : ∀ i (hi : i < ser.length), serAt ser i = ser[i] + 1 := fun i hi => by simp [serAt, hi]
    refine ⟨by rw [h1]; simp; omega, h2, ?_, fun b hb => ?_⟩
    · rw [h3, Nat.zero_add, List.nodup_iff_pairwise_ne, List.pairwise_map]
      refine List.Pairwise.imp_of_mem ?_ (List.nodup_range (n := k.toNat))
      intro a b ha hb hne e
      have ha2 := List.mem_range.1 ha
      have hb2 := List.mem_range.1 hb
      rw [hat a (by omega), hat b (by omega)] at e
      have hnd := hser.nodup_iff.2 (nodup_range _)
      exact hne ((List.getElem_inj hnd).1 (by omega))
    · have hmem : b.serial ∈ l.map (·.serial) := List.mem_map.2 ⟨b, hb, rfl⟩
      rw [h3] at hmem
      obtain ⟨i, hi, e⟩ := List.mem_map.1 hmem
      have hi2 := List.mem_range.1 hi
      rw [hat i (by omega)] at e
      have := hsb ser[i] (by simp)
      omega
end Go.Proofs.Ytnolifglhhjdnaa
namespace Go.Proofs.Ytnolifglhhjdnaa
open Go
set_option maxRecDepth 100000
/-- All of a tally that is ever asked for. -/
def sig (t : Tally) : Rnd × List Int × (Nat → Int) × (Nat → Int) × ((Voice → Int) → Int) := (t.rd, t.songs, t.pts, t.vts, fun g => (t.m.map fun e => g e.1).sum)
theorem sig_m {rd : Int} {ss : List Int} {l : List Ballot} (g : Voice → Int) : ((voices rd ss l l.length).map fun e => g e.1).sum = ((balOf l (voices rd ss l l.length)).map fun b => g (keyOf b)).sum := by
  have hall := (voices_spec rd ss l l.length).en
  generalize voices rd ss l l.length = m at hall
  unfold balOf
  induction m with
  | nil => rfl
  | cons x m ih =>
    obtain ⟨k, o, h1, h2, h3, h4, _⟩ := hall x (by simp)
    rw [List.filterMap_cons, h1, Int.toNat_natCast, h3]
    simp only [List.map_cons, List.sum_cons, h4]
    rw [ih fun e he => hall e (by simp [he])]
theorem sig_count {r : Rnd} {rd : Int} {ss : List Int} {l l' : List Ballot} (hs : (l.map (·.serial)).Nodup) (hs' : (l'.map (·.serial)).Nodup) (h : (l.filter (cntB l rd ss)).Perm (l'.filter (cntB l' rd ss))) : sig (countT r rd ss l) = sig (countT r rd ss l') := by
  have e : ∀ f : Ballot → Int, sumB f l (voices rd ss l l.length) (List.range (voices rd ss l l.length).length) = sumB f l' (voices rd ss l' l'.length) (List.range (voices rd ss l' l'.length).length) := fun f => by
    rw [sumB_cnt hs, sumB_cnt hs']
    exact sum_perm h
  unfold sig countT
  simp only
  refine Prod.ext rfl (Prod.ext rfl (Prod.ext ?_ (Prod.ext ?_ ?_)))
  · funext s; exact e _
  · funext s; exact e _
  · funext g
    simp only
    rw [sig_m, sig_m, sum_perm (bal_perm hs), sum_perm (bal_perm hs')]
    exact sum_perm h
theorem resT_sig {t t' : Tally} (h : sig t = sig t') : resT t = resT t' := by
  obtain ⟨r, s, p, v, m⟩ := t
  obtain ⟨r', s', p', v', m'⟩ := t'
  simp only [sig, Prod.mk.injEq] at h
  obtain ⟨rfl, rfl, rfl, rfl, _⟩ := h
  rfl
theorem songs_sig {t t' : Tally} (h : sig t = sig t') : t.songs = t'.songs := congrArg (fun z => z.2.1) h
theorem freeT_sig {t t' : Tally} (h : sig t = sig t') (c : Contest) : freeT t c = freeT t' c := by
  have := congrFun (congrArg (fun z => z.2.2.2.2) h) gM
  simp only [sig] at this
  unfold freeT
  rw [this]
theorem openT_sig {t t' : Tally} (h : sig t = sig t') (c : Contest) (s : Int) : openT t c s = openT t' c s := by
  have := congrFun (congrArg (fun z => z.2.2.2.2) h) (gJ s)
  simp only [sig] at this
  unfold openT
  rw [this]
theorem stdT_sig {t t' : Tally} (h : sig t = sig t') : stdT t = stdT t' := by
  obtain ⟨r, s, p, v, m⟩ := t
  obtain ⟨r', s', p', v', m'⟩ := t'
  simp only [sig, Prod.mk.injEq] at h
  obtain ⟨rfl, rfl, rfl, rfl, _⟩ := h
  rfl
theorem cntA_sig {t t' : Tally} (h : sig t = sig t') (own : Std) (s : Int) : ∀ l : List Int, cntA t own s l = cntA t' own s l := by
  intro l
  induction l with
  | nil => rfl
  | cons x l ih => simp only [cntA, ih, stdT_sig h]
theorem mayT_sig {t t' : Tally} (h : sig t = sig t') (c : Contest) (s v : Int) : mayT t c s v = mayT t' c s v := by
  unfold mayT
  rw [stdT_sig h, openT_sig h, cntA_sig h, songs_sig h, show t.rd = t'.rd from congrArg (fun z => z.1) h]
theorem mustT_sig {t t' : Tally} (h : sig t = sig t') (c : Contest) (s : Int) : mustT t c s = mustT t' c s := by
  have hn : ∀ own fr x, needOne t c own s fr x = needOne t' c own s fr x := fun own fr x => by
    have : aheadV t c own x = aheadV t' c own x := by
      funext v
      unfold aheadV
      rw [stdT_sig h, openT_sig h]
    unfold needOne
    rw [this]
  unfold mustT needsT
  rw [stdT_sig h, freeT_sig h, songs_sig h, show t.rd = t'.rd from congrArg (fun z => z.1) h]
  have : needOne t c (stdT t' s 0 0) s (freeT t' c) = needOne t' c (stdT t' s 0 0) s (freeT t' c) := by funext x; exact hn _ _ _
  rw [this]
theorem staysV_sig {t t' : Tally} (h : sig t = sig t') (c : Contest) (s : Int) : staysV t c s = staysV t' c s := by
  unfold staysV
  rw [songs_sig h, mustT_sig h, mayT_sig h, freeT_sig h]
/-- The same ballots count in each round: the same tallies, but for the places. -/
theorem rdsT_sig {l l' : List Ballot} (hs : (l.map (·.serial)).Nodup) (hs' : (l'.map (·.serial)).Nodup) : ∀ (rs : List Rnd) (i : Nat) (ss : List Int),
    (∀ (k : Nat) (t : Tally), (rdsT l rs i ss)[k]? = some t → (l.filter (cntB l ((i + k : Nat) : Int) t.songs)).Perm (l'.filter (cntB l' ((i + k : Nat) : Int) t.songs))) → (rdsT l rs i ss).map sig = (rdsT l' rs i ss).map sig := by
  intro rs
  induction rs with
  | nil => intro i ss _; rfl
  | cons r rs ih =>
    intro i ss H
    have h0 : sig (countT r (i : Int) ss l) = sig (countT r (i : Int) ss l') := sig_count hs hs' (by
      have q := H 0 (countT r i ss l) rfl
      rw [Nat.add_zero] at q
      exact q)
    have hk : (resT (countT r i ss l)).kept = (resT (countT r i ss l')).kept := by rw [resT_sig h0]
    simp only [rdsT, List.map_cons]
    rw [← hk]
    refine congr (congrArg List.cons h0) (ih (i + 1) _ fun k t ht => ?_)
    have := H (k + 1) t (by simpa [rdsT] using ht)
    rw [show i + 1 + k = i + (k + 1) by omega]
    exact this
theorem map_res {ts ts' : List Tally} (h : ts.map sig = ts'.map sig) : ts.map resT = ts'.map resT := by
  induction ts generalizing ts' with
  | nil => cases ts' with | nil => rfl | cons => simp at h
  | cons t ts ih =>
    cases ts' with
    | nil => simp at h
    | cons t' ts' =>
      simp only [List.map_cons, List.cons.injEq] at h
      simp only [List.map_cons]
      rw [resT_sig h.1, ih h.2]
theorem run_sig {c : Contest} {l l' : List Ballot} (h : (roundsT c l).map sig = (roundsT c l').map sig) (hl : chkBls c l = 0) (hl' : chkBls c l' = 0) : runD c l = runD c l' := by
  have hr : resultsT c l = resultsT c l' := map_res h
  unfold runD winnerT
  rw [if_neg (by simp [hl]), if_neg (by simp [hl']), hr]
/-- Does a ballot count in its round? -/
def cntL (c : Contest) (l : List Ballot) (b : Ballot) : Bool := match (roundsT c l)[b.round.toNat]? with
  | some t => cntB l b.round t.songs b
  | none => false
theorem rdsT_get {l : List Ballot} : ∀ {rs : List Rnd} {i : Nat} {ss : List Int} {k : Nat} {t : Tally}, (rdsT l rs i ss)[k]? = some t → ∃ r, rs[k]? = some r ∧ t = countT r ((i + k : Nat) : Int) t.songs l := by
  intro rs
  induction rs with
  | nil => intro i ss k t h; simp [rdsT] at h
  | cons r rs ih =>
    intro i ss k t h
    cases k with
    | zero =>
      simp only [rdsT, List.getElem?_cons_zero, Option.some.injEq] at h
      subst h
      exact ⟨r, rfl, rfl⟩
    | succ k =>
      simp only [rdsT, List.getElem?_cons_succ] at h
      obtain ⟨r', h1, h2⟩ := ih h
      exact ⟨r', h1, by rw [show i + (k + 1) = i + 1 + k by omega]; exact h2⟩
theorem place_cnt {rd : Int} {ss : List Int} {l : List Ballot} (hs : (l.map (·.serial)).Nodup) {i : Nat} {b : Ballot} (hb : l[i]? = some b) : (∃ e, e ∈ voices rd ss l l.length ∧ e.2 = i) ↔ cntB l rd ss b = true := by
  have hm := mem_bal (rd := rd) (songs := ss) hs b
  have hbl := List.mem_of_getElem? hb
  constructor
  · rintro ⟨e, he, h2⟩
    have : b ∈ balOf l (voices rd ss l l.length) := List.mem_filterMap.2 ⟨e, he, by rw [h2, Int.toNat_natCast]; exact hb⟩
    exact (List.mem_filter.1 (hm.1 this)).2
  · intro h
    obtain ⟨e, he, h2⟩ := List.mem_filterMap.1 (hm.2 (List.mem_filter.2 ⟨hbl, h⟩))
    obtain ⟨k, o, q1, q2, q3, _⟩ := (voices_spec rd ss l l.length).en e he
    rw [q1, Int.toNat_natCast] at h2
    obtain ⟨w1, w2⟩ := List.getElem?_eq_some_iff.1 h2
    obtain ⟨w3, w4⟩ := List.getElem?_eq_some_iff.1 hb
    have := (List.getElem_inj (nodup_of_map hs)).1 (w2.trans w4.symm)
    exact ⟨e, he, by rw [q1, this]⟩
theorem counts_map {c : Contest} {l : List Ballot} (hs : (l.map (·.serial)).Nodup) (hb : ∀ b, b ∈ l → 0 ≤ b.round) : mkO l.length (cntPl (roundsT c l)) = l.map (cntL c l) := by
  apply List.ext_getElem?
  intro i
  by_cases hi : i < l.length
  · obtain ⟨b, hbi⟩ : ∃ b, l[i]? = some b := ⟨l[i], by simp [hi]⟩
    rw [List.getElem?_map, hbi, mkO, List.getElem?_map, List.getElem?_range hi]
    simp only [Option.map_some, Option.some.injEq]
    rw [Bool.eq_iff_iff, has_iff]
    unfold cntPl
    rw [List.mem_flatMap]
    have hrd := hb b (List.mem_of_getElem? hbi)
    constructor
    · rintro ⟨t, ht, h2⟩
      obtain ⟨e, he, e2⟩ := List.mem_map.1 h2
      obtain ⟨k, hk⟩ := List.mem_iff_getElem?.1 ht
      obtain ⟨r, _, h4⟩ := rdsT_get hk
      rw [Nat.zero_add] at h4
      have hm : t.m = voices k t.songs l l.length := by rw [h4]; rfl
      have hc := (place_cnt hs hbi).1 ⟨e, hm ▸ he, e2⟩
      have hin : b.round = k := by
        simp only [cntB, isIn, Bool.and_eq_true, decide_eq_true_eq] at hc
        exact hc.1.1
      unfold cntL
      rw [hin, Int.toNat_natCast, show (roundsT c l)[k]? = some t from hk]
      exact hc
    · intro h
      unfold cntL at h
      split at h
      · rename_i t ht
        obtain ⟨r, _, h4⟩ := rdsT_get ht
        rw [Nat.zero_add] at h4
        have hk : ((b.round.toNat : Nat) : Int) = b.round := by omega
        rw [hk] at h4
        have hm : t.m = voices b.round t.songs l l.length := by rw [h4]; rfl
        obtain ⟨e, he, e2⟩ := (place_cnt hs hbi).2 h
        exact ⟨t, List.mem_of_getElem? ht, List.mem_map.2 ⟨e, hm ▸ he, e2⟩⟩
      · cases h
  · rw [List.getElem?_eq_none (by rw [mkO_len]; omega), List.getElem?_eq_none (by rw [List.length_map]; omega)]
end Go.Proofs.Ytnolifglhhjdnaa
namespace Go.Proofs.Ytnolifglhhjdnaa
open Go
set_option maxRecDepth 100000
/-- The ballots that count. -/
def someL (c : Contest) (l : List Ballot) : List Ballot := l.filter (cntL c l)
theorem cntL_at {c : Contest} {l : List Ballot} {b : Ballot} {k : Nat} {t : Tally} (ht : (roundsT c l)[k]? = some t) (hk : b.round = k) : cntL c l b = cntB l k t.songs b := by
  unfold cntL
  rw [hk, Int.toNat_natCast, ht]
theorem cntB_round {l : List Ballot} {rd : Int} {ss : List Int} {b : Ballot} (h : cntB l rd ss b = true) : b.round = rd := by
  simp only [cntB, isIn, Bool.and_eq_true, decide_eq_true_eq] at h
  exact h.1.1
theorem some_sig {c : Contest} {l : List Ballot} (hs : (l.map (·.serial)).Nodup) : (roundsT c l).map sig = (roundsT c (someL c l)).map sig := by
  refine rdsT_sig hs (hs.sublist (List.filter_sublist.map _)) _ _ _ fun k t ht => ?_
  rw [Nat.zero_add]
  have e : (someL c l).filter (cntB (someL c l) k t.songs) = l.filter (cntB l k t.songs) := by
    unfold someL
    rw [List.filter_filter]
    refine List.filter_congr fun b hb => ?_
    rw [Bool.eq_iff_iff, Bool.and_eq_true]
    constructor
    · rintro ⟨h1, h2⟩
      rwa [cntL_at ht (cntB_round h1)] at h2
    · intro h
      refine ⟨?_, by rw [cntL_at ht (cntB_round h)]; exact h⟩
      simp only [cntB, Bool.and_eq_true, List.all_eq_true] at h ⊢
      exact ⟨h.1, fun x hx => h.2 x (List.mem_filter.1 hx).1⟩
  exact List.Perm.of_eq e.symm
theorem some_voice {c : Contest} {l : List Ballot} {a b : Ballot} (ha : a ∈ l) (hb : b ∈ l) (h1 : cntL c l a = true) (h2 : cntL c l b = true) (hk : a.kind = b.kind) (hr : a.round = b.round) (hv : a.voter = b.voter) (hs : a.kind = 2 ∨ a.song = b.song) : a.serial = b.serial := by
  have key : keyOf a = keyOf b := by
    unfold keyOf
    rw [← hk, hv]
    rcases hs with h | h
    · rw [if_pos h, if_pos h]
    · rw [h]
  unfold cntL at h1 h2
  rw [← hr] at h2
  split at h1
  · rename_i t ht
    rw [ht] at h2
    simp only [cntB, Bool.and_eq_true, List.all_eq_true, Bool.not_eq_true', Bool.and_eq_false_iff, decide_eq_false_iff_not] at h1 h2
    have q1 : ¬ b.serial < a.serial := by
      rcases h1.2 b hb with (q | q) | q
      · exact absurd key.symm q
      · rw [h2.1] at q; cases q
      · exact q
    have q2 : ¬ a.serial < b.serial := by
      rcases h2.2 a ha with (q | q) | q
      · exact absurd key q
      · rw [h1.1] at q; cases q
      · exact q
    omega
  · cases h1
theorem cntB_snoc {l : List Ballot} {a b : Ballot} {rd : Int} {ss : List Int} (h : b.serial ≤ a.serial) : cntB (l ++ [a]) rd ss b = cntB l rd ss b := by
  have e : (!(decide (keyOf a = keyOf b) && isIn rd ss a && decide (a.serial < b.serial))) = true := by
    have : decide (a.serial < b.serial) = false := decide_eq_false (by omega)
    rw [this]; simp
  unfold cntB
  rw [List.all_append]
  simp only [List.all_cons, List.all_nil, Bool.and_true, e]
theorem filter_snoc {l : List Ballot} {a : Ballot} {rd : Int} {ss : List Int} (hm : ∀ b, b ∈ l → b.serial < a.serial) (h : cntB (l ++ [a]) rd ss a = false) : (l ++ [a]).filter (cntB (l ++ [a]) rd ss) = l.filter (cntB l rd ss) := by
  rw [List.filter_append, List.filter_cons, h]
  simp only [List.filter_nil, Bool.false_eq_true, if_false, List.append_nil]
  exact List.filter_congr fun b hb => cntB_snoc (Int.le_of_lt (hm b hb))
/-- Somebody has voted who votes again. -/
theorem again_no {l : List Ballot} {a b0 : Ballot} {rd : Int} {ss : List Int} (hb : b0 ∈ l) (hlt : b0.serial < a.serial) (hk : keyOf a = keyOf b0) (hin : isIn rd ss a = true → isIn rd ss b0 = true) : cntB (l ++ [a]) rd ss a = false := by
  cases h : cntB (l ++ [a]) rd ss a with
  | false => rfl
  | true =>
    simp only [cntB, Bool.and_eq_true, List.all_eq_true, Bool.not_eq_true', Bool.and_eq_false_iff, decide_eq_false_iff_not] at h
    rcases h.2 b0 (List.mem_append_left _ hb) with (q | q) | q
    · exact absurd hk.symm q
    · rw [hin h.1] at q; cases q
    · exact absurd hlt q
theorem twice_sig {c : Contest} {l : List Ballot} {a b0 : Ballot} (hs : (l.map (·.serial)).Nodup) (hm : ∀ b, b ∈ l → b.serial < a.serial) (hb : b0 ∈ l) (hc : cntL c l b0 = true) (hk : keyOf a = keyOf b0) (hr : a.round = b0.round) : (roundsT c l).map sig = (roundsT c (l ++ [a])).map sig := by
  have hs' : ((l ++ [a]).map (·.serial)).Nodup := by
    rw [List.map_append, List.nodup_append]
    refine ⟨hs, by simp, fun x hx y hy e => ?_⟩
    obtain ⟨b, hb, rfl⟩ := List.mem_map.1 hx
    simp only [List.map_cons, List.map_nil, List.mem_singleton] at hy
    have := hm b hb
    omega
  refine rdsT_sig hs hs' _ _ _ fun k t ht => ?_
  rw [Nat.zero_add, filter_snoc hm]
  refine again_no hb (hm b0 hb) hk fun h => ?_
  have har : a.round = k := by
    simp only [isIn, Bool.and_eq_true, decide_eq_true_eq] at h
    exact h.1
  have h2 := cntL_at (b := b0) ht (by omega)
  rw [hc] at h2
  have h3 := h2.symm
  simp only [cntB, Bool.and_eq_true] at h3
  exact h3.1
theorem nodup_snoc {l : List Ballot} {a : Ballot} (hs : (l.map (·.serial)).Nodup) (hm : ∀ b, b ∈ l → b.serial < a.serial) : ((l ++ [a]).map (·.serial)).Nodup := by
  rw [List.map_append, List.nodup_append]
  refine ⟨hs, by simp, fun x hx y hy e => ?_⟩
  obtain ⟨b, hb, rfl⟩ := List.mem_map.1 hx
  simp only [List.map_cons, List.map_nil, List.mem_singleton] at hy
  have := hm b hb
  omega
end Go.Proofs.Ytnolifglhhjdnaa
namespace Go.Proofs.Ytnolifglhhjdnaa
open Go
set_option maxRecDepth 100000
def Ahd (a b : Std) : Prop := aheadS a b < 0
instance {a b : Std} : Decidable (Ahd a b) := by unfold Ahd; exact inferInstance
theorem cmpI_lt {a b : Int} (h : a < b) : cmpI a b = -1 := by unfold cmpI; rw [if_pos h]
theorem cmpI_gt {a b : Int} (h : b < a) : cmpI a b = 1 := by unfold cmpI; rw [if_neg (by omega), if_pos h]
theorem cmpI_self {a : Int} : cmpI a a = 0 := by unfold cmpI; rw [if_neg (by omega), if_neg (by omega)]
theorem ahd_iff {a b : Std} : Ahd a b ↔ b.score < a.score ∨ (a.score = b.score ∧ (b.points < a.points ∨ (a.points = b.points ∧ a.song < b.song))) := by
  unfold Ahd aheadS
  rcases Int.lt_trichotomy a.score b.score with h1 | h1 | h1
  · rw [cmpI_gt h1]; simp [orI]; omega
  · rw [h1, cmpI_self]
    rcases Int.lt_trichotomy a.points b.points with h2 | h2 | h2
    · rw [cmpI_gt h2]; simp [orI]; omega
    · rw [h2, cmpI_self]
      rcases Int.lt_trichotomy a.song b.song with h3 | h3 | h3
      · rw [cmpI_lt h3]; simp [orI]; omega
      · rw [h3, cmpI_self]; simp [orI]
      · rw [cmpI_gt h3]; simp [orI]; omega
    · rw [cmpI_lt h2]; simp [orI]; omega
  · rw [cmpI_lt h1]; simp [orI]; omega
theorem Ahd.trans {a b c : Std} (h : Ahd a b) (k : Ahd b c) : Ahd a c := by rw [ahd_iff] at *; omega
theorem Ahd.irrefl {a : Std} : ¬ Ahd a a := by rw [ahd_iff]; omega
theorem Ahd.asymm {a b : Std} (h : Ahd a b) : ¬ Ahd b a := fun k => Ahd.irrefl (h.trans k)
theorem not_ahd {a b : Std} (h : a.song ≠ b.song) (k : ¬ Ahd a b) : Ahd b a := by rw [ahd_iff] at *; omega
theorem notAhd_trans {a b c : Std} (h : ¬ Ahd b a) (k : ¬ Ahd c b) : ¬ Ahd c a := by rw [ahd_iff] at *; omega
theorem sink_len (j : Nat) (l : List Std) : (sink j l).length = l.length := (sink_perm j l).length_eq
/-- The first ones, up to a place, are sorted, but for one that may stand too far behind. -/
def SrtX (l : List Std) (i j : Nat) : Prop := ∀ p q a b, p < q → q ≤ i → q ≠ j → l[p]? = some a → l[q]? = some b → ¬ Ahd b a
def Srt (l : List Std) (i : Nat) : Prop := ∀ p q a b, p < q → q ≤ i → l[p]? = some a → l[q]? = some b → ¬ Ahd b a
theorem sink_srt (i : Nat) : ∀ (j : Nat) (l : List Std), j ≤ i → i < l.length → SrtX l i j → Srt (sink j l) i := by
  intro j
  induction j with
  | zero => intro l _ _ h p q a b hpq hq; exact h p q a b hpq hq (by omega)
  | succ j ih =>
    intro l hj hl h
    obtain ⟨x, hx⟩ : ∃ x, l[j + 1]? = some x := ⟨l[j + 1]'(by omega), by simp⟩
    obtain ⟨y, hy⟩ : ∃ y, l[j]? = some y := ⟨l[j]'(by omega), by simp⟩
    simp only [sink, hx, hy]
    split
    · rename_i hlt
      refine ih _ (by omega) (by simpa using hl) ?_
      have g : ∀ r, ((l.set (j + 1) y).set j x)[r]? = if r = j then some x else if r = j + 1 then some y else l[r]? := by
        intro r
        by_cases e : r = j
        · subst e; rw [if_pos rfl, List.getElem?_set_self (by simp; omega)]
        · rw [if_neg e, List.getElem?_set_ne (fun h => e h.symm)]
          by_cases e2 : r = j + 1
          · subst e2; rw [if_pos rfl, List.getElem?_set_self (by omega)]
          · rw [if_neg e2, List.getElem?_set_ne (fun h => e2 h.symm)]
      intro p q a b hpq hq hne ha hb
      rw [g] at ha hb
      rw [if_neg hne] at hb
      by_cases e1 : q = j + 1
      · rw [if_pos e1] at hb
        cases hb
        by_cases e2 : p = j
        · rw [if_pos e2] at ha
          cases ha
          exact Ahd.asymm hlt
        · rw [if_neg e2, if_neg (by omega)] at ha
          exact h p j _ _ (by omega) (by omega) (by omega) ha hy
      · rw [if_neg e1] at hb
        by_cases e2 : p = j
        · rw [if_pos e2] at ha
          cases ha
          exact h (j + 1) q _ _ (by omega) hq (by omega) hx hb
        · rw [if_neg e2] at ha
          by_cases e3 : p = j + 1
          · rw [if_pos e3] at ha
            cases ha
            exact h j q _ _ (by omega) hq (by omega) hy hb
          · rw [if_neg e3] at ha
            exact h p q a b hpq hq (by omega) ha hb
    · rename_i hnlt
      intro p q a b hpq hq ha hb
      by_cases e : q = j + 1
      · subst e
        rw [hx] at hb
        cases hb
        by_cases e2 : p = j
        · subst e2
          rw [hy] at ha
          cases ha
          exact hnlt
        · exact notAhd_trans (h p j a y (by omega) (by omega) (by omega) ha hy) hnlt
      · exact h p q a b hpq hq e ha hb
theorem sinkAll_srt : ∀ (k i : Nat) (l : List Std), 0 < i → i + k ≤ l.length → Srt l (i - 1) → Srt (sinkAll k i l) (i + k - 1) := by
  intro k
  induction k with
  | zero => intro i l _ _ h; exact h
  | succ k ih =>
    intro i l hi hl h
    simp only [sinkAll]
    have h1 := sink_srt i i l (Nat.le_refl _) (by omega) (fun p q a b hpq hq hne ha hb => h p q a b hpq (by omega) ha hb)
    have h2 := ih (i + 1) (sink i l) (by omega) (by rw [sink_len]; omega) (by rw [Nat.add_sub_cancel]; exact h1)
    rw [show i + (k + 1) - 1 = i + 1 + k - 1 by omega]
    exact h2
theorem sortSd_srt (l : List Std) {p q : Nat} {a b : Std} (hpq : p < q) (ha : (sortSd l)[p]? = some a) (hb : (sortSd l)[q]? = some b) : ¬ Ahd b a := by
  have hq := (List.getElem?_eq_some_iff.1 hb).1
  rw [sortSd_len] at hq
  have := sinkAll_srt (l.length - 1) 1 l (by omega) (by omega) (fun p q a b hpq hq => by omega)
  exact this p q a b hpq (by omega) ha hb
def insZ (x : Int) : List Int → List Int
  | [] => [x]
  | y :: l => if x ≤ y then x :: y :: l else y :: insZ x l
def isortZ : List Int → List Int
  | [] => []
  | x :: l => insZ x (isortZ l)
def Asc (l : List Int) : Prop := l.Pairwise (· ≤ ·)
theorem insZ_perm (x : Int) : ∀ l, (insZ x l).Perm (x :: l) := by
  intro l
  induction l with
  | nil => exact .refl _
  | cons y l ih =>
    simp only [insZ]
    split
    · exact .refl _
    · exact (List.Perm.cons y ih).trans (.swap x y l)
theorem isortZ_perm : ∀ l, (isortZ l).Perm l := by
  intro l
  induction l with
  | nil => exact .refl _
  | cons x l ih => exact (insZ_perm x _).trans (.cons x ih)
theorem insZ_asc (x : Int) : ∀ {l : List Int}, Asc l → Asc (insZ x l) := by
  intro l
  induction l with
  | nil => intro _; simp [insZ, Asc]
  | cons y l ih =>
    intro h
    obtain ⟨h1, h2⟩ := List.pairwise_cons.1 h
    simp only [insZ]
    split
    · exact List.pairwise_cons.2 ⟨fun z hz => by
        rcases List.mem_cons.1 hz with rfl | hz
        · assumption
        · have := h1 z hz; omega, h⟩
    · refine List.pairwise_cons.2 ⟨fun z hz => ?_, ih h2⟩
      rcases List.mem_cons.1 ((insZ_perm x l).mem_iff.1 hz) with rfl | hz
      · omega
      · exact h1 z hz
theorem isortZ_asc : ∀ l, Asc (isortZ l) := by
  intro l
  induction l with
  | nil => exact .nil
  | cons x l ih => exact insZ_asc x ih
theorem asc_perm : ∀ {a b : List Int}, a.Perm b → Asc a → Asc b → a = b := by
  intro a
  induction a with
  | nil => intro b h _ _; exact (List.nil_perm.1 h).symm
  | cons x a ih =>
    intro b h ha hb
    cases b with
    | nil => exact absurd h.length_eq (by simp)
    | cons y b =>
      obtain ⟨a1, a2⟩ := List.pairwise_cons.1 ha
      obtain ⟨b1, b2⟩ := List.pairwise_cons.1 hb
      have e : x = y := by
        have hx : x ∈ y :: b := h.mem_iff.1 (by simp)
        have hy : y ∈ x :: a := h.mem_iff.2 (by simp)
        rcases List.mem_cons.1 hx with rfl | hx
        · rfl
        · rcases List.mem_cons.1 hy with rfl | hy
          · rfl
          · have := a1 y hy; have := b1 x hx; omega
      subst e
      rw [ih (List.Perm.cons_inv h) a2 b2]
theorem sortI_isort (l : List Int) : sortI l = isortZ l := by
  refine asc_perm ((List.mergeSort_perm l _).trans (isortZ_perm l).symm) ?_ (isortZ_asc l)
  have := List.pairwise_mergeSort (le := fun x y : Int => decide (x ≤ y)) (by simp; omega) (by simp; omega) l
  exact this.imp (by simp)
/-- How many are ahead of one. -/
def rank (l : List Std) (x : Std) : Nat := l.countP fun y => decide (Ahd y x)
theorem rank_perm {a b : List Std} (h : a.Perm b) (x : Std) : rank a x = rank b x := h.countP_eq _
theorem rank_at : ∀ {l : List Std} {i : Nat} {x : Std}, l.Pairwise Ahd → l[i]? = some x → rank l x = i := by
  intro l
  induction l with
  | nil => intro i x _ h; simp at h
  | cons y l ih =>
    intro i x hp h
    obtain ⟨h1, h2⟩ := List.pairwise_cons.1 hp
    cases i with
    | zero =>
      simp only [List.getElem?_cons_zero, Option.some.injEq] at h
      subst h
      unfold rank
      rw [List.countP_eq_zero]
      intro z hz
      rcases List.mem_cons.1 hz with rfl | hz
      · simp [Ahd.irrefl]
      · simp [(h1 z hz).asymm]
    | succ i =>
      simp only [List.getElem?_cons_succ] at h
      have := ih h2 h
      unfold rank at this ⊢
      rw [List.countP_cons, this]
      simp [h1 x (List.mem_of_getElem? h)]
theorem sortSd_pw {l : List Std} (h : (l.map (·.song)).Nodup) : (sortSd l).Pairwise Ahd := by
  rw [List.pairwise_iff_getElem]
  intro i j hi hj hij
  have hnd : ((sortSd l).map (·.song)).Nodup := ((sortSd_perm l).map _).nodup_iff.2 h
  refine not_ahd (fun e => ?_) (sortSd_srt (l := l) hij (by simp [hi]) (by simp [hj]))
  have := (List.pairwise_iff_getElem.1 (List.nodup_iff_pairwise_ne.1 hnd)) i j (by simpa using hi) (by simpa using hj) hij
  simp only [List.getElem_map] at this
  exact this e.symm
theorem mem_take_iff {α : Type} {l : List α} {n : Nat} {x : α} : x ∈ l.take n ↔ ∃ i, i < n ∧ l[i]? = some x := by
  rw [List.mem_iff_getElem?]
  constructor
  · rintro ⟨i, hi⟩
    rw [List.getElem?_take] at hi
    split at hi
    · rename_i h; exact ⟨i, h, hi⟩
    · cases hi
  · rintro ⟨i, h1, h2⟩
    exact ⟨i, by rw [List.getElem?_take_of_lt h1]; exact h2⟩
theorem take_rank {l : List Std} (h : (l.map (·.song)).Nodup) (n : Nat) : ((sortSd l).take n).Perm (l.filter fun x => decide (rank l x < n)) := by
  have hp := sortSd_perm l
  have hpw := sortSd_pw h
  have hnl : l.Nodup := by
    rw [List.nodup_iff_pairwise_ne, List.pairwise_map] at h
    rw [List.nodup_iff_pairwise_ne]
    exact h.imp fun hn e => hn (by rw [e])
  refine (List.perm_ext_iff_of_nodup ((List.take_sublist _ _).nodup (hp.nodup_iff.2 hnl)) (hnl.sublist List.filter_sublist)).2 fun x => ?_
  rw [mem_take_iff, List.mem_filter, decide_eq_true_eq]
  constructor
  · rintro ⟨i, h1, h2⟩
    refine ⟨hp.mem_iff.1 (List.mem_of_getElem? h2), ?_⟩
    rw [← rank_perm hp, rank_at hpw h2]; exact h1
  · rintro ⟨h1, h2⟩
    obtain ⟨i, hi⟩ := List.mem_iff_getElem?.1 (hp.mem_iff.2 h1)
    rw [← rank_perm hp, rank_at hpw hi] at h2
    exact ⟨i, h2, hi⟩
theorem sortI_perm {a b : List Int} (h : a.Perm b) : sortI a = sortI b := by
  rw [sortI_isort, sortI_isort]
  exact asc_perm ((isortZ_perm a).trans (h.trans (isortZ_perm b).symm)) (isortZ_asc a) (isortZ_asc b)
theorem sortI_asc {a : List Int} (h : Asc a) : sortI a = a := by
  rw [sortI_isort]
  exact asc_perm (isortZ_perm a) (isortZ_asc a) h
/-- Strictly ascending. -/
def Up (l : List Int) : Prop := l.Pairwise (· < ·)
theorem Up.nodup {l : List Int} (h : Up l) : l.Nodup := by
  rw [List.nodup_iff_pairwise_ne]
  exact h.imp fun q => by omega
theorem kept_rank {l : List Std} (h : Up (l.map (·.song))) (n : Nat) : keptS n l = (l.filter fun x => decide (rank l x < n)).map (·.song) := by
  unfold keptS
  rw [sortI_perm ((take_rank h.nodup n).map _)]
  refine sortI_asc ?_
  have : Up ((l.filter fun x => decide (rank l x < n)).map (·.song)) := h.sublist (List.filter_sublist.map _)
  exact this.imp fun q => by omega
theorem kept_up {l : List Std} (h : Up (l.map (·.song))) (n : Nat) : Up (keptS n l) := by
  rw [kept_rank h]
  exact h.sublist (List.filter_sublist.map _)
end Go.Proofs.Ytnolifglhhjdnaa
namespace Go.Proofs.Ytnolifglhhjdnaa
open Go
set_option maxRecDepth 100000
theorem asc_min : ∀ {S B R : List Int}, Asc S → S.Perm (B ++ R) → (S.take B.length).sum ≤ B.sum := by
  intro S
  induction S with
  | nil =>
    intro B R _ h
    have := h.length_eq
    simp at this
    have hb : B = [] := List.eq_nil_of_length_eq_zero (by omega)
    subst hb
    simp
  | cons x S ih =>
    intro B R ha hp
    obtain ⟨ha1, ha2⟩ := List.pairwise_cons.1 ha
    have hx : x ∈ B ++ R := hp.mem_iff.1 (by simp)
    by_cases hB : x ∈ B
    · obtain ⟨B1, B2, rfl⟩ := List.append_of_mem hB
      have hp2 : S.Perm ((B1 ++ B2) ++ R) := by
        have : (x :: S).Perm (x :: ((B1 ++ B2) ++ R)) := by
          refine hp.trans ?_
          simp only [List.append_assoc, List.cons_append]
          exact List.perm_middle
        exact this.cons_inv
      have := ih ha2 hp2
      have e1 : (B1 ++ x :: B2).length = (B1 ++ B2).length + 1 := by simp; omega
      rw [e1, List.take_succ_cons, List.sum_cons]
      simp only [List.sum_append, List.sum_cons] at this ⊢
      omega
    · have hR : x ∈ R := by
        rcases List.mem_append.1 hx with h | h
        · exact absurd h hB
        · exact h
      obtain ⟨R1, R2, rfl⟩ := List.append_of_mem hR
      have hp2 : S.Perm (B ++ (R1 ++ R2)) := by
        have : (x :: S).Perm (x :: (B ++ (R1 ++ R2))) := by
          refine hp.trans ?_
          have q : (B ++ (R1 ++ x :: R2)) = (B ++ R1) ++ x :: R2 := by simp
          rw [q]
          refine List.perm_middle.trans ?_
          rw [List.append_assoc]
        exact this.cons_inv
      have h1 := ih ha2 hp2
      cases hb : B with
      | nil => simp
      | cons b B' =>
        subst hb
        have hl := hp2.length_eq
        simp only [List.length_append, List.length_cons] at hl
        have hn : B'.length < S.length := by omega
        rw [List.length_cons, List.take_succ_cons, List.sum_cons]
        rw [List.length_cons, List.take_add_one, List.getElem?_eq_getElem hn, Option.toList_some, List.sum_append] at h1
        have := ha1 S[B'.length] (by simp)
        simp only [List.sum_cons, List.sum_nil] at h1 ⊢
        omega
theorem min_sum {L B R : List Int} (h : L.Perm (B ++ R)) : ((sortI L).take B.length).sum ≤ B.sum := by
  rw [sortI_isort]
  exact asc_min (isortZ_asc L) ((isortZ_perm L).trans h)
theorem perm_lift {α β : Type} (f : α → β) : ∀ {L : List β} {P : List α}, (P.map f).Perm L → ∃ P' : List α, P'.Perm P ∧ P'.map f = L := by
  intro L
  induction L with
  | nil =>
    intro P h
    have := h.length_eq
    simp at this
    subst this
    exact ⟨[], .refl _, rfl⟩
  | cons y L ih =>
    intro P h
    have hy : y ∈ P.map f := h.mem_iff.2 (by simp)
    obtain ⟨p, hp, rfl⟩ := List.mem_map.1 hy
    obtain ⟨P1, P2, rfl⟩ := List.append_of_mem hp
    have h2 : ((P1 ++ P2).map f).Perm L := by
      have : (f p :: (P1 ++ P2).map f).Perm (f p :: L) := by
        refine List.Perm.trans ?_ h
        simp only [List.map_append, List.map_cons]
        exact List.perm_middle.symm
      exact this.cons_inv
    obtain ⟨P', h3, h4⟩ := ih h2
    exact ⟨p :: P', (List.Perm.cons p h3).trans List.perm_middle.symm, by simp [h4]⟩
theorem nodup_of_map2 {α β : Type} {f : α → β} {l : List α} (h : (l.map f).Nodup) : l.Nodup := nodup_of_map h
/-- Others come ahead of a standing: so many of them, with votes that there are. -/
structure Attack (t : Tally) (c : Contest) (own : Std) (s fr : Int) (C : List Int) (f : Int → Nat) : Prop where
  nd : C.Nodup
  ln : (C.length : Int) = t.rd.keep
  mm : ∀ x, x ∈ C → x ∈ t.songs ∧ x ≠ s
  ah : ∀ x, x ∈ C → aheadV t c own x (f x) = true
  sm : (C.map fun x => (f x : Int)).sum ≤ fr
def prs (t : Tally) (c : Contest) (own : Std) (s fr : Int) (l : List Int) : List (Int × Int) := l.flatMap fun x => (needOne t c own s fr x).map fun v => (x, v)
theorem prs_snd (t : Tally) (c : Contest) (own : Std) (s fr : Int) (l : List Int) : (prs t c own s fr l).map (·.2) = needsT t c own s fr l := by
  unfold prs needsT
  rw [List.map_flatMap]
  congr 1
  funext x
  rw [List.map_map]
  exact (List.map_congr_left fun v _ => rfl).trans (List.map_id _)
theorem mem_prs {t : Tally} {c : Contest} {own : Std} {s fr : Int} {l : List Int} {p : Int × Int} : p ∈ prs t c own s fr l ↔ p.1 ∈ l ∧ p.1 ≠ s ∧ ∃ v, findV (aheadV t c own p.1) (fr + 1).toNat 0 = some v ∧ p.2 = v := by
  unfold prs
  rw [List.mem_flatMap]
  constructor
  · rintro ⟨x, hx, h⟩
    obtain ⟨v, hv, rfl⟩ := List.mem_map.1 h
    unfold needOne at hv
    split at hv
    · cases hv
    · rename_i hne
      split at hv
      · rename_i v' hf
        simp only [List.mem_singleton] at hv
        exact ⟨hx, hne, v', hf, hv⟩
      · cases hv
  · rintro ⟨h1, h2, v, h3, h4⟩
    refine ⟨p.1, h1, List.mem_map.2 ⟨p.2, ?_, rfl⟩⟩
    unfold needOne
    rw [if_neg h2, h3, h4]
    simp
theorem prs_nodup {t : Tally} {c : Contest} {own : Std} {s fr : Int} : ∀ {l : List Int}, l.Nodup → ((prs t c own s fr l).map (·.1)).Nodup := by
  intro l
  induction l with
  | nil => intro _; simp [prs]
  | cons x l ih =>
    intro h
    obtain ⟨h1, h2⟩ := List.nodup_cons.1 h
    have e : prs t c own s fr (x :: l) = (needOne t c own s fr x).map (fun v => (x, v)) ++ prs t c own s fr l := by simp [prs]
    rw [e, List.map_append, List.nodup_append]
    refine ⟨?_, ih h2, fun a ha b hb e2 => ?_⟩
    · have := needOne_len t c own s fr x
      match hn : needOne t c own s fr x with
      | [] => simp
      | [v] => simp
      | a :: b :: r => rw [hn] at this; simp at this
    · obtain ⟨p, hp, rfl⟩ := List.mem_map.1 ha
      obtain ⟨v, _, rfl⟩ := List.mem_map.1 hp
      obtain ⟨q, hq, rfl⟩ := List.mem_map.1 hb
      simp only at e2
      exact h1 (e2 ▸ (mem_prs.1 hq).1)
theorem findV_some {p : Nat → Bool} : ∀ {k i v : Nat}, i ≤ v → v < i + k → p v = true → ∃ w, findV p k i = some w ∧ w ≤ v := by
  intro k
  induction k with
  | zero => intro i v h1 h2; omega
  | succ k ih =>
    intro i v h1 h2 h3
    simp only [findV]
    split
    · exact ⟨i, rfl, h1⟩
    · rename_i hn
      have : i ≠ v := by rintro rfl; exact hn h3
      exact ih (by omega) (by omega) h3
theorem sum_le {α : Type} {f g : α → Int} : ∀ {l : List α}, (∀ x, x ∈ l → f x ≤ g x) → (l.map f).sum ≤ (l.map g).sum := by
  intro l
  induction l with
  | nil => intro _; simp
  | cons x l ih =>
    intro h
    have h1 := ih fun y hy => h y (by simp [hy])
    have h2 := h x (by simp)
    simp only [List.map_cons, List.sum_cons]
    omega
theorem sum_nn {α : Type} {f : α → Int} {l : List α} (h : ∀ x, x ∈ l → 0 ≤ f x) : 0 ≤ (l.map f).sum := by
  have := sum_le (f := fun _ : α => 0) (g := f) (l := l) h
  have e : (l.map fun _ => (0 : Int)).sum = 0 := by
    clear this h
    induction l with
    | nil => rfl
    | cons x l ih => simp [ih]
  omega
theorem mem_le_sum {α : Type} {f : α → Int} {l : List α} (h : ∀ x, x ∈ l → 0 ≤ f x) {x : α} (hx : x ∈ l) : f x ≤ (l.map f).sum := by
  obtain ⟨l1, l2, rfl⟩ := List.append_of_mem hx
  have h1 := sum_nn (f := f) (l := l1) fun y hy => h y (by simp [hy])
  have h2 := sum_nn (f := f) (l := l2) fun y hy => h y (by simp [hy])
  simp only [List.map_append, List.map_cons, List.sum_append, List.sum_cons]
  omega
theorem must_iff {t : Tally} {c : Contest} {s : Int} (hn : t.songs.Nodup) (hk : 1 ≤ t.rd.keep) : mustT t c s = false ↔ ∃ C f, Attack t c (stdT t s 0 0) s (freeT t c) C f := by
  obtain ⟨own, hown⟩ : ∃ z, stdT t s 0 0 = z := ⟨_, rfl⟩
  obtain ⟨fr, hfr⟩ : ∃ z, freeT t c = z := ⟨_, rfl⟩
  obtain ⟨kn, hkn⟩ : ∃ z : Nat, t.rd.keep = z := ⟨t.rd.keep.toNat, by omega⟩
  have hm : mustT t c s = if ((needsT t c own s fr t.songs).length : Int) < t.rd.keep then true else decide (fr < ((sortI (needsT t c own s fr t.songs)).take t.rd.keep.toNat).sum) := by unfold mustT; rw [hown, hfr]
  rw [hm, hown, hfr, hkn, Int.toNat_natCast]
  obtain ⟨P, hP⟩ : ∃ z, prs t c own s fr t.songs = z := ⟨_, rfl⟩
  have hsnd := prs_snd t c own s fr t.songs
  rw [hP] at hsnd
  have hnd := prs_nodup (t := t) (c := c) (own := own) (s := s) (fr := fr) hn
  rw [hP] at hnd
  have hmem : ∀ p, p ∈ P ↔ p.1 ∈ t.songs ∧ p.1 ≠ s ∧ ∃ v, findV (aheadV t c own p.1) (fr + 1).toNat 0 = some v ∧ p.2 = v := fun p => by rw [← hP]; exact mem_prs
  constructor
  · intro h
    split at h
    · cases h
    · rename_i hlen
      have hsum := of_decide_eq_false h
      have hpm : (P.map (·.2)).Perm (sortI (needsT t c own s fr t.songs)) := by rw [hsnd]; exact (List.mergeSort_perm _ _).symm
      obtain ⟨P', h1, h2⟩ := perm_lift (fun p : Int × Int => p.2) hpm
      have hPl : P'.length = (needsT t c own s fr t.songs).length := by rw [h1.length_eq, ← hsnd]; simp
      refine ⟨(P'.take kn).map (·.1), fun x => (findV (aheadV t c own x) (fr + 1).toNat 0).getD 0, ?_, ?_, ?_, ?_, ?_⟩
      · exact (((h1.map (·.1)).nodup_iff.2 hnd)).sublist ((List.take_sublist _ _).map _)
      · rw [List.length_map, List.length_take, hPl, hkn]
        omega
      · intro x hx
        obtain ⟨p, hp, rfl⟩ := List.mem_map.1 hx
        obtain ⟨q1, q2, _⟩ := (hmem p).1 (h1.mem_iff.1 (List.mem_of_mem_take hp))
        exact ⟨q1, q2⟩
      · intro x hx
        obtain ⟨p, hp, rfl⟩ := List.mem_map.1 hx
        obtain ⟨_, _, v, q3, _⟩ := (hmem p).1 (h1.mem_iff.1 (List.mem_of_mem_take hp))
        rw [q3]
        exact (findV_lt q3).2.2
      · have e : ((P'.take kn).map (·.1)).map (fun x => (((findV (aheadV t c own x) (fr + 1).toNat 0).getD 0 : Nat) : Int)) = (P'.take kn).map (·.2) := by
          rw [List.map_map]
          refine List.map_congr_left fun p hp => ?_
          obtain ⟨_, _, v, q3, q4⟩ := (hmem p).1 (h1.mem_iff.1 (List.mem_of_mem_take hp))
          simp only [Function.comp, q3, Option.getD_some, q4]
        rw [e, List.map_take, h2]
        omega
  · rintro ⟨C, f, h⟩
    have hfx : ∀ x, x ∈ C → (f x : Int) ≤ fr := fun x hx => Int.le_trans (mem_le_sum (f := fun x => (f x : Int)) (fun _ _ => by omega) hx) h.sm
    have hN : ∀ x, x ∈ C → ∃ w, findV (aheadV t c own x) (fr + 1).toNat 0 = some w ∧ w ≤ f x := fun x hx => findV_some (Nat.zero_le _) (by have := hfx x hx; omega) (h.ah x hx)
    obtain ⟨g, hg⟩ : ∃ g : Int → Nat, ∀ x, g x = (findV (aheadV t c own x) (fr + 1).toNat 0).getD 0 := ⟨_, fun _ => rfl⟩
    have hgC : ∀ x, x ∈ C → findV (aheadV t c own x) (fr + 1).toNat 0 = some (g x) ∧ g x ≤ f x := fun x hx => by
      obtain ⟨w, h1, h2⟩ := hN x hx
      rw [hg, h1]
      exact ⟨rfl, h2⟩
    have hCP : (C.map fun x => (x, (g x : Int))).Perm (P.filter fun p => decide (p.1 ∈ C)) := by
      refine (List.perm_ext_iff_of_nodup ?_ ((nodup_of_map2 hnd).sublist List.filter_sublist)).2 fun p => ?_
      · refine nodup_of_map2 (f := (·.1)) ?_
        rw [List.map_map]
        have : ((·.1) ∘ fun x => (x, (g x : Int))) = (id : Int → Int) := rfl
        rw [this, List.map_id]
        exact h.nd
      · rw [List.mem_filter, decide_eq_true_eq]
        constructor
        · intro hp
          obtain ⟨x, hx, rfl⟩ := List.mem_map.1 hp
          obtain ⟨q1, q2⟩ := h.mm x hx
          exact ⟨(hmem _).2 ⟨q1, q2, g x, (hgC x hx).1, rfl⟩, hx⟩
        · rintro ⟨hp, hx⟩
          obtain ⟨_, _, v, q3, q4⟩ := (hmem p).1 hp
          rw [(hgC p.1 hx).1] at q3
          injection q3 with q3
          exact List.mem_map.2 ⟨p.1, hx, by rw [q3, ← q4]⟩
    have hperm : (needsT t c own s fr t.songs).Perm (C.map (fun x => (g x : Int)) ++ (P.filter fun p => !decide (p.1 ∈ C)).map (·.2)) := by
      rw [← hsnd]
      have h1 := (List.filter_append_perm (fun p : Int × Int => decide (p.1 ∈ C)) P).symm.map (·.2)
      rw [List.map_append] at h1
      refine h1.trans (List.Perm.append_right _ ?_)
      have h2 := (hCP.map (·.2)).symm
      rw [List.map_map] at h2
      exact h2
    have hlen : C.length = kn := by have := h.ln; omega
    have hle := hperm.length_eq
    rw [List.length_append, List.length_map] at hle
    rw [if_neg (by omega)]
    refine decide_eq_false ?_
    have h3 := min_sum hperm
    rw [List.length_map, hlen] at h3
    have h4 := sum_le (f := fun x => (g x : Int)) (g := fun x => (f x : Int)) (l := C) fun x hx => by have := (hgC x hx).2; omega
    have := h.sm
    omega
end Go.Proofs.Ytnolifglhhjdnaa
namespace Go.Proofs.Ytnolifglhhjdnaa
open Go
set_option maxRecDepth 100000
/-- One ballot more counts. -/
structure MoreT (c : Contest) (b : Ballot) (t t' : Tally) : Prop where
  rd : t'.rd = t.rd
  sg : t'.songs = t.songs
  pt : ∀ s, t'.pts s = t.pts s + cpB s b
  vt : ∀ s, t'.vts s = t.vts s + cvB s b
  fr : freeT t' c = freeT t c - gM (keyOf b)
  op : ∀ s, openT t' c s = openT t c s - gJ s (keyOf b) * c.most
theorem std_score (t : Tally) (s p v : Int) : (stdT t s p v).score = t.rd.jury * (t.pts s.toNat + p) + t.rd.member * (t.vts s.toNat + v) := rfl
/-- A standing that is no worse than another one of the same song. -/
structure Bet (x y : Std) : Prop where
  sc : y.score ≤ x.score
  pt : y.points ≤ x.points
  sg : x.song = y.song
theorem Ahd.bet {x x' o o' : Std} (h : Ahd x' o') (hx : Bet x x') (ho : Bet o' o) : Ahd x o := by
  obtain ⟨a1, a2, a3⟩ := hx
  obtain ⟨b1, b2, b3⟩ := ho
  rw [ahd_iff] at *
  omega
theorem std_bet {t t' : Tally} {s p v p' v' : Int} (hr : t'.rd = t.rd) (hj : 0 ≤ t.rd.jury) (hm : 0 ≤ t.rd.member) (hp : t.pts s.toNat + p ≤ t'.pts s.toNat + p') (hv : t.vts s.toNat + v ≤ t'.vts s.toNat + v') : Bet (stdT t' s p' v') (stdT t s p v) := by
  refine ⟨?_, hp, rfl⟩
  rw [std_score, std_score, hr]
  exact Int.add_le_add (Int.mul_le_mul_of_nonneg_left hp hj) (Int.mul_le_mul_of_nonneg_left hv hm)
theorem ahd_of {x y : Std} : aheadS x y < 0 ↔ Ahd x y := Iff.rfl
section
variable {c : Contest} {b : Ballot} {t t' : Tally}
theorem cpB_nn (hb : 0 ≤ b.points) (s : Nat) : 0 ≤ cpB s b := by unfold cpB; split <;> omega
theorem cvB_nn (s : Nat) : 0 ≤ cvB s b := by unfold cvB; split <;> omega
theorem gM_key : gM (keyOf b) = if b.kind = 2 then 1 else 0 := rfl
theorem gJ_key (hk : b.kind = 1 ∨ b.kind = 2) (s : Int) : gJ s (keyOf b) = if b.kind = 1 ∧ b.song = s then 1 else 0 := by
  unfold gJ keyOf
  simp only
  rcases hk with h | h
  · simp [h]
  · simp [h]
theorem cpB_key (s : Int) (hs : 0 ≤ s) (hk : b.kind = 1 ∨ b.kind = 2) : cpB s.toNat b = if b.kind = 1 ∧ b.song = s then b.points else 0 := by
  unfold cpB
  have : (s.toNat : Int) = s := by omega
  rw [this]
  rcases hk with h | h
  · simp [h]
  · simp [h]
theorem cvB_key (s : Int) (hs : 0 ≤ s) : cvB s.toNat b = if b.kind = 2 ∧ b.song = s then 1 else 0 := by
  unfold cvB
  have : (s.toNat : Int) = s := by omega
  rw [this]
/-- A song that is kept whatever happens still is. -/
theorem must_more (hM : MoreT c b t t') (hT : TlB t) (hv : BlV c b) (hms : 0 ≤ c.most) (hn : t.songs.Nodup) {s : Int} (hs : 0 ≤ s) (h : mustT t c s = true) : mustT t' c s = true := by
  cases h2 : mustT t' c s with
  | true => rfl
  | false =>
    obtain ⟨C, f, hA⟩ := (must_iff (by rw [hM.sg]; exact hn) (by rw [hM.rd]; exact hT.kp.1)).1 h2
    have hbad : mustT t c s = false := by
      refine (must_iff hn hT.kp.1).2 ⟨C, fun x => f x + (if b.kind = 2 ∧ b.song = x then 1 else 0), hA.nd, by rw [← hM.rd]; exact hA.ln, fun x hx => by rw [← hM.sg]; exact hA.mm x hx, fun x hx => ?_, ?_⟩
      · have hx0 : 0 ≤ x := (hT.sg x (by rw [← hM.sg]; exact (hA.mm x hx).1)).1
        have h1 := hA.ah x hx
        unfold aheadV at h1 ⊢
        simp only [decide_eq_true_eq] at h1 ⊢
        rw [ahd_of] at h1 ⊢
        refine h1.bet (std_bet hM.rd.symm (by rw [hM.rd]; exact hT.wj.1) (by rw [hM.rd]; exact hT.wm.1) ?_ ?_) (std_bet hM.rd hT.wj.1 hT.wm.1 ?_ ?_)
        · rw [hM.pt, hM.op, cpB_key x hx0 hv.kd, gJ_key hv.kd]
          have := hv.pt
          split
          · rename_i hk
            rw [if_neg (by omega)] at this
            omega
          · omega
        · rw [hM.vt, cvB_key x hx0]
          split
          · simp; omega
          · simp
        · rw [hM.pt]
          have := cpB_nn hv.pt.1 s.toNat
          omega
        · rw [hM.vt]
          have := cvB_nn (b := b) s.toNat
          omega
      · have h1 := hA.sm
        rw [hM.fr, gM_key] at h1
        have e : (C.map fun x => ((f x + (if b.kind = 2 ∧ b.song = x then 1 else 0) : Nat) : Int)).sum ≤ (C.map fun x => (f x : Int)).sum + (if b.kind = 2 then 1 else 0) := by
          have hnd := hA.nd
          clear h1 h2 hA
          have key : ∀ C : List Int, C.Nodup → (C.map fun x => ((f x + (if b.kind = 2 ∧ b.song = x then 1 else 0) : Nat) : Int)).sum ≤ (C.map fun x => (f x : Int)).sum + (if b.kind = 2 ∧ b.song ∈ C then 1 else 0) := by
            intro C
            induction C with
            | nil => intro _; simp
            | cons x C ih =>
              intro hn
              obtain ⟨n1, n2⟩ := List.nodup_cons.1 hn
              have := ih n2
              simp only [List.map_cons, List.sum_cons, List.mem_cons]
              by_cases hk : b.kind = 2
              · by_cases hx : b.song = x
                · rw [hx] at this
                  rw [if_neg (by simp [n1])] at this
                  rw [if_pos ⟨hk, hx⟩, if_pos ⟨hk, .inl hx⟩]
                  rw [hx]
                  omega
                · rw [if_neg (by simp [hx])]
                  by_cases hm : b.song ∈ C
                  · rw [if_pos ⟨hk, hm⟩] at this
                    rw [if_pos ⟨hk, .inr hm⟩]
                    omega
                  · rw [if_neg (by simp [hm])] at this
                    rw [if_neg (by simp [hm, hx])]
                    omega
              · rw [if_neg (by simp [hk])] at this
                rw [if_neg (by simp [hk]), if_neg (by simp [hk])]
                omega
          refine Int.le_trans (key C hnd) ?_
          by_cases hk : b.kind = 2
          · rw [if_pos hk]; split <;> omega
          · rw [if_neg hk, if_neg (by simp [hk])]; omega
        omega
    rw [h] at hbad
    cases hbad
/-- A song that cannot be kept still cannot. -/
theorem may_more (hM : MoreT c b t t') (hT : TlB t) (hv : BlV c b) {s : Int} (hs : 0 ≤ s) (h : mayT t c s (freeT t c) = false) : mayT t' c s (freeT t' c) = false := by
  unfold mayT at h ⊢
  rw [decide_eq_false_iff_not] at h ⊢
  rw [hM.rd, hM.sg]
  have hle : ∀ l : List Int, (∀ x, x ∈ l → x ∈ t.songs) → cntA t (stdT t s (openT t c s) (freeT t c)) s l ≤ cntA t' (stdT t' s (openT t' c s) (freeT t' c)) s l := by
    intro l
    induction l with
    | nil => intro _; exact Int.le_refl _
    | cons x l ih =>
      intro hl
      have h1 := ih fun y hy => hl y (by simp [hy])
      have hx0 := (hT.sg x (hl x (by simp))).1
      simp only [cntA]
      by_cases hx : x ≠ s ∧ aheadS (stdT t x 0 0) (stdT t s (openT t c s) (freeT t c)) < 0
      · have : x ≠ s ∧ aheadS (stdT t' x 0 0) (stdT t' s (openT t' c s) (freeT t' c)) < 0 := by
          refine ⟨hx.1, ?_⟩
          have h2 := hx.2
          rw [ahd_of] at h2 ⊢
          refine h2.bet (std_bet hM.rd hT.wj.1 hT.wm.1 ?_ ?_) (std_bet hM.rd.symm (by rw [hM.rd]; exact hT.wj.1) (by rw [hM.rd]; exact hT.wm.1) ?_ ?_)
          · rw [hM.pt]
            have := cpB_nn hv.pt.1 x.toNat
            omega
          · rw [hM.vt]
            have := cvB_nn (b := b) x.toNat
            omega
          · rw [hM.pt, hM.op, cpB_key s hs hv.kd, gJ_key hv.kd]
            have := hv.pt
            split
            · rename_i hk
              rw [if_neg (by omega)] at this
              omega
            · omega
          · rw [hM.vt, hM.fr, cvB_key s hs, gM_key]
            split
            · rename_i hk
              rw [if_pos hk.1]
              omega
            · split <;> omega
        rw [if_pos hx, if_pos this]
        omega
      · rw [if_neg hx]
        split <;> omega
  have := hle t.songs fun x h => h
  omega
/-- What must be kept can be kept. -/
theorem must_may (hT : TlB t) (hn : t.songs.Nodup) (hf : 0 ≤ freeT t c) (ho : ∀ s, 0 ≤ openT t c s) {s : Int} (h : mustT t c s = true) : mayT t c s (freeT t c) = true := by
  cases h2 : mayT t c s (freeT t c) with
  | true => rfl
  | false =>
    unfold mayT at h2
    rw [decide_eq_false_iff_not] at h2
    obtain ⟨own, hown⟩ : ∃ z, stdT t s (openT t c s) (freeT t c) = z := ⟨_, rfl⟩
    rw [hown] at h2
    obtain ⟨D, hD⟩ : ∃ z, t.songs.filter (fun x => decide (x ≠ s ∧ aheadS (stdT t x 0 0) own < 0)) = z := ⟨_, rfl⟩
    have hc : cntA t own s t.songs = D.length := by
      rw [← hD]
      clear h2 hD hn
      have : ∀ l : List Int, cntA t own s l = (l.filter (fun x => decide (x ≠ s ∧ aheadS (stdT t x 0 0) own < 0))).length := by
        intro l
        induction l with
        | nil => rfl
        | cons x l ih =>
          simp only [cntA, List.filter_cons, ih]
          by_cases hx : x ≠ s ∧ aheadS (stdT t x 0 0) own < 0
          · rw [if_pos hx, if_pos (by simpa using hx)]
            simp only [List.length_cons]
            omega
          · rw [if_neg hx, if_neg (by simpa using hx)]
            omega
      exact this _
    rw [hc] at h2
    obtain ⟨kn, hkn⟩ : ∃ z : Nat, t.rd.keep = z := ⟨t.rd.keep.toNat, by have := hT.kp.1; omega⟩
    have hbad : mustT t c s = false := by
      refine (must_iff hn hT.kp.1).2 ⟨D.take kn, fun _ => 0, ?_, by rw [List.length_take]; omega, fun x hx => ?_, fun x hx => ?_, ?_⟩
      · rw [← hD]
        exact (hn.sublist List.filter_sublist).sublist (List.take_sublist _ _)
      · have := List.mem_of_mem_take hx
        rw [← hD] at this
        obtain ⟨h3, h4⟩ := List.mem_filter.1 this
        simp only [decide_eq_true_eq] at h4
        exact ⟨h3, h4.1⟩
      · have := List.mem_of_mem_take hx
        rw [← hD] at this
        obtain ⟨h3, h4⟩ := List.mem_filter.1 this
        simp only [decide_eq_true_eq] at h4
        unfold aheadV
        rw [decide_eq_true_eq, ahd_of]
        have h5 := h4.2
        rw [ahd_of, ← hown] at h5
        have hox := ho x
        have hos := ho s
        refine h5.bet (std_bet rfl hT.wj.1 hT.wm.1 (by omega) (by simp)) (std_bet rfl hT.wj.1 hT.wm.1 (by omega) (by omega))
      · have : ∀ l : List Int, (l.map fun _ => ((0 : Nat) : Int)).sum = 0 := by
          intro l
          induction l with
          | nil => rfl
          | cons x l ih => simpa using ih
        rw [this]
        exact hf
    rw [h] at hbad
    cases hbad
/-- A song of which more is known is kept as it was, or nobody could tell. -/
theorem stays_more (hM : MoreT c b t t') (hT : TlB t) (hT' : TlB t') (hv : BlV c b) (hms : 0 ≤ c.most) (hn : t.songs.Nodup) (hf : 0 ≤ freeT t' c) (ho : ∀ s, 0 ≤ openT t' c s) {s : Int} (hs : 0 ≤ s) (h : staysV t c s ≠ 3) : staysV t' c s = staysV t c s := by
  have hh : has t'.songs s = has t.songs s := by rw [hM.sg]
  unfold staysV at h ⊢
  rw [hh]
  by_cases h1 : has t.songs s = false
  · rw [if_pos h1, if_pos h1]
  · rw [if_neg h1] at h
    rw [if_neg h1, if_neg h1]
    by_cases h2 : mustT t c s = true
    · rw [if_pos h2, if_pos (must_more hM hT hv hms hn hs h2)]
    · rw [if_neg h2] at h
      rw [if_neg h2]
      by_cases h3 : mayT t c s (freeT t c) = true
      · rw [if_pos h3] at h
        exact absurd rfl h
      · have h4 := may_more hM hT hv hs (by simpa using h3)
        have h6 : ¬ mustT t' c s = true := fun h5 => by
          have := must_may hT' (by rw [hM.sg]; exact hn) hf ho h5
          rw [h4] at this
          cases this
        rw [if_neg h3, if_neg h6, if_neg (by rw [h4]; simp)]
/-- A song that is kept, of which there is a vote more, is kept. -/
theorem kept_more (hM : MoreT c b t t') (hT : TlB t) (hv : BlV c b) (hu : Up t.songs) (h : b.song ∈ (resT t).kept) : b.song ∈ (resT t').kept := by
  have hu1 : Up ((allT t).map (·.song)) := by rw [allT_song]; exact hu
  have hu2 : Up ((allT t').map (·.song)) := by rw [allT_song, hM.sg]; exact hu
  have e1 : (resT t).kept = keptS t.rd.keep.toNat (allT t) := rfl
  have e2 : (resT t').kept = keptS t.rd.keep.toNat (allT t') := by rw [← hM.rd]; rfl
  rw [e1, kept_rank hu1] at h
  rw [e2, kept_rank hu2]
  obtain ⟨x, hx, hs⟩ := List.mem_map.1 h
  obtain ⟨h1, h2⟩ := List.mem_filter.1 hx
  simp only [decide_eq_true_eq] at h2
  obtain ⟨s, hss, rfl⟩ := List.mem_map.1 h1
  have hse : s = b.song := hs
  subst hse
  refine List.mem_map.2 ⟨stdT t' b.song 0 0, List.mem_filter.2 ⟨List.mem_map.2 ⟨b.song, by rw [hM.sg]; exact hss, rfl⟩, ?_⟩, rfl⟩
  rw [decide_eq_true_eq]
  refine Nat.lt_of_le_of_lt ?_ h2
  unfold rank allT
  rw [hM.sg, List.countP_map, List.countP_map]
  refine List.countP_mono_left fun y hy hh => ?_
  simp only [Function.comp, decide_eq_true_eq] at hh ⊢
  have hy0 := (hT.sg y hy).1
  by_cases e : y = b.song
  · subst e
    exact absurd hh Ahd.irrefl
  · have hz1 : cpB y.toNat b = 0 := by rw [cpB_key y hy0 hv.kd, if_neg (by intro q; exact e q.2.symm)]
    have hz2 : cvB y.toNat b = 0 := by rw [cvB_key y hy0, if_neg (by intro q; exact e q.2.symm)]
    refine hh.bet (std_bet hM.rd.symm (by rw [hM.rd]; exact hT.wj.1) (by rw [hM.rd]; exact hT.wm.1) ?_ ?_) (std_bet hM.rd hT.wj.1 hT.wm.1 ?_ ?_)
    · rw [hM.pt, hz1]; omega
    · rw [hM.vt, hz2]; omega
    · rw [hM.pt]
      have := cpB_nn hv.pt.1 b.song.toNat
      omega
    · rw [hM.vt]
      have := cvB_nn (b := b) b.song.toNat
      omega
end
theorem voters_le {n : Int} (hn : 0 ≤ n) {p : Voice → Bool} : ∀ {m : List (Voice × Int)}, (m.map (·.1)).Nodup → (∀ e, e ∈ m → p e.1 = true → 0 ≤ e.1.2.1 ∧ e.1.2.1 < n) → (∀ e e', e ∈ m → e' ∈ m → p e.1 = true → p e'.1 = true → e.1.2.1 = e'.1.2.1 → e.1 = e'.1) → ((m.map fun e => if p e.1 then (1 : Int) else 0).sum : Int) ≤ n := by
  intro m h1 h2 h3
  have e1 : ((m.map fun e => if p e.1 then (1 : Int) else 0).sum : Int) = ((m.filter fun e => p e.1).length : Int) := by
    clear h1 h2 h3
    induction m with
    | nil => rfl
    | cons e m ih =>
      simp only [List.map_cons, List.sum_cons, List.filter_cons, ih]
      split
      · simp only [List.length_cons]; omega
      · omega
  rw [e1]
  have hnd : ((m.filter fun e => p e.1).map fun e => e.1.2.1.toNat).Nodup := by
    have hm : (m.filter fun e => p e.1).Nodup := (nodup_of_map2 h1).sublist List.filter_sublist
    rw [List.nodup_iff_pairwise_ne, List.pairwise_map]
    rw [List.nodup_iff_pairwise_ne] at hm
    have hm1 : ((m.filter fun e => p e.1).map (·.1)).Nodup := h1.sublist (List.filter_sublist.map _)
    rw [List.nodup_iff_pairwise_ne, List.pairwise_map] at hm1
    refine List.Pairwise.imp_of_mem ?_ hm1
    intro a b ha hb hne e
    obtain ⟨a1, a2⟩ := List.mem_filter.1 ha
    obtain ⟨b1, b2⟩ := List.mem_filter.1 hb
    have q1 := h2 a a1 a2
    have q2 := h2 b b1 b2
    exact hne (h3 a b a1 b1 a2 b2 (by omega))
  have := nodup_len hnd (n := n.toNat) fun j hj => by
    obtain ⟨e, he, rfl⟩ := List.mem_map.1 hj
    obtain ⟨q1, q2⟩ := List.mem_filter.1 he
    have := h2 e q1 q2
    omega
  rw [List.length_map] at this
  omega
theorem free_nn {c : Contest} {l : List Ballot} {r : Rnd} {rd : Int} {ss : List Int} (hmb : 0 ≤ c.members) (hb : ∀ b, b ∈ l → BlV c b) : 0 ≤ freeT (countT r rd ss l) c := by
  have sp := voices_spec rd ss l l.length
  have he : ∀ e, e ∈ voices rd ss l l.length → ∃ b, b ∈ l ∧ e.1 = keyOf b := fun e h => by
    obtain ⟨k, b, _, _, h3, h4, _⟩ := sp.en e h
    exact ⟨b, List.mem_of_getElem? h3, h4⟩
  have := voters_le hmb (p := fun v => decide (v.1 = 2)) sp.nd (fun e h hp => by
    obtain ⟨b, h1, h2⟩ := he e h
    simp only [decide_eq_true_eq] at hp
    rw [h2] at hp ⊢
    have hk : b.kind = 2 := hp
    have := (hb b h1).vt
    rw [if_pos hk] at this
    exact this) (fun e e' h h' hp hp' heq => by
    obtain ⟨b, _, h2⟩ := he e h
    obtain ⟨b', _, h2'⟩ := he e' h'
    simp only [decide_eq_true_eq] at hp hp'
    rw [h2] at hp heq ⊢
    rw [h2'] at hp' heq ⊢
    have hk : b.kind = 2 := hp
    have hk' : b'.kind = 2 := hp'
    have hv : b.voter = b'.voter := heq
    unfold keyOf
    rw [if_pos hk, if_pos hk', hk, hk', hv])
  have e : (voices rd ss l l.length).map (fun e => gM e.1) = (voices rd ss l l.length).map fun e => if (fun v : Voice => decide (v.1 = 2)) e.1 then (1 : Int) else 0 := by
    refine List.map_congr_left fun e _ => ?_
    unfold gM
    by_cases h : e.1.1 = 2
    · simp [h]
    · simp [h]
  show 0 ≤ c.members - ((voices rd ss l l.length).map fun e => gM e.1).sum
  rw [e]
  exact Int.sub_nonneg.2 this
theorem open_nn {c : Contest} {l : List Ballot} {r : Rnd} {rd : Int} {ss : List Int} (hjr : 0 ≤ c.juries) (hms : 0 ≤ c.most) (hb : ∀ b, b ∈ l → BlV c b) (s : Int) : 0 ≤ openT (countT r rd ss l) c s := by
  have sp := voices_spec rd ss l l.length
  have he : ∀ e, e ∈ voices rd ss l l.length → ∃ b, b ∈ l ∧ e.1 = keyOf b := fun e h => by
    obtain ⟨k, b, _, _, h3, h4, _⟩ := sp.en e h
    exact ⟨b, List.mem_of_getElem? h3, h4⟩
  have := voters_le hjr (p := fun v => decide (v.1 = 1 ∧ v.2.2 = s)) sp.nd (fun e h hp => by
    obtain ⟨b, h1, h2⟩ := he e h
    simp only [decide_eq_true_eq] at hp
    rw [h2] at hp ⊢
    have hk : b.kind = 1 := hp.1
    have := (hb b h1).vt
    rw [if_neg (by omega)] at this
    exact this) (fun e e' h h' hp hp' heq => by
    obtain ⟨b, _, h2⟩ := he e h
    obtain ⟨b', _, h2'⟩ := he e' h'
    simp only [decide_eq_true_eq] at hp hp'
    refine Prod.ext (hp.1.trans hp'.1.symm) (Prod.ext heq (hp.2.trans hp'.2.symm)))
  have e : (voices rd ss l l.length).map (fun e => gJ s e.1) = (voices rd ss l l.length).map fun e => if (fun v : Voice => decide (v.1 = 1 ∧ v.2.2 = s)) e.1 then (1 : Int) else 0 := by
    refine List.map_congr_left fun e _ => ?_
    unfold gJ
    by_cases h : e.1.1 = 1 ∧ e.1.2.2 = s
    · simp [h]
    · rw [if_neg h]; simp [h]
  show 0 ≤ (c.juries - ((voices rd ss l l.length).map fun e => gJ s e.1).sum) * c.most
  rw [e]
  exact Int.mul_nonneg (Int.sub_nonneg.2 this) hms
theorem count_more {c : Contest} {l : List Ballot} {b : Ballot} {r : Rnd} {rd : Int} {ss : List Int} (hs : (l.map (·.serial)).Nodup) (hm : ∀ x, x ∈ l → x.serial < b.serial) (h : cntB (l ++ [b]) rd ss b = true) : MoreT c b (countT r rd ss l) (countT r rd ss (l ++ [b])) := by
  have hs' := nodup_snoc hs hm
  have hf : (l ++ [b]).filter (cntB (l ++ [b]) rd ss) = l.filter (cntB l rd ss) ++ [b] := by
    rw [List.filter_append]
    congr 1
    · exact List.filter_congr fun x hx => cntB_snoc (Int.le_of_lt (hm x hx))
    · rw [List.filter_cons, h]; rfl
  have hsum : ∀ f : Ballot → Int, sumB f (l ++ [b]) (voices rd ss (l ++ [b]) (l ++ [b]).length) (List.range (voices rd ss (l ++ [b]) (l ++ [b]).length).length) = sumB f l (voices rd ss l l.length) (List.range (voices rd ss l l.length).length) + f b := fun f => by
    rw [sumB_cnt hs, sumB_cnt hs', hf]
    simp
  have hg : ∀ g : Voice → Int, ((voices rd ss (l ++ [b]) (l ++ [b]).length).map fun e => g e.1).sum = ((voices rd ss l l.length).map fun e => g e.1).sum + g (keyOf b) := fun g => by
    rw [sig_m, sig_m, sum_perm (bal_perm hs), sum_perm (bal_perm hs'), hf]
    simp
  refine ⟨rfl, rfl, fun s => hsum _, fun s => hsum _, ?_, fun s => ?_⟩
  · show c.members - ((voices rd ss (l ++ [b]) (l ++ [b]).length).map fun e => gM e.1).sum = c.members - ((voices rd ss l l.length).map fun e => gM e.1).sum - gM (keyOf b)
    rw [hg]; omega
  · show (c.juries - ((voices rd ss (l ++ [b]) (l ++ [b]).length).map fun e => gJ s e.1).sum) * c.most = (c.juries - ((voices rd ss l l.length).map fun e => gJ s e.1).sum) * c.most - gJ s (keyOf b) * c.most
    rw [hg, ← Int.sub_mul]
    congr 1
    omega
theorem cntB_other {l : List Ballot} {b : Ballot} {rd : Int} {ss : List Int} (h : b.round ≠ rd) : cntB l rd ss b = false := by
  cases e : cntB l rd ss b with
  | false => rfl
  | true => exact absurd (cntB_round e) h
theorem more_at {l : List Ballot} {b : Ballot} (hs : (l.map (·.serial)).Nodup) (hm : ∀ x, x ∈ l → x.serial < b.serial) : ∀ (rs : List Rnd) (i : Nat) (ss : List Int) (k : Nat) (t : Tally), (rdsT l rs i ss)[k]? = some t → b.round = ((i + k : Nat) : Int) → ∃ t' r, (rdsT (l ++ [b]) rs i ss)[k]? = some t' ∧ t = countT r b.round t.songs l ∧ t' = countT r b.round t.songs (l ++ [b]) := by
  intro rs
  induction rs with
  | nil => intro i ss k t h; simp [rdsT] at h
  | cons r rs ih =>
    intro i ss k t h hk
    cases k with
    | zero =>
      simp only [rdsT, List.getElem?_cons_zero, Option.some.injEq] at h
      subst h
      rw [Nat.add_zero] at hk
      exact ⟨_, r, rfl, by rw [hk]; rfl, by rw [hk]; rfl⟩
    | succ k =>
      simp only [rdsT, List.getElem?_cons_succ] at h ⊢
      have hno : cntB (l ++ [b]) (i : Int) ss b = false := cntB_other (by omega)
      have hsg : sig (countT r i ss l) = sig (countT r i ss (l ++ [b])) := sig_count hs (nodup_snoc hs hm) (by rw [filter_snoc hm hno])
      rw [resT_sig hsg] at h
      exact ih (i + 1) _ k t h (by omega)
end Go.Proofs.Ytnolifglhhjdnaa
namespace Go.Proofs.Ytnolifglhhjdnaa
open Go
set_option maxRecDepth 100000
theorem toN_up (n : Nat) : Up (toN n) := by
  unfold Up toN
  rw [List.pairwise_map]
  exact List.pairwise_lt_range.imp fun h => by omega
theorem rdsT_up {l : List Ballot} : ∀ {rs : List Rnd} {i : Nat} {ss : List Int}, Up ss → ∀ t, t ∈ rdsT l rs i ss → Up t.songs := by
  intro rs
  induction rs with
  | nil => intro i ss _ t h; cases h
  | cons r rs ih =>
    intro i ss hu t h
    simp only [rdsT, List.mem_cons] at h
    rcases h with rfl | h
    · exact hu
    · refine ih ?_ t h
      exact kept_up (by rw [allT_song]; exact hu) _
theorem roundsT_up {c : Contest} {l : List Ballot} {t : Tally} (h : t ∈ roundsT c l) : Up t.songs := by
  refine rdsT_up ?_ t h
  exact toN_up _
theorem staysD_at {c : Contest} {l : List Ballot} {k : Nat} {t : Tally} (h : chkBls c l = 0) (ht : (roundsT c l)[k]? = some t) : staysD c l k = ((toI c.songs).map (staysV t c), 0) := by
  have hlt : k < c.rounds.length := by
    have := (List.getElem?_eq_some_iff.1 ht).1
    have e : (roundsT c l).length = c.rounds.length := rdsT_len
    omega
  unfold staysD
  rw [if_neg (by simp [h]), if_neg (by rw [inR_true.2 (by omega)]; simp), Int.toNat_natCast, ht]
theorem more_ok {c : Contest} {l : List Ballot} {b : Ballot} (hck : chkBls c l = 0) (hv : BlV c b) (hm : ∀ x, x ∈ l → x.serial < b.serial) (hl : l.length < 300) : chkBls c (l ++ [b]) = 0 ∧ (cntL c (l ++ [b]) b = false → runD c (l ++ [b]) = runD c l) ∧
    (cntL c (l ++ [b]) b = true → ∀ x y : Res, (resultsT c l)[b.round.toNat]? = some x → (resultsT c (l ++ [b]))[b.round.toNat]? = some y → b.song ∈ x.kept → b.song ∈ y.kept) ∧
    ∃ V W : List Int, staysD c l b.round = (V, 0) ∧ staysD c (l ++ [b]) b.round = (W, 0) ∧ V.length = c.songs.toNat ∧ W.length = c.songs.toNat ∧ ∀ (i : Nat) (v w : Int), V[i]? = some v → W[i]? = some w → v ≠ 3 → w = v := by
  obtain ⟨hV, hl3, hb, hn⟩ := blsV_of hck
  have hb2 : ∀ x, x ∈ l ++ [b] → BlV c x := fun x hx => by
    rcases List.mem_append.1 hx with h | h
    · exact hb x h
    · simp at h; rw [h]; exact hv
  have hcn : chkCn c = 0 := by
    unfold chkBls at hck
    split at hck
    · rename_i q; exact absurd hck q
    · rename_i q; simpa using q
  have hck2 : chkBls c (l ++ [b]) = 0 := chkBls_of hcn (by simp; omega) hb2 (nodup_snoc hn hm)
  obtain ⟨k, hk⟩ : ∃ z : Nat, b.round = z := ⟨b.round.toNat, by have := hv.rd; omega⟩
  have hkl : k < (roundsT c l).length := by
    have e : (roundsT c l).length = c.rounds.length := rdsT_len
    have := hv.rd
    omega
  obtain ⟨t, ht⟩ : ∃ z, (roundsT c l)[k]? = some z := ⟨(roundsT c l)[k], by simp [hkl]⟩
  obtain ⟨t', r, ht', e1, e2⟩ := more_at hn hm c.rounds 0 (toI c.songs) k t ht (by rw [hk]; simp)
  have hmem := List.mem_of_getElem? ht
  have hmem' : t' ∈ roundsT c (l ++ [b]) := List.mem_of_getElem? ht'
  have hT := roundsT_b hV hl3 hb t hmem
  have hT' := roundsT_b hV (by simp; omega) hb2 t' hmem'
  have hu := roundsT_up hmem
  have hss : t'.songs = t.songs := by rw [e2]; rfl
  have hcl : cntL c (l ++ [b]) b = cntB (l ++ [b]) b.round t.songs b := by
    rw [cntL_at ht' hk, hss, hk]
  refine ⟨hck2, fun h => ?_, fun h x y hx hy hmk => ?_, (toI c.songs).map (staysV t c), (toI c.songs).map (staysV t' c), by rw [hk]; exact staysD_at hck ht, by rw [hk]; exact staysD_at hck2 ht', by simp [toI], by simp [toI], fun i v w hv1 hw hne => ?_⟩
  · refine (run_sig (rdsT_sig hn (nodup_snoc hn hm) _ _ _ fun j u hu2 => ?_) hck hck2).symm
    rw [Nat.zero_add, filter_snoc hm]
    by_cases hj : j = k
    · subst hj
      have : u = t := by rw [show (rdsT l c.rounds 0 (toI c.songs))[j]? = some t from ht] at hu2; injection hu2 with q; exact q.symm
      rw [this, ← hk, ← hcl]
      exact h
    · exact cntB_other (by rw [hk]; omega)
  · rw [hcl] at h
    have hM := count_more (c := c) (r := r) hn hm h
    rw [← e1, ← e2] at hM
    rw [hk, Int.toNat_natCast] at hx hy
    have hx2 : x = resT t := by
      unfold resultsT at hx
      rw [List.getElem?_map, ht] at hx
      simpa using hx.symm
    have hy2 : y = resT t' := by
      unfold resultsT at hy
      rw [List.getElem?_map, show (roundsT c (l ++ [b]))[k]? = some t' from ht'] at hy
      simpa using hy.symm
    rw [hx2] at hmk
    rw [hy2]
    exact kept_more hM hT hv hu hmk
  · rw [List.getElem?_map] at hv1 hw
    cases hi : (toI c.songs)[i]? with
    | none => rw [hi] at hv1; cases hv1
    | some s =>
      rw [hi] at hv1 hw
      simp only [Option.map_some, Option.some.injEq] at hv1 hw
      subst hv1 hw
      have hs0 : 0 ≤ s := by
        have := List.mem_of_getElem? hi
        obtain ⟨q, _, rfl⟩ := List.mem_map.1 this
        omega
      by_cases hc : cntB (l ++ [b]) b.round t.songs b = true
      · have hM := count_more (c := c) (r := r) hn hm hc
        rw [← e1, ← e2] at hM
        refine stays_more hM hT hT' hv hV.ms.1 hu.nodup ?_ ?_ hs0 hne
        · rw [e2]; exact free_nn hV.mb.1 hb2
        · intro s; rw [e2]; exact open_nn hV.jr.1 hV.ms.1 hb2 s
      · have hsg : sig t = sig t' := by
          rw [e1, e2]
          exact sig_count hn (nodup_snoc hn hm) (by rw [filter_snoc hm (by simpa using hc)])
        exact (staysV_sig hsg c s).symm
end Go.Proofs.Ytnolifglhhjdnaa
namespace Go.Proofs.Ytnolifglhhjdnaa
open Go Go.RowKit
set_option maxRecDepth 100000
set_option maxHeartbeats 8000000 in
theorem ContestOf_pc (Y : YEnv) (σ : Sg) (d : Nat) (b : Int) (hd : σ.store[d]? = some (some [.int .u64 b])) (songs juries members : Int) (h1 : 1 ≤ songs ∧ songs ≤ 1000) (h2 : 0 ≤ juries ∧ juries ≤ 1000) (h3 : 0 ≤ members ∧ members ≤ 1000) :
    PC Try.prog Y 11 [.ptr d 0, I songs, I juries, I members] σ (cnPV (contestD songs juries members b).1) (σ.setVar d [.int .u64 (contestD songs juries members b).2]) := by
  refine PC_of_W Try.func11 rfl (by kernel_rfl) Try.ntmps11 (by simp) fun hcl hca => ?_
  have hlt := lt_of_get hd
  obtain ⟨s, hs⟩ : ∃ zz, (mid 1 songs b).1 = zz := ⟨_, rfl⟩
  obtain ⟨b1, hb1⟩ : ∃ zz, (mid 1 songs b).2 = zz := ⟨_, rfl⟩
  have ds := mid_bd 1 songs h1.1 b
  simp only [hs] at ds
  obtain ⟨j, hj⟩ : ∃ zz, (roll (juries + 1) b1).1 = zz := ⟨_, rfl⟩
  obtain ⟨b2, hb2⟩ : ∃ zz, (roll (juries + 1) b1).2 = zz := ⟨_, rfl⟩
  have dj := roll_bd (juries + 1) b1
  simp only [hj] at dj
  obtain ⟨m, hm⟩ : ∃ zz, (roll (members + 1) b2).1 = zz := ⟨_, rfl⟩
  obtain ⟨b3, hb3⟩ : ∃ zz, (roll (members + 1) b2).2 = zz := ⟨_, rfl⟩
  have dm := roll_bd (members + 1) b2
  simp only [hm] at dm
  obtain ⟨mo, hmo⟩ : ∃ zz, (anyOf [0, 2, 10] b3).1 = zz := ⟨_, rfl⟩
  obtain ⟨b4, hb4⟩ : ∃ zz, (anyOf [0, 2, 10] b3).2 = zz := ⟨_, rfl⟩
  have dmo := anyOf_mem [0, 2, 10] (by simp) b3
  simp only [hmo] at dmo
  obtain ⟨kz, hkz⟩ : ∃ zz, (mid 1 3 b4).1 = zz := ⟨_, rfl⟩
  obtain ⟨b5, hb5⟩ : ∃ zz, (mid 1 3 b4).2 = zz := ⟨_, rfl⟩
  have dkz := mid_bd 1 3 (by omega) b4
  simp only [hkz] at dkz
  obtain ⟨kn, hkn⟩ : ∃ z : Nat, kz = z := ⟨kz.toNat, by omega⟩
  subst hkn
  obtain ⟨rs, hrs⟩ : ∃ z, roundsC kn s [] b5 = z := ⟨_, rfl⟩
  have hdef : contestD songs juries members b = (⟨s, j, m, mo, rs.1⟩, rs.2) := by simp only [contestD, dbind, dret, hs, hb1, hj, hb2, hm, hb3, hmo, hb4, hkz, hb5, Int.toNat_natCast, hrs]
  rw [hdef]
  refine W_seq fun kz1 kq1 => ?_
  refine W_region [0, 1, 2, 3, 8] fun R hR => ?_   -- r0
  simp only [go_sem, ldS_at hd, stX_at hd, ldS_sv hlt, stX_sv hlt, sv_ext hlt, sv_ext_sv hlt, hs, hb1, hj, hb2, hm, hb3, hmo, hb4, hkz, hb5]
  refine hR _ _ (kq1 _ _ ?_); clear hR R; try clear kq1 kz1
  try simp only [go_sem, ldS_at hd, stX_at hd, ldS_sv hlt, stX_sv hlt, sv_ext hlt, sv_ext_sv hlt, hs, hb1, hj, hb2, hm, hb3, hmo, hb4, hkz, hb5]
  refine W_seq fun kz2 kq2 => ?_
  refine W_region [0, 8, 9] fun R hR => ?_   -- r1
  simp only [go_sem, ldS_at hd, stX_at hd, ldS_sv hlt, stX_sv hlt, sv_ext hlt, sv_ext_sv hlt, hs, hb1, hj, hb2, hm, hb3, hmo, hb4, hkz, hb5]
  refine GCall_of (Mid_pc Y _ d b (by first | exact hd | exact sv_get hlt | exact get_svx hlt | exact get_extx hd) 1 songs (by omega) (by omega) (by omega) (by omega)) ?_   -- t14
  simp only [go_sem, ldS_at hd, stX_at hd, ldS_sv hlt, stX_sv hlt, sv_ext hlt, sv_ext_sv hlt, hs, hb1, hj, hb2, hm, hb3, hmo, hb4, hkz, hb5]
  try simp (disch := omega) only [wrapI]
  try simp (disch := omega) only [wrapI, wrapU]
  refine GCall_of (Roll_pc Y _ d b1 (by first | exact hd | exact sv_get hlt | exact get_svx hlt | exact get_extx hd) (juries + 1) (by omega)) ?_   -- t18
  simp only [go_sem, ldS_at hd, stX_at hd, ldS_sv hlt, stX_sv hlt, sv_ext hlt, sv_ext_sv hlt, hs, hb1, hj, hb2, hm, hb3, hmo, hb4, hkz, hb5]
  try simp (disch := omega) only [wrapI]
  try simp (disch := omega) only [wrapI, wrapU]
  refine GCall_of (Roll_pc Y _ d b2 (by first | exact hd | exact sv_get hlt | exact get_svx hlt | exact get_extx hd) (members + 1) (by omega)) ?_   -- t22
  simp only [go_sem, ldS_at hd, stX_at hd, ldS_sv hlt, stX_sv hlt, sv_ext hlt, sv_ext_sv hlt, hs, hb1, hj, hb2, hm, hb3, hmo, hb4, hkz, hb5]
  try simp (disch := omega) only [wrapI, wrapU]
  refine GCall_of (Any_pc Y _ d b3 (by first | exact hd | exact sv_get hlt | exact get_svx hlt | exact get_extx hd) [0, 2, 10] (by simp) (by simp)) ?_   -- t25
  simp only [go_sem, ldS_at hd, stX_at hd, ldS_sv hlt, stX_sv hlt, sv_ext hlt, sv_ext_sv hlt, hs, hb1, hj, hb2, hm, hb3, hmo, hb4, hkz, hb5]
  try simp (disch := omega) only [wrapI, wrapU]
  refine hR _ _ (kq2 _ _ ?_); clear hR R; try clear kq2 kz2
  try simp only [go_sem, ldS_at hd, stX_at hd, ldS_sv hlt, stX_sv hlt, sv_ext hlt, sv_ext_sv hlt, hs, hb1, hj, hb2, hm, hb3, hmo, hb4, hkz, hb5]
  refine W_seq fun kz3 kq3 => ?_
  refine W_region [0, 8, 9, 10] fun R hR => ?_   -- r2
  simp only [go_sem, ldS_at hd, stX_at hd, ldS_sv hlt, stX_sv hlt, sv_ext hlt, sv_ext_sv hlt, hs, hb1, hj, hb2, hm, hb3, hmo, hb4, hkz, hb5]
  refine hR _ _ (kq3 _ _ ?_); clear hR R; try clear kq3 kz3
  try simp only [go_sem, ldS_at hd, stX_at hd, ldS_sv hlt, stX_sv hlt, sv_ext hlt, sv_ext_sv hlt, hs, hb1, hj, hb2, hm, hb3, hmo, hb4, hkz, hb5]
  refine W_seq fun kz4 kq4 => ?_
  refine W_seq fun kz5 kq5 => ?_
  refine W_region [0, 8, 9, 10, 11] fun R hR => ?_   -- r3
  simp only [go_sem, ldS_at hd, stX_at hd, ldS_sv hlt, stX_sv hlt, sv_ext hlt, sv_ext_sv hlt, hs, hb1, hj, hb2, hm, hb3, hmo, hb4, hkz, hb5]
  refine GCall_of (Mid_pc Y _ d b4 (by first | exact hd | exact sv_get hlt | exact get_svx hlt | exact get_extx hd) 1 3 (by omega) (by omega) (by omega) (by omega)) ?_   -- t30
  simp only [go_sem, ldS_at hd, stX_at hd, ldS_sv hlt, stX_sv hlt, sv_ext hlt, sv_ext_sv hlt, hs, hb1, hj, hb2, hm, hb3, hmo, hb4, hkz, hb5]
  refine hR _ _ (kq5 _ _ ?_); clear hR R; try clear kq5 kz5
  try simp only [go_sem, ldS_at hd, stX_at hd, ldS_sv hlt, stX_sv hlt, sv_ext hlt, sv_ext_sv hlt, hs, hb1, hj, hb2, hm, hb3, hmo, hb4, hkz, hb5]
  refine W_block ?_
  refine W_weak (Weak.roomSV (j := 1) (off := 4) (es := 3) rfl rfl (by simp)) ?_
  simp only [go_sem, ldS_at hd, stX_at hd, ldS_sv hlt, stX_sv hlt, sv_ext hlt, sv_ext_sv hlt, hs, hb1, hj, hb2, hm, hb3, hmo, hb4, hkz, hb5]
  refine W_loopT (α := Nat × Int × (List Rnd) × Int) (fun ⟨k, kp, acc, bb⟩ => [(10, I kp), (11, I k)]) (fun ⟨k, kp, acc, bb⟩ => (σ.setVar d [.int .u64 bb]).ext [some [I 0, I 0, I 0, I 0, .isl [] .exact], some [I s, I j, I m, I mo, .isl (acc.map rdPV) (.tok σ.rooms.length acc.length 3)]] [acc.length]) (fun ⟨k, kp, acc, bb⟩ => (1 ≤ kp ∧ kp ≤ 1000) ∧ acc.length + k = kn ∧ roundsC k kp acc bb = rs) (fun ⟨k, kp, acc, bb⟩ => k) ((kn, s, [], b5)) rfl (by first | rfl | (simp only [go_sem]; done) | (simp only [go_sem]; rfl)) (⟨by omega, by simp, hrs⟩) ?_
  rintro ⟨k, kp, acc, bb⟩ ⟨hkp, hal, hinv⟩
  refine W_seq fun kz6 kq6 => ?_
  refine W_seq fun kz7 kq7 => ?_
  refine W_region [0, 8, 9, 10, 11, 32] fun R hR => ?_   -- r4
  simp only [go_sem, ldS_at hd, stX_at hd, ldS_sv hlt, stX_sv hlt, sv_ext hlt, sv_ext_sv hlt, hs, hb1, hj, hb2, hm, hb3, hmo, hb4, hkz, hb5]
  refine hR _ _ (kq7 _ _ ?_); clear hR R; try clear kq7 kz7
  try simp only [go_sem, ldS_at hd, stX_at hd, ldS_sv hlt, stX_sv hlt, sv_ext hlt, sv_ext_sv hlt, hs, hb1, hj, hb2, hm, hb3, hmo, hb4, hkz, hb5]
  refine W_cond rfl (fun c1 => ?_) (fun c1 => ?_)
  · -- c1 true
    try simp only [nrm] at c1
    obtain ⟨k, rfl⟩ : ∃ z, k = z + 1 := ⟨k - 1, by first | omega | (simp at c1; omega)⟩
    simp only [roundsC] at hinv
    have hk1 : ((k + 1 : Nat) : Int) - 1 = (k : Int) := by omega
    refine W_skip (kq6 _ _ ?_)
    refine W_seq fun kz8 kq8 => ?_
    refine W_block ?_
    refine W_seq fun kz9 kq9 => ?_
    refine W_seq fun kz10 kq10 => ?_
    refine W_region [0, 8, 9, 10, 11, 36] fun R hR => ?_   -- r6
    simp only [go_sem, ldS_at hd, stX_at hd, ldS_sv hlt, stX_sv hlt, sv_ext hlt, sv_ext_sv hlt, hs, hb1, hj, hb2, hm, hb3, hmo, hb4, hkz, hb5]
    refine hR _ _ (kq10 _ _ ?_); clear hR R; try clear kq10 kz10
    try simp only [go_sem, ldS_at hd, stX_at hd, ldS_sv hlt, stX_sv hlt, sv_ext hlt, sv_ext_sv hlt, hs, hb1, hj, hb2, hm, hb3, hmo, hb4, hkz, hb5]
    refine W_cond rfl (fun c2 => ?_) (fun c2 => ?_)
    · -- c2 true
      try simp only [nrm] at c2
      have hk0 : k = 0 := by omega
      subst hk0
      rw [if_pos rfl] at hinv
      obtain ⟨bq, rfl⟩ : ∃ z, z = bb := ⟨bb, rfl⟩
      obtain ⟨ra, hra⟩ : ∃ zz, (roll 4 bq).1 = zz := ⟨_, rfl⟩
      obtain ⟨b8, hb8⟩ : ∃ zz, (roll 4 bq).2 = zz := ⟨_, rfl⟩
      have dra := roll_bd 4 bq
      simp only [hra] at dra
      obtain ⟨rb, hrb⟩ : ∃ zz, (roll 5 b8).1 = zz := ⟨_, rfl⟩
      obtain ⟨b9, hb9⟩ : ∃ zz, (roll 5 b8).2 = zz := ⟨_, rfl⟩
      have drb := roll_bd 5 b8
      simp only [hrb] at drb
      simp only [dbind, hra, hb8, hrb, hb9] at hinv
      refine W_region [0, 8, 9, 10, 11] fun R hR => ?_   -- r7
      simp only [go_sem, ldS_at hd, stX_at hd, ldS_sv hlt, stX_sv hlt, sv_ext hlt, sv_ext_sv hlt, hs, hb1, hj, hb2, hm, hb3, hmo, hb4, hkz, hb5, hra, hb8, hrb, hb9]
      refine hR _ _ (kq9 _ _ ?_); clear hR R; try clear kq9 kz9
      try simp only [go_sem, ldS_at hd, stX_at hd, ldS_sv hlt, stX_sv hlt, sv_ext hlt, sv_ext_sv hlt, hs, hb1, hj, hb2, hm, hb3, hmo, hb4, hkz, hb5, hra, hb8, hrb, hb9]
      refine W_draw [0, 8, 9, 10, 11] [0, 1, 2, 3, 4, 5, 6, 7, 8, 9, 10, 11] [(0, 6), (0, 9), (1, 6), (1, 9), (2, 6), (2, 9), (5, 4)] [[], [0], [], [], [3], [], [3, 4, 5], [2, 3, 4, 5, 6], [2, 3, 4, 5, 6, 7], [0, 1, 2, 3, 4, 5, 6, 7, 8], [0, 1, 2, 3, 4, 5, 6, 7, 8, 9], [0, 1, 2, 3, 4, 5, 6, 7, 8, 9, 10]] mixed (by kernel_rfl) fun R hR => ?_   -- r9
      simp only [go_sem, ldS_at hd, stX_at hd, ldS_sv hlt, stX_sv hlt, sv_ext hlt, sv_ext_sv hlt, hs, hb1, hj, hb2, hm, hb3, hmo, hb4, hkz, hb5, hra, hb8, hrb, hb9]
      refine GCall_of (Roll_pc Y _ d bq (by first | exact hd | exact sv_get hlt | exact get_svx hlt | exact get_extx hd) 4 (by omega)) ?_   -- t44
      simp only [go_sem, ldS_at hd, stX_at hd, ldS_sv hlt, stX_sv hlt, sv_ext hlt, sv_ext_sv hlt, hs, hb1, hj, hb2, hm, hb3, hmo, hb4, hkz, hb5, hra, hb8, hrb, hb9]
      refine GCall_of (Roll_pc Y _ d b8 (by first | exact hd | exact sv_get hlt | exact get_svx hlt | exact get_extx hd) 5 (by omega)) ?_   -- t46
      simp only [go_sem, ldS_at hd, stX_at hd, ldS_sv hlt, stX_sv hlt, sv_ext hlt, sv_ext_sv hlt, hs, hb1, hj, hb2, hm, hb3, hmo, hb4, hkz, hb5, hra, hb8, hrb, hb9]
      try simp (disch := first | omega | (simp only [go_sem] <;> omega)) only [wrapI, wrapU, appX_exact, appX_tok]
      try simp only [go_sem, ldS_at hd, stX_at hd, ldS_sv hlt, stX_sv hlt, sv_ext hlt, sv_ext_sv hlt, hs, hb1, hj, hb2, hm, hb3, hmo, hb4, hkz, hb5, hra, hb8, hrb, hb9]
      try refine And.intro (by repeat' (first | refine And.intro ?_ ?_ | exact GOr_right (fun _ => by simp only [go_sem, ldS_at hd, stX_at hd, ldS_sv hlt, stX_sv hlt, sv_ext hlt, sv_ext_sv hlt, hs, hb1, hj, hb2, hm, hb3, hmo, hb4, hkz, hb5, hra, hb8, hrb, hb9]))) ?_
      refine hR _ _ (kq8 _ _ ?_); clear hR R; try clear kq8 kz8
      try simp only [go_sem, ldS_at hd, stX_at hd, ldS_sv hlt, stX_sv hlt, sv_ext hlt, sv_ext_sv hlt, hs, hb1, hj, hb2, hm, hb3, hmo, hb4, hkz, hb5, hra, hb8, hrb, hb9]
      refine W_region [0, 8, 9, 10, 11] fun R hR => ?_   -- r5
      simp only [go_sem, ldS_at hd, stX_at hd, ldS_sv hlt, stX_sv hlt, sv_ext hlt, sv_ext_sv hlt, hs, hb1, hj, hb2, hm, hb3, hmo, hb4, hkz, hb5, hra, hb8, hrb, hb9]
      try simp (disch := omega) only [wrapI, wrapU]
      refine hR _ _ ?_; clear hR R
      try simp only [go_sem, ldS_at hd, stX_at hd, ldS_sv hlt, stX_sv hlt, sv_ext hlt, sv_ext_sv hlt, hs, hb1, hj, hb2, hm, hb3, hmo, hb4, hkz, hb5, hra, hb8, hrb, hb9]
      refine ⟨(0, 1, acc ++ [⟨1, ra, rb⟩], b9), ?_, by (try simp only []); omega, ?_⟩
      · refine Weak.eq ?_ ?_
        · first | (simp only [hk1, List.map_append, List.map_cons, List.map_nil, List.length_append, List.length_cons, List.length_nil]; first | done | rfl) | (simp only [List.map_append, List.map_cons, List.map_nil, List.length_append, List.length_cons, List.length_nil]; first | done | rfl)
        · simp only [List.map_append, List.map_cons, List.map_nil, List.length_append, List.length_cons, List.length_nil]; first | done | rfl
      · try dsimp only
        exact ⟨by omega, by simp; omega, hinv⟩
    · -- c2 false
      try simp only [nrm] at c2
      rw [if_neg (by omega)] at hinv
      obtain ⟨kq, hkq⟩ : ∃ zz, (mid 1 kp bb).1 = zz := ⟨_, rfl⟩
      obtain ⟨bq, hbq⟩ : ∃ zz, (mid 1 kp bb).2 = zz := ⟨_, rfl⟩
      have dkq := mid_bd 1 kp hkp.1 bb
      simp only [hkq] at dkq
      obtain ⟨ra, hra⟩ : ∃ zz, (roll 4 bq).1 = zz := ⟨_, rfl⟩
      obtain ⟨b8, hb8⟩ : ∃ zz, (roll 4 bq).2 = zz := ⟨_, rfl⟩
      have dra := roll_bd 4 bq
      simp only [hra] at dra
      obtain ⟨rb, hrb⟩ : ∃ zz, (roll 5 b8).1 = zz := ⟨_, rfl⟩
      obtain ⟨b9, hb9⟩ : ∃ zz, (roll 5 b8).2 = zz := ⟨_, rfl⟩
      have drb := roll_bd 5 b8
      simp only [hrb] at drb
      simp only [dbind, hkq, hbq, hra, hb8, hrb, hb9] at hinv
      refine W_region [0, 8, 9, 10, 11] fun R hR => ?_   -- r8
      simp only [go_sem, ldS_at hd, stX_at hd, ldS_sv hlt, stX_sv hlt, sv_ext hlt, sv_ext_sv hlt, hs, hb1, hj, hb2, hm, hb3, hmo, hb4, hkz, hb5, hkq, hbq, hra, hb8, hrb, hb9]
      refine GCall_of (Mid_pc Y _ d bb (by first | exact hd | exact sv_get hlt | exact get_svx hlt | exact get_extx hd) 1 kp (by omega) (by omega) (by omega) (by omega)) ?_   -- t39
      simp only [go_sem, ldS_at hd, stX_at hd, ldS_sv hlt, stX_sv hlt, sv_ext hlt, sv_ext_sv hlt, hs, hb1, hj, hb2, hm, hb3, hmo, hb4, hkz, hb5, hkq, hbq, hra, hb8, hrb, hb9]
      refine hR _ _ (kq9 _ _ ?_); clear hR R; try clear kq9 kz9
      try simp only [go_sem, ldS_at hd, stX_at hd, ldS_sv hlt, stX_sv hlt, sv_ext hlt, sv_ext_sv hlt, hs, hb1, hj, hb2, hm, hb3, hmo, hb4, hkz, hb5, hkq, hbq, hra, hb8, hrb, hb9]
      refine W_draw [0, 8, 9, 10, 11] [0, 1, 2, 3, 4, 5, 6, 7, 8, 9, 10, 11] [(0, 6), (0, 9), (1, 6), (1, 9), (2, 6), (2, 9), (5, 4)] [[], [0], [], [], [3], [], [3, 4, 5], [2, 3, 4, 5, 6], [2, 3, 4, 5, 6, 7], [0, 1, 2, 3, 4, 5, 6, 7, 8], [0, 1, 2, 3, 4, 5, 6, 7, 8, 9], [0, 1, 2, 3, 4, 5, 6, 7, 8, 9, 10]] mixed (by kernel_rfl) fun R hR => ?_   -- r9
      simp only [go_sem, ldS_at hd, stX_at hd, ldS_sv hlt, stX_sv hlt, sv_ext hlt, sv_ext_sv hlt, hs, hb1, hj, hb2, hm, hb3, hmo, hb4, hkz, hb5, hkq, hbq, hra, hb8, hrb, hb9]
      refine GCall_of (Roll_pc Y _ d bq (by first | exact hd | exact sv_get hlt | exact get_svx hlt | exact get_extx hd) 4 (by omega)) ?_   -- t44
      simp only [go_sem, ldS_at hd, stX_at hd, ldS_sv hlt, stX_sv hlt, sv_ext hlt, sv_ext_sv hlt, hs, hb1, hj, hb2, hm, hb3, hmo, hb4, hkz, hb5, hkq, hbq, hra, hb8, hrb, hb9]
      refine GCall_of (Roll_pc Y _ d b8 (by first | exact hd | exact sv_get hlt | exact get_svx hlt | exact get_extx hd) 5 (by omega)) ?_   -- t46
      simp only [go_sem, ldS_at hd, stX_at hd, ldS_sv hlt, stX_sv hlt, sv_ext hlt, sv_ext_sv hlt, hs, hb1, hj, hb2, hm, hb3, hmo, hb4, hkz, hb5, hkq, hbq, hra, hb8, hrb, hb9]
      try simp (disch := first | omega | (simp only [go_sem] <;> omega)) only [wrapI, wrapU, appX_exact, appX_tok]
      try simp only [go_sem, ldS_at hd, stX_at hd, ldS_sv hlt, stX_sv hlt, sv_ext hlt, sv_ext_sv hlt, hs, hb1, hj, hb2, hm, hb3, hmo, hb4, hkz, hb5, hkq, hbq, hra, hb8, hrb, hb9]
      try refine And.intro (by repeat' (first | refine And.intro ?_ ?_ | exact GOr_right (fun _ => by simp only [go_sem, ldS_at hd, stX_at hd, ldS_sv hlt, stX_sv hlt, sv_ext hlt, sv_ext_sv hlt, hs, hb1, hj, hb2, hm, hb3, hmo, hb4, hkz, hb5, hkq, hbq, hra, hb8, hrb, hb9]))) ?_
      refine hR _ _ (kq8 _ _ ?_); clear hR R; try clear kq8 kz8
      try simp only [go_sem, ldS_at hd, stX_at hd, ldS_sv hlt, stX_sv hlt, sv_ext hlt, sv_ext_sv hlt, hs, hb1, hj, hb2, hm, hb3, hmo, hb4, hkz, hb5, hkq, hbq, hra, hb8, hrb, hb9]
      refine W_region [0, 8, 9, 10, 11] fun R hR => ?_   -- r5
      simp only [go_sem, ldS_at hd, stX_at hd, ldS_sv hlt, stX_sv hlt, sv_ext hlt, sv_ext_sv hlt, hs, hb1, hj, hb2, hm, hb3, hmo, hb4, hkz, hb5, hkq, hbq, hra, hb8, hrb, hb9]
      try simp (disch := omega) only [wrapI, wrapU]
      refine hR _ _ ?_; clear hR R
      try simp only [go_sem, ldS_at hd, stX_at hd, ldS_sv hlt, stX_sv hlt, sv_ext hlt, sv_ext_sv hlt, hs, hb1, hj, hb2, hm, hb3, hmo, hb4, hkz, hb5, hkq, hbq, hra, hb8, hrb, hb9]
      refine ⟨(k, kq, acc ++ [⟨kq, ra, rb⟩], b9), ?_, by (try simp only []); omega, ?_⟩
      · refine Weak.eq ?_ ?_
        · first | (simp only [hk1, List.map_append, List.map_cons, List.map_nil, List.length_append, List.length_cons, List.length_nil]; first | done | rfl) | (simp only [List.map_append, List.map_cons, List.map_nil, List.length_append, List.length_cons, List.length_nil]; first | done | rfl)
        · simp only [List.map_append, List.map_cons, List.map_nil, List.length_append, List.length_cons, List.length_nil]; first | done | rfl
      · try dsimp only
        exact ⟨by omega, by simp; omega, hinv⟩
  · -- c1 false
    try simp only [nrm] at c1
    have hke : k = 0 := by first | omega | (simp at c1; omega)
    subst hke
    simp only [roundsC, dret] at hinv
    refine W_exit ?_
    simp only [go_sem, ldS_at hd, stX_at hd, ldS_sv hlt, stX_sv hlt, sv_ext hlt, sv_ext_sv hlt, hs, hb1, hj, hb2, hm, hb3, hmo, hb4, hkz, hb5]
    refine kq4 _ _ ?_
    refine W_seq fun kz11 kq11 => ?_
    refine W_region [8] fun R hR => ?_   -- r10
    simp only [go_sem, ldS_at hd, stX_at hd, ldS_sv hlt, stX_sv hlt, sv_ext hlt, sv_ext_sv hlt, hs, hb1, hj, hb2, hm, hb3, hmo, hb4, hkz, hb5]
    refine hR _ _ (kq11 _ _ ?_); clear hR R; try clear kq11 kz11
    try simp only [go_sem, ldS_at hd, stX_at hd, ldS_sv hlt, stX_sv hlt, sv_ext hlt, sv_ext_sv hlt, hs, hb1, hj, hb2, hm, hb3, hmo, hb4, hkz, hb5]
    refine W_ret ?_
    simp only [go_sem, ldS_at hd, stX_at hd, ldS_sv hlt, stX_sv hlt, sv_ext hlt, sv_ext_sv hlt, hs, hb1, hj, hb2, hm, hb3, hmo, hb4, hkz, hb5]
    refine ⟨.inr (by trivial), ?_⟩
    rw [← hinv]; refine Fin_set hcl (by simp only [go_sem]) (by show resPV Try.prog _ _ [.cell 8 27] = some _; simp only [resPV, go_sem]; rfl) (Wk.ro (by simp only [go_sem]) ?_)
    try simp only [go_sem]
    all_goals
      first | done | rfl | simp only [go_sem]
set_option maxHeartbeats 16000000 in
theorem BallotsOf_pc (Y : YEnv) (σ : Sg) (d : Nat) (b : Int) (hd : σ.store[d]? = some (some [.int .u64 b])) (c : Contest) (songs juries members most : Int) (hc : CnMade c songs juries members) (h1 : songs ≤ 1000 ∧ juries ≤ 1000 ∧ members ≤ 1000) (hm : 0 ≤ most ∧ most ≤ 1000) :
    PC Try.prog Y 13 [.ptr d 0, cnPV c, I most] σ (bls (ballotsD c most b).1) (σ.setVar d [.int .u64 (ballotsD c most b).2]) := by
  refine PC_of_W Try.func13 rfl (by kernel_rfl) Try.ntmps13 (by simp) fun hcl hca => ?_
  have hlt := lt_of_get hd
  have hsg := hc.sg
  have hjr := hc.jr
  have hmb := hc.mb
  have hms := hc.ms
  have hrl := hc.rl
  have hwjm : IntKind.i64.wrap (c.juries + c.members) = c.juries + c.members := wrapI (by omega) (by omega)
  obtain ⟨res, hres⟩ : ∃ r, ballotsD c most b = r := ⟨_, rfl⟩
  rw [hres]
  refine W_seq fun kz1 kq1 => ?_
  refine W_region [0, 2, 4] fun R hR => ?_   -- r0
  simp only [go_sem, ldS_at hd, stX_at hd, ldS_sv hlt, stX_sv hlt, sv_ext hlt, sv_ext_sv hlt]
  refine hR _ _ (kq1 _ _ ?_); clear hR R; try clear kq1 kz1
  try simp only [go_sem, ldS_at hd, stX_at hd, ldS_sv hlt, stX_sv hlt, sv_ext hlt, sv_ext_sv hlt]
  refine W_seq fun kz2 kq2 => ?_
  refine W_region [0, 2, 4, 7] fun R hR => ?_   -- r1
  simp only [go_sem, ldS_at hd, stX_at hd, ldS_sv hlt, stX_sv hlt, sv_ext hlt, sv_ext_sv hlt]
  refine hR _ _ (kq2 _ _ ?_); clear hR R; try clear kq2 kz2
  try simp only [go_sem, ldS_at hd, stX_at hd, ldS_sv hlt, stX_sv hlt, sv_ext hlt, sv_ext_sv hlt]
  refine W_seq fun kz3 kq3 => ?_
  refine W_seq fun kz4 kq4 => ?_
  refine W_region [0, 2, 4, 7, 17] fun R hR => ?_   -- r2
  simp only [go_sem, ldS_at hd, stX_at hd, ldS_sv hlt, stX_sv hlt, sv_ext hlt, sv_ext_sv hlt, hwjm]
  try simp (disch := omega) only [wrapI, wrapU]
  refine hR _ _ (kq4 _ _ ?_); clear hR R; try clear kq4 kz4
  try simp only [go_sem, ldS_at hd, stX_at hd, ldS_sv hlt, stX_sv hlt, sv_ext hlt, sv_ext_sv hlt]
  refine W_cond rfl (fun c1 => ?_) (fun c1 => ?_)
  · -- c1 true
    try simp only [nrm] at c1
    have hr0 : res = ([], b) := by rw [← hres]; unfold ballotsD; rw [if_pos c1]; rfl
    refine W_seq fun kz5 kq5 => ?_
    refine W_region [6] fun R hR => ?_   -- r3
    simp only [go_sem, ldS_at hd, stX_at hd, ldS_sv hlt, stX_sv hlt, sv_ext hlt, sv_ext_sv hlt]
    refine hR _ _ (kq5 _ _ ?_); clear hR R; try clear kq5 kz5
    try simp only [go_sem, ldS_at hd, stX_at hd, ldS_sv hlt, stX_sv hlt, sv_ext hlt, sv_ext_sv hlt]
    refine W_ret ?_
    simp only [go_sem, ldS_at hd, stX_at hd, ldS_sv hlt, stX_sv hlt, sv_ext hlt, sv_ext_sv hlt]
    refine ⟨.inr (by trivial), ?_⟩
    rw [hr0]; simp only [sv_self hd]; refine Fin_same hcl rfl (Wk.ro (by simp only [go_sem]) ?_)
    try simp only [go_sem]
    all_goals
      first | done | rfl | simp only [go_sem]
  · -- c1 false
    try simp only [nrm] at c1
    obtain ⟨k0, hk0⟩ : ∃ zz, (roll (most + 1) b).1 = zz := ⟨_, rfl⟩
    obtain ⟨b1, hb1⟩ : ∃ zz, (roll (most + 1) b).2 = zz := ⟨_, rfl⟩
    have dk0 := roll_bd (most + 1) b
    simp only [hk0] at dk0
    obtain ⟨kn, hkn⟩ : ∃ z : Nat, k0 = z := ⟨k0.toNat, by omega⟩
    subst hkn
    obtain ⟨n3, hn3⟩ : ∃ z : Nat, 3 * (kn + 1) = z := ⟨_, rfl⟩
    have hn3i : 3 * ((kn : Int) + 1) = (n3 : Int) := by omega
    obtain ⟨ser, hser⟩ : ∃ zz, (orderD n3 b1).1 = zz := ⟨_, rfl⟩
    obtain ⟨b2, hb2⟩ : ∃ zz, (orderD n3 b1).2 = zz := ⟨_, rfl⟩
    have dser := orderD_perm n3 b1
    simp only [hser] at dser
    have hsl : ser.length = n3 := by rw [dser.length_eq]; simp
    have hsb : ∀ x, x ∈ ser → 0 ≤ x ∧ x < 100000 := fun x hx => by
      obtain ⟨i, h1, rfl⟩ := List.mem_map.1 (dser.mem_iff.1 hx)
      have := List.mem_range.1 h1
      omega
    have hres2 : ballotsC c ser kn 0 [] b2 = res := by
      rw [← hres]; unfold ballotsD; rw [if_neg c1]; simp only [dbind, hk0, hb1, hser, hb2, Int.toNat_natCast, hn3]
    refine W_skip (kq3 _ _ ?_)
    refine W_seq fun kz6 kq6 => ?_
    refine W_region [0, 4, 7, 8] fun R hR => ?_   -- r4
    simp only [go_sem, ldS_at hd, stX_at hd, ldS_sv hlt, stX_sv hlt, sv_ext hlt, sv_ext_sv hlt, hk0, hb1, hser, hb2]
    try simp (disch := omega) only [wrapI]
    try simp (disch := omega) only [wrapI, wrapU]
    refine GCall_of (Roll_pc Y _ d b (by first | exact hd | exact sv_get hlt | exact get_svx hlt | exact get_extx hd) (most + 1) (by omega)) ?_   -- t22
    simp only [go_sem, ldS_at hd, stX_at hd, ldS_sv hlt, stX_sv hlt, sv_ext hlt, sv_ext_sv hlt, hk0, hb1, hser, hb2]
    try simp (disch := omega) only [wrapI, wrapU]
    refine hR _ _ (kq6 _ _ ?_); clear hR R; try clear kq6 kz6
    try simp only [go_sem, ldS_at hd, stX_at hd, ldS_sv hlt, stX_sv hlt, sv_ext hlt, sv_ext_sv hlt, hk0, hb1, hser, hb2]
    refine W_seq fun kz7 kq7 => ?_
    refine W_region [0, 4, 7, 8, 9] fun R hR => ?_   -- r5
    simp only [go_sem, ldS_at hd, stX_at hd, ldS_sv hlt, stX_sv hlt, sv_ext hlt, sv_ext_sv hlt, hk0, hb1, hser, hb2]
    try simp (disch := omega) only [wrapI]
    try simp only [hn3i]
    try simp (disch := omega) only [wrapI, wrapU]
    refine GCall_of (Order_pc Y _ d b1 (by first | exact hd | exact sv_get hlt | exact get_svx hlt | exact get_extx hd) n3 (by omega)) ?_   -- t27
    simp only [go_sem, ldS_at hd, stX_at hd, ldS_sv hlt, stX_sv hlt, sv_ext hlt, sv_ext_sv hlt, hk0, hb1, hser, hb2]
    try simp (disch := omega) only [wrapI, wrapU]
    refine hR _ _ (kq7 _ _ ?_); clear hR R; try clear kq7 kz7
    try simp only [go_sem, ldS_at hd, stX_at hd, ldS_sv hlt, stX_sv hlt, sv_ext hlt, sv_ext_sv hlt, hk0, hb1, hser, hb2]
    refine W_seq fun kz8 kq8 => ?_
    refine W_seq fun kz9 kq9 => ?_
    refine W_region [0, 4, 7, 8, 9, 10] fun R hR => ?_   -- r6
    simp only [go_sem, ldS_at hd, stX_at hd, ldS_sv hlt, stX_sv hlt, sv_ext hlt, sv_ext_sv hlt, hk0, hb1, hser, hb2]
    refine hR _ _ (kq9 _ _ ?_); clear hR R; try clear kq9 kz9
    try simp only [go_sem, ldS_at hd, stX_at hd, ldS_sv hlt, stX_sv hlt, sv_ext hlt, sv_ext_sv hlt, hk0, hb1, hser, hb2]
    refine W_block ?_
    refine W_weak (Weak.room (t := 7) (es := 6) rfl (by simp)) ?_
    refine W_weak (Weak.keep [0, 4, 7, 8, 9, 10]) ?_
    simp only [go_sem, ldS_at hd, stX_at hd, ldS_sv hlt, stX_sv hlt, sv_ext hlt, sv_ext_sv hlt, hk0, hb1, hser, hb2]
    refine W_loopT (α := Nat × (List Ballot) × Int) (fun ⟨i, acc, bb⟩ => [(7, .isl (acc.map blPV) (.tok σ.rooms.length acc.length 6)), (10, I i)]) (fun ⟨i, acc, bb⟩ => (σ.setVar d [.int .u64 bb]).ext [some (cnCells c)] [acc.length]) (fun ⟨i, acc, bb⟩ => i ≤ kn ∧ acc.length = i ∧ ballotsC c ser (kn - i) i acc bb = res) (fun ⟨i, acc, bb⟩ => kn - i) ((0, [], b2)) rfl (by first | rfl | (simp only [go_sem]; done) | (simp only [go_sem]; rfl)) (⟨Nat.zero_le _, rfl, hres2⟩) ?_
    rintro ⟨i, acc, bb⟩ ⟨hi, hal, hinv⟩
    refine W_seq fun kz10 kq10 => ?_
    refine W_seq fun kz11 kq11 => ?_
    refine W_region [0, 4, 7, 8, 9, 10, 30] fun R hR => ?_   -- r7
    simp only [go_sem, ldS_at hd, stX_at hd, ldS_sv hlt, stX_sv hlt, sv_ext hlt, sv_ext_sv hlt, hk0, hb1, hser, hb2]
    refine hR _ _ (kq11 _ _ ?_); clear hR R; try clear kq11 kz11
    try simp only [go_sem, ldS_at hd, stX_at hd, ldS_sv hlt, stX_sv hlt, sv_ext hlt, sv_ext_sv hlt, hk0, hb1, hser, hb2]
    refine W_cond rfl (fun c2 => ?_) (fun c2 => ?_)
    · -- c2 true
      try simp only [nrm] at c2
      have hi1 : i < kn := by first | omega | (simp at c2; omega)
      rw [show kn - i = (kn - (i + 1)) + 1 by omega] at hinv
      simp only [ballotsC, dbind] at hinv
      obtain ⟨sx, hsx⟩ : ∃ z, ser[i]? = some z := ⟨ser[i]'(by omega), by simp⟩
      have hil : (i : Int) < (ser.length : Int) := by omega
      have hsxb := hsb sx (List.mem_of_getElem? hsx)
      have hsa : serAt ser i = sx + 1 := by unfold serAt; rw [hsx]; rfl
      have hwx : IntKind.i64.wrap (sx + 1) = sx + 1 := wrapI (by omega) (by omega)
      obtain ⟨rd0, hrd0⟩ : ∃ zz, (roll c.rounds.length bb).1 = zz := ⟨_, rfl⟩
      obtain ⟨b3, hb3⟩ : ∃ zz, (roll c.rounds.length bb).2 = zz := ⟨_, rfl⟩
      have drd0 := roll_bd c.rounds.length bb
      simp only [hrd0] at drd0
      obtain ⟨kd, hkd⟩ : ∃ zz, (anyOf [1, 2] b3).1 = zz := ⟨_, rfl⟩
      obtain ⟨b4, hb4⟩ : ∃ zz, (anyOf [1, 2] b3).2 = zz := ⟨_, rfl⟩
      have dkd := anyOf_mem [1, 2] (by simp) b3
      simp only [hkd] at dkd
      obtain ⟨sg, hsg⟩ : ∃ zz, (roll c.songs b4).1 = zz := ⟨_, rfl⟩
      obtain ⟨b5, hb5⟩ : ∃ zz, (roll c.songs b4).2 = zz := ⟨_, rfl⟩
      have dsg := roll_bd c.songs b4
      simp only [hsg] at dsg
      simp only [hrd0, hb3, hkd, hb4, hsg, hb5, hsa] at hinv
      refine W_skip (kq10 _ _ ?_)
      refine W_seq fun kz12 kq12 => ?_
      refine W_block ?_
      refine W_seq fun kz13 kq13 => ?_
      refine W_draw [0, 4, 7, 8, 9, 10, 11] [0, 1, 2, 3, 4, 5, 6, 7, 8, 9, 10, 11, 12, 13, 14, 15, 16, 17, 18, 19] [(0, 12), (0, 16), (0, 18), (0, 19), (1, 12), (1, 16), (1, 18), (1, 19), (2, 12), (2, 16), (2, 18), (2, 19), (3, 12), (3, 16), (3, 18), (3, 19), (4, 12), (4, 16), (4, 18), (4, 19), (10, 9), (11, 9), (13, 9), (13, 12), (14, 9), (14, 12), (15, 9), (15, 12), (17, 19)] [[], [], [0, 1], [0, 1, 2], [0, 1, 2, 3], [], [], [6], [6, 7], [5, 6, 7, 8], [], [], [5, 6, 7, 8, 9, 10, 11], [], [], [14], [5, 6, 7, 8, 9, 10, 11, 12, 13, 14, 15], [0, 1, 2, 3, 4, 5, 6, 7, 8, 9, 10, 11, 12, 13, 14, 15, 16], [], [0, 1, 2, 3, 4, 5, 6, 7, 8, 9, 10, 11, 12, 13, 14, 15, 16, 17, 18]] mixed (by kernel_rfl) fun R hR => ?_   -- r9
      simp only [go_sem, ldS_at hd, stX_at hd, ldS_sv hlt, stX_sv hlt, sv_ext hlt, sv_ext_sv hlt, hk0, hb1, hser, hb2, hrd0, hb3, hkd, hb4, hsg, hb5, hsx, hwx, hil]
      try simp (disch := omega) only [wrapI, wrapU]
      refine GCall_of (Roll_pc Y _ d bb (by first | exact hd | exact sv_get hlt | exact get_svx hlt | exact get_extx hd) c.rounds.length (by omega)) ?_   -- t42
      simp only [go_sem, ldS_at hd, stX_at hd, ldS_sv hlt, stX_sv hlt, sv_ext hlt, sv_ext_sv hlt, hk0, hb1, hser, hb2, hrd0, hb3, hkd, hb4, hsg, hb5, hsx, hwx, hil]
      try simp (disch := omega) only [wrapI, wrapU]
      refine GCall_of (Any_pc Y _ d b3 (by first | exact hd | exact sv_get hlt | exact get_svx hlt | exact get_extx hd) [1, 2] (by simp) (by simp)) ?_   -- t45
      simp only [go_sem, ldS_at hd, stX_at hd, ldS_sv hlt, stX_sv hlt, sv_ext hlt, sv_ext_sv hlt, hk0, hb1, hser, hb2, hrd0, hb3, hkd, hb4, hsg, hb5, hsx, hwx, hil]
      try simp (disch := omega) only [wrapI, wrapU]
      refine GCall_of (Roll_pc Y _ d b4 (by first | exact hd | exact sv_get hlt | exact get_svx hlt | exact get_extx hd) c.songs (by omega)) ?_   -- t49
      simp only [go_sem, ldS_at hd, stX_at hd, ldS_sv hlt, stX_sv hlt, sv_ext hlt, sv_ext_sv hlt, hk0, hb1, hser, hb2, hrd0, hb3, hkd, hb4, hsg, hb5, hsx, hwx, hil]
      try simp (disch := omega) only [wrapI, wrapU]
      try refine And.intro (by repeat' (first | refine And.intro ?_ ?_ | exact GOr_right (fun _ => by simp only [go_sem, ldS_at hd, stX_at hd, ldS_sv hlt, stX_sv hlt, sv_ext hlt, sv_ext_sv hlt, hk0, hb1, hser, hb2, hrd0, hb3, hkd, hb4, hsg, hb5, hsx, hwx, hil]))) ?_
      refine hR _ _ (kq13 _ _ ?_); clear hR R; try clear kq13 kz13
      try simp only [go_sem, ldS_at hd, stX_at hd, ldS_sv hlt, stX_sv hlt, sv_ext hlt, sv_ext_sv hlt, hk0, hb1, hser, hb2, hrd0, hb3, hkd, hb4, hsg, hb5]
      refine W_seq fun kz14 kq14 => ?_
      refine W_seq fun kz15 kq15 => ?_
      refine W_region [0, 4, 7, 8, 9, 10, 11, 53] fun R hR => ?_   -- r10
      simp only [go_sem, ldS_at hd, stX_at hd, ldS_sv hlt, stX_sv hlt, sv_ext hlt, sv_ext_sv hlt, hk0, hb1, hser, hb2, hrd0, hb3, hkd, hb4, hsg, hb5]
      refine hR _ _ (kq15 _ _ ?_); clear hR R; try clear kq15 kz15
      try simp only [go_sem, ldS_at hd, stX_at hd, ldS_sv hlt, stX_sv hlt, sv_ext hlt, sv_ext_sv hlt, hk0, hb1, hser, hb2, hrd0, hb3, hkd, hb4, hsg, hb5]
      refine W_cond rfl (fun c3 => ?_) (fun c3 => ?_)
      · -- c3 true
        try simp only [nrm] at c3
        refine W_region [0, 4, 7, 8, 9, 10, 11] fun R hR => ?_   -- r11
        simp only [go_sem, ldS_at hd, stX_at hd, ldS_sv hlt, stX_sv hlt, sv_ext hlt, sv_ext_sv hlt, hk0, hb1, hser, hb2, hrd0, hb3, hkd, hb4, hsg, hb5]
        refine hR _ _ (kq14 _ _ ?_); clear hR R; try clear kq14 kz14
        try simp only [go_sem, ldS_at hd, stX_at hd, ldS_sv hlt, stX_sv hlt, sv_ext hlt, sv_ext_sv hlt, hk0, hb1, hser, hb2, hrd0, hb3, hkd, hb4, hsg, hb5]
        refine W_seq fun kz16 kq16 => ?_
        refine W_seq fun kz17 kq17 => ?_
        refine W_region [0, 4, 7, 8, 9, 10, 11, 57] fun R hR => ?_   -- r12
        simp only [go_sem, ldS_at hd, stX_at hd, ldS_sv hlt, stX_sv hlt, sv_ext hlt, sv_ext_sv hlt, hk0, hb1, hser, hb2, hrd0, hb3, hkd, hb4, hsg, hb5]
        refine hR _ _ (kq17 _ _ ?_); clear hR R; try clear kq17 kz17
        try simp only [go_sem, ldS_at hd, stX_at hd, ldS_sv hlt, stX_sv hlt, sv_ext hlt, sv_ext_sv hlt, hk0, hb1, hser, hb2, hrd0, hb3, hkd, hb4, hsg, hb5]
        refine W_cond rfl (fun c4 => ?_) (fun c4 => ?_)
        · -- c4 true
          try simp only [nrm] at c4
          exfalso
          omega
        · -- c4 false
          try simp only [nrm] at c4
          refine W_skip (kq16 _ _ ?_)
          refine W_seq fun kz18 kq18 => ?_
          refine W_seq fun kz19 kq19 => ?_
          refine W_region [0, 4, 7, 8, 9, 10, 11, 61] fun R hR => ?_   -- r14
          simp only [go_sem, ldS_at hd, stX_at hd, ldS_sv hlt, stX_sv hlt, sv_ext hlt, sv_ext_sv hlt, hk0, hb1, hser, hb2, hrd0, hb3, hkd, hb4, hsg, hb5]
          refine hR _ _ (kq19 _ _ ?_); clear hR R; try clear kq19 kz19
          try simp only [go_sem, ldS_at hd, stX_at hd, ldS_sv hlt, stX_sv hlt, sv_ext hlt, sv_ext_sv hlt, hk0, hb1, hser, hb2, hrd0, hb3, hkd, hb4, hsg, hb5]
          refine W_cond rfl (fun c5 => ?_) (fun c5 => ?_)
          · -- c5 true
            try simp only [nrm] at c5
            exfalso
            simp at c5
          · -- c5 false
            try simp only [nrm] at c5
            rw [if_neg (by simp [c3, c4])] at hinv
            obtain ⟨v, hv⟩ : ∃ zz, (roll c.members b5).1 = zz := ⟨_, rfl⟩
            obtain ⟨b6, hb6⟩ : ∃ zz, (roll c.members b5).2 = zz := ⟨_, rfl⟩
            have dv := roll_bd c.members b5
            simp only [hv] at dv
            simp only [dbind, hv, hb6] at hinv
            refine W_region [0, 4, 7, 8, 9, 10, 11] fun R hR => ?_   -- r16
            simp only [go_sem, ldS_at hd, stX_at hd, ldS_sv hlt, stX_sv hlt, sv_ext hlt, sv_ext_sv hlt, hk0, hb1, hser, hb2, hrd0, hb3, hkd, hb4, hsg, hb5, hv, hb6]
            refine GCall_of (Roll_pc Y _ d b5 (by first | exact hd | exact sv_get hlt | exact get_svx hlt | exact get_extx hd) c.members (by omega)) ?_   -- t75
            simp only [go_sem, ldS_at hd, stX_at hd, ldS_sv hlt, stX_sv hlt, sv_ext hlt, sv_ext_sv hlt, hk0, hb1, hser, hb2, hrd0, hb3, hkd, hb4, hsg, hb5, hv, hb6]
            refine hR _ _ (kq18 _ _ ?_); clear hR R; try clear kq18 kz18
            try simp only [go_sem, ldS_at hd, stX_at hd, ldS_sv hlt, stX_sv hlt, sv_ext hlt, sv_ext_sv hlt, hk0, hb1, hser, hb2, hrd0, hb3, hkd, hb4, hsg, hb5, hv, hb6]
            refine W_region [0, 4, 7, 8, 9, 10] fun R hR => ?_   -- r17
            simp only [go_sem, ldS_at hd, stX_at hd, ldS_sv hlt, stX_sv hlt, sv_ext hlt, sv_ext_sv hlt, hk0, hb1, hser, hb2, hrd0, hb3, hkd, hb4, hsg, hb5, hv, hb6]
            try simp (disch := first | omega | (simp only [go_sem] <;> omega)) only [wrapI, wrapU, appX_exact, appX_tok]
            try simp only [go_sem, ldS_at hd, stX_at hd, ldS_sv hlt, stX_sv hlt, sv_ext hlt, sv_ext_sv hlt, hk0, hb1, hser, hb2, hrd0, hb3, hkd, hb4, hsg, hb5, hv, hb6]
            refine hR _ _ (kq12 _ _ ?_); clear hR R; try clear kq12 kz12
            try simp only [go_sem, ldS_at hd, stX_at hd, ldS_sv hlt, stX_sv hlt, sv_ext hlt, sv_ext_sv hlt, hk0, hb1, hser, hb2, hrd0, hb3, hkd, hb4, hsg, hb5, hv, hb6]
            refine W_region [0, 4, 7, 8, 9, 10] fun R hR => ?_   -- r8
            simp only [go_sem, ldS_at hd, stX_at hd, ldS_sv hlt, stX_sv hlt, sv_ext hlt, sv_ext_sv hlt, hk0, hb1, hser, hb2, hrd0, hb3, hkd, hb4, hsg, hb5, hv, hb6]
            try simp (disch := omega) only [wrapI, wrapU]
            refine hR _ _ ?_; clear hR R
            try simp only [go_sem, ldS_at hd, stX_at hd, ldS_sv hlt, stX_sv hlt, sv_ext hlt, sv_ext_sv hlt, hk0, hb1, hser, hb2, hrd0, hb3, hkd, hb4, hsg, hb5, hv, hb6]
            refine ⟨(i + 1, acc ++ [⟨sx + 1, rd0, 2, v, sg, 0⟩], b6), ?_, by (try simp only []); omega, ?_⟩
            · refine Weak.trans (Weak.cutSV 1 1 (by omega) (by omega) hcl (by simp only [go_sem]) (by simp only [go_sem] <;> omega) (by simp only [go_sem] <;> omega)) ?_
              simp only [go_sem]
              exact Weak.eq rfl rfl
            · try dsimp only
              exact ⟨by omega, by simp; omega, hinv⟩
      · -- c3 false
        try simp only [nrm] at c3
        refine W_skip (kq14 _ _ ?_)
        refine W_seq fun kz20 kq20 => ?_
        refine W_seq fun kz21 kq21 => ?_
        refine W_region [0, 4, 7, 8, 9, 10, 11, 57] fun R hR => ?_   -- r12
        simp only [go_sem, ldS_at hd, stX_at hd, ldS_sv hlt, stX_sv hlt, sv_ext hlt, sv_ext_sv hlt, hk0, hb1, hser, hb2, hrd0, hb3, hkd, hb4, hsg, hb5]
        refine hR _ _ (kq21 _ _ ?_); clear hR R; try clear kq21 kz21
        try simp only [go_sem, ldS_at hd, stX_at hd, ldS_sv hlt, stX_sv hlt, sv_ext hlt, sv_ext_sv hlt, hk0, hb1, hser, hb2, hrd0, hb3, hkd, hb4, hsg, hb5]
        refine W_cond rfl (fun c6 => ?_) (fun c6 => ?_)
        · -- c6 true
          try simp only [nrm] at c6
          refine W_region [0, 4, 7, 8, 9, 10, 11] fun R hR => ?_   -- r13
          simp only [go_sem, ldS_at hd, stX_at hd, ldS_sv hlt, stX_sv hlt, sv_ext hlt, sv_ext_sv hlt, hk0, hb1, hser, hb2, hrd0, hb3, hkd, hb4, hsg, hb5]
          refine hR _ _ (kq20 _ _ ?_); clear hR R; try clear kq20 kz20
          try simp only [go_sem, ldS_at hd, stX_at hd, ldS_sv hlt, stX_sv hlt, sv_ext hlt, sv_ext_sv hlt, hk0, hb1, hser, hb2, hrd0, hb3, hkd, hb4, hsg, hb5]
          refine W_seq fun kz22 kq22 => ?_
          refine W_seq fun kz23 kq23 => ?_
          refine W_region [0, 4, 7, 8, 9, 10, 11, 61] fun R hR => ?_   -- r14
          simp only [go_sem, ldS_at hd, stX_at hd, ldS_sv hlt, stX_sv hlt, sv_ext hlt, sv_ext_sv hlt, hk0, hb1, hser, hb2, hrd0, hb3, hkd, hb4, hsg, hb5]
          refine hR _ _ (kq23 _ _ ?_); clear hR R; try clear kq23 kz23
          try simp only [go_sem, ldS_at hd, stX_at hd, ldS_sv hlt, stX_sv hlt, sv_ext hlt, sv_ext_sv hlt, hk0, hb1, hser, hb2, hrd0, hb3, hkd, hb4, hsg, hb5]
          refine W_cond rfl (fun c7 => ?_) (fun c7 => ?_)
          · -- c7 true
            try simp only [nrm] at c7
            rw [if_pos (by simp [c6])] at hinv
            obtain ⟨v, hv⟩ : ∃ zz, (roll c.juries b5).1 = zz := ⟨_, rfl⟩
            obtain ⟨b6, hb6⟩ : ∃ zz, (roll c.juries b5).2 = zz := ⟨_, rfl⟩
            have dv := roll_bd c.juries b5
            simp only [hv] at dv
            obtain ⟨p, hp⟩ : ∃ zz, (mid 0 c.most b6).1 = zz := ⟨_, rfl⟩
            obtain ⟨b7, hb7⟩ : ∃ zz, (mid 0 c.most b6).2 = zz := ⟨_, rfl⟩
            have dp := mid_bd 0 c.most hms.1 b6
            simp only [hp] at dp
            simp only [dbind, hv, hb6, hp, hb7] at hinv
            refine W_draw [0, 4, 7, 8, 9, 10, 11] [0, 1, 2, 3, 4, 5, 6, 7, 8, 9, 10, 11] [(4, 3), (5, 3), (6, 3), (8, 7)] [[], [], [1], [0, 1, 2], [], [], [5], [0, 1, 2, 3, 4, 5, 6], [0, 1, 2, 3], [0, 1, 2, 3, 4, 5, 6, 7, 8], [0, 1, 2, 3, 4, 5, 6, 7, 8, 9], [0, 1, 2, 3, 4, 5, 6, 7, 8, 9, 10]] mixed (by kernel_rfl) fun R hR => ?_   -- r15
            simp only [go_sem, ldS_at hd, stX_at hd, ldS_sv hlt, stX_sv hlt, sv_ext hlt, sv_ext_sv hlt, hk0, hb1, hser, hb2, hrd0, hb3, hkd, hb4, hsg, hb5, hv, hb6, hp, hb7]
            refine GCall_of (Roll_pc Y _ d b5 (by first | exact hd | exact sv_get hlt | exact get_svx hlt | exact get_extx hd) c.juries (by omega)) ?_   -- t65
            simp only [go_sem, ldS_at hd, stX_at hd, ldS_sv hlt, stX_sv hlt, sv_ext hlt, sv_ext_sv hlt, hk0, hb1, hser, hb2, hrd0, hb3, hkd, hb4, hsg, hb5, hv, hb6, hp, hb7]
            refine GCall_of (Mid_pc Y _ d b6 (by first | exact hd | exact sv_get hlt | exact get_svx hlt | exact get_extx hd) 0 c.most (by omega) (by omega) (by omega) (by omega)) ?_   -- t69
            simp only [go_sem, ldS_at hd, stX_at hd, ldS_sv hlt, stX_sv hlt, sv_ext hlt, sv_ext_sv hlt, hk0, hb1, hser, hb2, hrd0, hb3, hkd, hb4, hsg, hb5, hv, hb6, hp, hb7]
            try refine And.intro (by repeat' (first | refine And.intro ?_ ?_ | exact GOr_right (fun _ => by simp only [go_sem, ldS_at hd, stX_at hd, ldS_sv hlt, stX_sv hlt, sv_ext hlt, sv_ext_sv hlt, hk0, hb1, hser, hb2, hrd0, hb3, hkd, hb4, hsg, hb5, hv, hb6, hp, hb7]))) ?_
            refine hR _ _ (kq22 _ _ ?_); clear hR R; try clear kq22 kz22
            try simp only [go_sem, ldS_at hd, stX_at hd, ldS_sv hlt, stX_sv hlt, sv_ext hlt, sv_ext_sv hlt, hk0, hb1, hser, hb2, hrd0, hb3, hkd, hb4, hsg, hb5, hv, hb6, hp, hb7]
            refine W_region [0, 4, 7, 8, 9, 10] fun R hR => ?_   -- r17
            simp only [go_sem, ldS_at hd, stX_at hd, ldS_sv hlt, stX_sv hlt, sv_ext hlt, sv_ext_sv hlt, hk0, hb1, hser, hb2, hrd0, hb3, hkd, hb4, hsg, hb5, hv, hb6, hp, hb7]
            try simp (disch := first | omega | (simp only [go_sem] <;> omega)) only [wrapI, wrapU, appX_exact, appX_tok]
            try simp only [go_sem, ldS_at hd, stX_at hd, ldS_sv hlt, stX_sv hlt, sv_ext hlt, sv_ext_sv hlt, hk0, hb1, hser, hb2, hrd0, hb3, hkd, hb4, hsg, hb5, hv, hb6, hp, hb7]
            refine hR _ _ (kq12 _ _ ?_); clear hR R; try clear kq12 kz12
            try simp only [go_sem, ldS_at hd, stX_at hd, ldS_sv hlt, stX_sv hlt, sv_ext hlt, sv_ext_sv hlt, hk0, hb1, hser, hb2, hrd0, hb3, hkd, hb4, hsg, hb5, hv, hb6, hp, hb7]
            refine W_region [0, 4, 7, 8, 9, 10] fun R hR => ?_   -- r8
            simp only [go_sem, ldS_at hd, stX_at hd, ldS_sv hlt, stX_sv hlt, sv_ext hlt, sv_ext_sv hlt, hk0, hb1, hser, hb2, hrd0, hb3, hkd, hb4, hsg, hb5, hv, hb6, hp, hb7]
            try simp (disch := omega) only [wrapI, wrapU]
            refine hR _ _ ?_; clear hR R
            try simp only [go_sem, ldS_at hd, stX_at hd, ldS_sv hlt, stX_sv hlt, sv_ext hlt, sv_ext_sv hlt, hk0, hb1, hser, hb2, hrd0, hb3, hkd, hb4, hsg, hb5, hv, hb6, hp, hb7]
            refine ⟨(i + 1, acc ++ [⟨sx + 1, rd0, 1, v, sg, p⟩], b7), ?_, by (try simp only []); omega, ?_⟩
            · refine Weak.trans (Weak.cutSV 1 1 (by omega) (by omega) hcl (by simp only [go_sem]) (by simp only [go_sem] <;> omega) (by simp only [go_sem] <;> omega)) ?_
              simp only [go_sem]
              exact Weak.eq rfl rfl
            · try dsimp only
              exact ⟨by omega, by simp; omega, hinv⟩
          · -- c7 false
            try simp only [nrm] at c7
            exfalso
            simp at c7
        · -- c6 false
          try simp only [nrm] at c6
          refine W_skip (kq20 _ _ ?_)
          refine W_seq fun kz24 kq24 => ?_
          refine W_seq fun kz25 kq25 => ?_
          refine W_region [0, 4, 7, 8, 9, 10, 11, 61] fun R hR => ?_   -- r14
          simp only [go_sem, ldS_at hd, stX_at hd, ldS_sv hlt, stX_sv hlt, sv_ext hlt, sv_ext_sv hlt, hk0, hb1, hser, hb2, hrd0, hb3, hkd, hb4, hsg, hb5]
          refine hR _ _ (kq25 _ _ ?_); clear hR R; try clear kq25 kz25
          try simp only [go_sem, ldS_at hd, stX_at hd, ldS_sv hlt, stX_sv hlt, sv_ext hlt, sv_ext_sv hlt, hk0, hb1, hser, hb2, hrd0, hb3, hkd, hb4, hsg, hb5]
          refine W_cond rfl (fun c8 => ?_) (fun c8 => ?_)
          · -- c8 true
            try simp only [nrm] at c8
            rw [if_pos (by simp [c3, c6, c8])] at hinv
            obtain ⟨v, hv⟩ : ∃ zz, (roll c.juries b5).1 = zz := ⟨_, rfl⟩
            obtain ⟨b6, hb6⟩ : ∃ zz, (roll c.juries b5).2 = zz := ⟨_, rfl⟩
            have dv := roll_bd c.juries b5
            simp only [hv] at dv
            obtain ⟨p, hp⟩ : ∃ zz, (mid 0 c.most b6).1 = zz := ⟨_, rfl⟩
            obtain ⟨b7, hb7⟩ : ∃ zz, (mid 0 c.most b6).2 = zz := ⟨_, rfl⟩
            have dp := mid_bd 0 c.most hms.1 b6
            simp only [hp] at dp
            simp only [dbind, hv, hb6, hp, hb7] at hinv
            subst c8
            refine W_draw [0, 4, 7, 8, 9, 10, 11] [0, 1, 2, 3, 4, 5, 6, 7, 8, 9, 10, 11] [(4, 3), (5, 3), (6, 3), (8, 7)] [[], [], [1], [0, 1, 2], [], [], [5], [0, 1, 2, 3, 4, 5, 6], [0, 1, 2, 3], [0, 1, 2, 3, 4, 5, 6, 7, 8], [0, 1, 2, 3, 4, 5, 6, 7, 8, 9], [0, 1, 2, 3, 4, 5, 6, 7, 8, 9, 10]] mixed (by kernel_rfl) fun R hR => ?_   -- r15
            simp only [go_sem, ldS_at hd, stX_at hd, ldS_sv hlt, stX_sv hlt, sv_ext hlt, sv_ext_sv hlt, hk0, hb1, hser, hb2, hrd0, hb3, hkd, hb4, hsg, hb5, hv, hb6, hp, hb7]
            refine GCall_of (Roll_pc Y _ d b5 (by first | exact hd | exact sv_get hlt | exact get_svx hlt | exact get_extx hd) c.juries (by omega)) ?_   -- t65
            simp only [go_sem, ldS_at hd, stX_at hd, ldS_sv hlt, stX_sv hlt, sv_ext hlt, sv_ext_sv hlt, hk0, hb1, hser, hb2, hrd0, hb3, hkd, hb4, hsg, hb5, hv, hb6, hp, hb7]
            refine GCall_of (Mid_pc Y _ d b6 (by first | exact hd | exact sv_get hlt | exact get_svx hlt | exact get_extx hd) 0 c.most (by omega) (by omega) (by omega) (by omega)) ?_   -- t69
            simp only [go_sem, ldS_at hd, stX_at hd, ldS_sv hlt, stX_sv hlt, sv_ext hlt, sv_ext_sv hlt, hk0, hb1, hser, hb2, hrd0, hb3, hkd, hb4, hsg, hb5, hv, hb6, hp, hb7]
            try refine And.intro (by repeat' (first | refine And.intro ?_ ?_ | exact GOr_right (fun _ => by simp only [go_sem, ldS_at hd, stX_at hd, ldS_sv hlt, stX_sv hlt, sv_ext hlt, sv_ext_sv hlt, hk0, hb1, hser, hb2, hrd0, hb3, hkd, hb4, hsg, hb5, hv, hb6, hp, hb7]))) ?_
            refine hR _ _ (kq24 _ _ ?_); clear hR R; try clear kq24 kz24
            try simp only [go_sem, ldS_at hd, stX_at hd, ldS_sv hlt, stX_sv hlt, sv_ext hlt, sv_ext_sv hlt, hk0, hb1, hser, hb2, hrd0, hb3, hkd, hb4, hsg, hb5, hv, hb6, hp, hb7]
            refine W_region [0, 4, 7, 8, 9, 10] fun R hR => ?_   -- r17
            simp only [go_sem, ldS_at hd, stX_at hd, ldS_sv hlt, stX_sv hlt, sv_ext hlt, sv_ext_sv hlt, hk0, hb1, hser, hb2, hrd0, hb3, hkd, hb4, hsg, hb5, hv, hb6, hp, hb7]
            try simp (disch := first | omega | (simp only [go_sem] <;> omega)) only [wrapI, wrapU, appX_exact, appX_tok]
            try simp only [go_sem, ldS_at hd, stX_at hd, ldS_sv hlt, stX_sv hlt, sv_ext hlt, sv_ext_sv hlt, hk0, hb1, hser, hb2, hrd0, hb3, hkd, hb4, hsg, hb5, hv, hb6, hp, hb7]
            refine hR _ _ (kq12 _ _ ?_); clear hR R; try clear kq12 kz12
            try simp only [go_sem, ldS_at hd, stX_at hd, ldS_sv hlt, stX_sv hlt, sv_ext hlt, sv_ext_sv hlt, hk0, hb1, hser, hb2, hrd0, hb3, hkd, hb4, hsg, hb5, hv, hb6, hp, hb7]
            refine W_region [0, 4, 7, 8, 9, 10] fun R hR => ?_   -- r8
            simp only [go_sem, ldS_at hd, stX_at hd, ldS_sv hlt, stX_sv hlt, sv_ext hlt, sv_ext_sv hlt, hk0, hb1, hser, hb2, hrd0, hb3, hkd, hb4, hsg, hb5, hv, hb6, hp, hb7]
            try simp (disch := omega) only [wrapI, wrapU]
            refine hR _ _ ?_; clear hR R
            try simp only [go_sem, ldS_at hd, stX_at hd, ldS_sv hlt, stX_sv hlt, sv_ext hlt, sv_ext_sv hlt, hk0, hb1, hser, hb2, hrd0, hb3, hkd, hb4, hsg, hb5, hv, hb6, hp, hb7]
            refine ⟨(i + 1, acc ++ [⟨sx + 1, rd0, 1, v, sg, p⟩], b7), ?_, by (try simp only []); omega, ?_⟩
            · refine Weak.trans (Weak.cutSV 1 1 (by omega) (by omega) hcl (by simp only [go_sem]) (by simp only [go_sem] <;> omega) (by simp only [go_sem] <;> omega)) ?_
              simp only [go_sem]
              exact Weak.eq rfl rfl
            · try dsimp only
              exact ⟨by omega, by simp; omega, hinv⟩
          · -- c8 false
            try simp only [nrm] at c8
            rw [if_neg (by simp [c3, c6, c8])] at hinv
            obtain ⟨v, hv⟩ : ∃ zz, (roll c.members b5).1 = zz := ⟨_, rfl⟩
            obtain ⟨b6, hb6⟩ : ∃ zz, (roll c.members b5).2 = zz := ⟨_, rfl⟩
            have dv := roll_bd c.members b5
            simp only [hv] at dv
            simp only [dbind, hv, hb6] at hinv
            have hk2 : kd = 2 := by
              rcases mem2 dkd with h | h
              · exact absurd h c8
              · exact h
            subst hk2
            refine W_region [0, 4, 7, 8, 9, 10, 11] fun R hR => ?_   -- r16
            simp only [go_sem, ldS_at hd, stX_at hd, ldS_sv hlt, stX_sv hlt, sv_ext hlt, sv_ext_sv hlt, hk0, hb1, hser, hb2, hrd0, hb3, hkd, hb4, hsg, hb5, hv, hb6]
            refine GCall_of (Roll_pc Y _ d b5 (by first | exact hd | exact sv_get hlt | exact get_svx hlt | exact get_extx hd) c.members (by omega)) ?_   -- t75
            simp only [go_sem, ldS_at hd, stX_at hd, ldS_sv hlt, stX_sv hlt, sv_ext hlt, sv_ext_sv hlt, hk0, hb1, hser, hb2, hrd0, hb3, hkd, hb4, hsg, hb5, hv, hb6]
            refine hR _ _ (kq24 _ _ ?_); clear hR R; try clear kq24 kz24
            try simp only [go_sem, ldS_at hd, stX_at hd, ldS_sv hlt, stX_sv hlt, sv_ext hlt, sv_ext_sv hlt, hk0, hb1, hser, hb2, hrd0, hb3, hkd, hb4, hsg, hb5, hv, hb6]
            refine W_region [0, 4, 7, 8, 9, 10] fun R hR => ?_   -- r17
            simp only [go_sem, ldS_at hd, stX_at hd, ldS_sv hlt, stX_sv hlt, sv_ext hlt, sv_ext_sv hlt, hk0, hb1, hser, hb2, hrd0, hb3, hkd, hb4, hsg, hb5, hv, hb6]
            try simp (disch := first | omega | (simp only [go_sem] <;> omega)) only [wrapI, wrapU, appX_exact, appX_tok]
            try simp only [go_sem, ldS_at hd, stX_at hd, ldS_sv hlt, stX_sv hlt, sv_ext hlt, sv_ext_sv hlt, hk0, hb1, hser, hb2, hrd0, hb3, hkd, hb4, hsg, hb5, hv, hb6]
            refine hR _ _ (kq12 _ _ ?_); clear hR R; try clear kq12 kz12
            try simp only [go_sem, ldS_at hd, stX_at hd, ldS_sv hlt, stX_sv hlt, sv_ext hlt, sv_ext_sv hlt, hk0, hb1, hser, hb2, hrd0, hb3, hkd, hb4, hsg, hb5, hv, hb6]
            refine W_region [0, 4, 7, 8, 9, 10] fun R hR => ?_   -- r8
            simp only [go_sem, ldS_at hd, stX_at hd, ldS_sv hlt, stX_sv hlt, sv_ext hlt, sv_ext_sv hlt, hk0, hb1, hser, hb2, hrd0, hb3, hkd, hb4, hsg, hb5, hv, hb6]
            try simp (disch := omega) only [wrapI, wrapU]
            refine hR _ _ ?_; clear hR R
            try simp only [go_sem, ldS_at hd, stX_at hd, ldS_sv hlt, stX_sv hlt, sv_ext hlt, sv_ext_sv hlt, hk0, hb1, hser, hb2, hrd0, hb3, hkd, hb4, hsg, hb5, hv, hb6]
            refine ⟨(i + 1, acc ++ [⟨sx + 1, rd0, 2, v, sg, 0⟩], b6), ?_, by (try simp only []); omega, ?_⟩
            · refine Weak.trans (Weak.cutSV 1 1 (by omega) (by omega) hcl (by simp only [go_sem]) (by simp only [go_sem] <;> omega) (by simp only [go_sem] <;> omega)) ?_
              simp only [go_sem]
              exact Weak.eq rfl rfl
            · try dsimp only
              exact ⟨by omega, by simp; omega, hinv⟩
    · -- c2 false
      try simp only [nrm] at c2
      have hie : kn = i := by first | omega | (simp at c2; omega)
      subst hie
      rw [Nat.sub_self] at hinv
      simp only [ballotsC, dret] at hinv
      refine W_exit ?_
      simp only [go_sem, ldS_at hd, stX_at hd, ldS_sv hlt, stX_sv hlt, sv_ext hlt, sv_ext_sv hlt, hk0, hb1, hser, hb2]
      refine kq8 _ _ ?_
      refine W_seq fun kz26 kq26 => ?_
      refine W_region [6] fun R hR => ?_   -- r18
      simp only [go_sem, ldS_at hd, stX_at hd, ldS_sv hlt, stX_sv hlt, sv_ext hlt, sv_ext_sv hlt, hk0, hb1, hser, hb2]
      refine hR _ _ (kq26 _ _ ?_); clear hR R; try clear kq26 kz26
      try simp only [go_sem, ldS_at hd, stX_at hd, ldS_sv hlt, stX_sv hlt, sv_ext hlt, sv_ext_sv hlt, hk0, hb1, hser, hb2]
      refine W_ret ?_
      simp only [go_sem, ldS_at hd, stX_at hd, ldS_sv hlt, stX_sv hlt, sv_ext hlt, sv_ext_sv hlt, hk0, hb1, hser, hb2]
      refine ⟨.inr (by trivial), ?_⟩
      rw [← hinv]; refine Fin_set hcl (by simp only [go_sem]) rfl (Wk.ro (by simp only [go_sem]) ?_)
      try simp only [go_sem]
      all_goals
        first | done | rfl | simp only [go_sem]
end Go.Proofs.Ytnolifglhhjdnaa
namespace Go.Proofs.Ytnolifglhhjdnaa
open Go Go.RowKit
set_option maxRecDepth 100000
theorem eqRes (a b : Res) : decide (a = b) = (decide (a.songs = b.songs) && (decide (a.points = b.points) && (decide (a.votes = b.votes) && (decide (a.scores = b.scores) && decide (a.kept = b.kept))))) := by
  obtain ⟨a1, a2, a3, a4, a5⟩ := a
  obtain ⟨b1, b2, b3, b4, b5⟩ := b
  rw [Bool.eq_iff_iff]
  simp
/-- The lists of a result are short. -/
def rsSmall (r : Res) : Prop := r.songs.length < 2 ^ 40 ∧ r.points.length < 2 ^ 40 ∧ r.votes.length < 2 ^ 40 ∧ r.scores.length < 2 ^ 40 ∧ r.kept.length < 2 ^ 40
set_option maxHeartbeats 4000000 in
theorem EqResult_pc (Y : YEnv) (σ : Sg) (a b : Res) (ha : rsSmall a) :
    PC Try.prog Y 48 [rsPV a, rsPV b] σ (.bool (decide (a = b))) (σ) := by
  refine PC_of_W Try.func48 rfl (by kernel_rfl) Try.ntmps48 (by simp) fun hcl hca => ?_
  obtain ⟨ha1, ha2, ha3, ha4, ha5⟩ := ha
  have he := eqRes a b
  refine W_seq fun kz1 kq1 => ?_
  refine W_region [2, 3] fun R hR => ?_   -- r0
  simp only [go_sem]
  refine hR _ _ (kq1 _ _ ?_); clear hR R; try clear kq1 kz1
  try simp only [go_sem]
  refine W_seq fun kz2 kq2 => ?_
  refine W_regionJ [4] [(4, .bool (decide (a = b)))] ?_ fun R hR => ?_   -- r1
  · refine kq2 _ _ ?_
    simp only [go_sem]
    refine W_ret ?_
    simp only [go_sem]
    refine ⟨.inr (by trivial), ?_⟩
    first | refine Fin_same hcl rfl (Wk_eq ?_ (by simp only [go_sem])) | refine Fin_self hcl rfl (Wk_eq ?_ (by simp only [go_sem]))
    try simp only [go_sem]
    all_goals
      rfl
  · simp only [go_sem]
    refine GCall_of (EqInts_pc Y _ a.songs b.songs .ro .ro (by omega)) ?_   -- t9
    simp only [go_sem]
    refine GWant_split (fun g1 => ?_) (fun g1 => ?_)
    · try simp only [Bool.not_eq_true', Bool.not_eq_false'] at g1
      have n1 := g1; try simp only [nrm] at n1
      simp only [go_sem, g1]
      refine GCall_of (EqInts_pc Y _ a.points b.points .ro .ro (by omega)) ?_   -- t15
      simp only [go_sem, g1]
      refine GWant_split (fun g2 => ?_) (fun g2 => ?_)
      · try simp only [Bool.not_eq_true', Bool.not_eq_false'] at g2
        have n2 := g2; try simp only [nrm] at n2
        simp only [go_sem, g1, g2]
        refine GCall_of (EqInts_pc Y _ a.votes b.votes .ro .ro (by omega)) ?_   -- t22
        simp only [go_sem, g1, g2]
        refine GWant_split (fun g3 => ?_) (fun g3 => ?_)
        · try simp only [Bool.not_eq_true', Bool.not_eq_false'] at g3
          have n3 := g3; try simp only [nrm] at n3
          simp only [go_sem, g1, g2, g3]
          refine GCall_of (EqInts_pc Y _ a.scores b.scores .ro .ro (by omega)) ?_   -- t29
          simp only [go_sem, g1, g2, g3]
          refine GWant_split (fun g4 => ?_) (fun g4 => ?_)
          · try simp only [Bool.not_eq_true', Bool.not_eq_false'] at g4
            have n4 := g4; try simp only [nrm] at n4
            simp only [go_sem, g1, g2, g3, g4]
            refine GCall_of (EqInts_pc Y _ a.kept b.kept .ro .ro (by omega)) ?_   -- t36
            simp only [go_sem, g1, g2, g3, g4]
            refine hR _ ?_
            all_goals try simp only [go_sem]
            all_goals
              first | rfl | (rw [he]; simp [*]; done) | (rw [he]; simp_all; done)
          · try simp only [Bool.not_eq_true', Bool.not_eq_false'] at g4
            have n4 := g4; try simp only [nrm] at n4
            simp only [go_sem, g1, g2, g3, g4]
            refine hR _ ?_
            all_goals try simp only [go_sem]
            all_goals
              first | rfl | (rw [he]; simp [*]; done) | (rw [he]; simp_all; done)
        · try simp only [Bool.not_eq_true', Bool.not_eq_false'] at g3
          have n3 := g3; try simp only [nrm] at n3
          simp only [go_sem, g1, g2, g3]
          refine hR _ ?_
          all_goals try simp only [go_sem]
          all_goals
            first | rfl | (rw [he]; simp [*]; done) | (rw [he]; simp_all; done)
      · try simp only [Bool.not_eq_true', Bool.not_eq_false'] at g2
        have n2 := g2; try simp only [nrm] at n2
        simp only [go_sem, g1, g2]
        refine hR _ ?_
        all_goals try simp only [go_sem]
        all_goals
          first | rfl | (rw [he]; simp [*]; done) | (rw [he]; simp_all; done)
    · try simp only [Bool.not_eq_true', Bool.not_eq_false'] at g1
      have n1 := g1; try simp only [nrm] at n1
      simp only [go_sem, g1]
      refine hR _ ?_
      all_goals try simp only [go_sem]
      all_goals
        first | rfl | (rw [he]; simp [*]; done) | (rw [he]; simp_all; done)
set_option maxHeartbeats 4000000 in
theorem EqResults_pc (Y : YEnv) (σ : Sg) (a b : List Res) (o o2 : Own) (ha : ∀ x, x ∈ a → rsSmall x) (hl : a.length < 2 ^ 40) :
    PC Try.prog Y 25 [.isl (a.map rsPV) o, .isl (b.map rsPV) o2] σ (.bool (decide (a = b))) (σ) := by
  refine PC_of_W Try.func25 rfl (by kernel_rfl) Try.ntmps25 (by simp) fun hcl hca => ?_
  refine W_seq fun kz1 kq1 => ?_
  refine W_region [0, 1] fun R hR => ?_   -- r0
  simp only [go_sem]
  refine hR _ _ (kq1 _ _ ?_); clear hR R; try clear kq1 kz1
  try simp only [go_sem]
  refine W_seq fun kz2 kq2 => ?_
  refine W_region [0, 1, 5] fun R hR => ?_   -- r1
  simp only [go_sem]
  refine hR _ _ (kq2 _ _ ?_); clear hR R; try clear kq2 kz2
  try simp only [go_sem]
  refine W_seq fun kz3 kq3 => ?_
  refine W_seq fun kz4 kq4 => ?_
  refine W_region [0, 1, 5, 6] fun R hR => ?_   -- r2
  simp only [go_sem]
  refine hR _ _ (kq4 _ _ ?_); clear hR R; try clear kq4 kz4
  try simp only [go_sem]
  refine W_block ?_
  refine W_loopS (α := Nat × Bool) (fun ⟨i, same⟩ => [(5, .bool same), (6, I i)]) (fun ⟨i, same⟩ => i ≤ a.length ∧ same = (decide (a.length = b.length) && decide (a.take i = b.take i))) (fun ⟨i, same⟩ => a.length - i) ((0, ((a.length : Int) == (b.length : Int)))) rfl (⟨Nat.zero_le _, by rw [Bool.eq_iff_iff]; simp; omega⟩) ?_
  rintro ⟨i, same⟩ ⟨hi, hs⟩
  refine W_seq fun kz5 kq5 => ?_
  refine W_seq fun kz6 kq6 => ?_
  refine W_regionJ [0, 1, 5, 6, 18] [(18, .bool (same && decide (i < a.length)))] ?_ fun R hR => ?_   -- r3
  · refine kq6 _ _ ?_
    simp only [go_sem]
    refine W_cond rfl (fun c1 => ?_) (fun c1 => ?_)
    · -- c1 true
      try simp only [nrm] at c1
      have hsi : same = true ∧ i < a.length := by simpa using c1
      have hab : a.length = b.length ∧ a.take i = b.take i := by rw [hsi.1] at hs; simpa using hs.symm
      have hi1 : i < a.length := hsi.2
      obtain ⟨x, hx⟩ : ∃ z, a[i]? = some z := ⟨a[i], by simp [hi1]⟩
      obtain ⟨y, hy⟩ : ∃ z, b[i]? = some z := ⟨b[i]'(by omega), by simp⟩
      have hib : i < b.length := by omega
      have hxs := ha x (List.mem_of_getElem? hx)
      have hst : (decide (a.length = b.length) && decide (a.take (i + 1) = b.take (i + 1))) = decide (x = y) := by
        rw [List.take_add_one, List.take_add_one, hx, hy, hab.2]
        simp [hab.1]
      refine W_skip (kq5 _ _ ?_)
      refine W_seq fun kz7 kq7 => ?_
      refine W_block ?_
      refine W_draw [0, 1, 5, 6] [0, 1, 2, 3, 4, 5, 6, 7, 8, 9] [] [[], [], [0, 1], [0, 1, 2], [], [], [4, 5], [4, 5, 6], [0, 1, 2, 3, 4, 5, 6, 7], [0, 1, 2, 3, 4, 5, 6, 7, 8]] mixed (by kernel_rfl) fun R hR => ?_   -- r5
      simp only [go_sem, hx, hy]
      refine GCall_of (EqResult_pc Y _ x y hxs) ?_   -- t29
      simp only [go_sem, hx, hy]
      try refine And.intro (by repeat' (first | refine And.intro ?_ ?_ | exact GOr_right (fun _ => by simp only [go_sem, hx, hy]))) ?_
      refine hR _ _ (kq7 _ _ ?_); clear hR R; try clear kq7 kz7
      try simp only [go_sem, hx, hy]
      refine W_region [0, 1, 5, 6] fun R hR => ?_   -- r4
      simp only [go_sem, hx, hy]
      try simp (disch := omega) only [wrapI, wrapU]
      refine hR _ _ ?_; clear hR R
      try simp only [go_sem, hx, hy]
      refine ⟨(i + 1, decide (x = y)), ?_, by (try simp only []); omega, ?_⟩
      · first | exact Weak.refl | exact Weak.eq (by first | rfl | (simp only [go_sem]; done) | (simp only [go_sem]; rfl) | (simp [go_sem]; done) | (simp [go_sem]; omega)) (by first | rfl | (simp only [go_sem]; done) | (simp [go_sem]; done))
      · try dsimp only
        exact ⟨hi1, hst.symm⟩
    · -- c1 false
      try simp only [nrm] at c1
      have hfin : same = decide (a = b) := by
        rw [hs, Bool.eq_iff_iff]
        simp only [Bool.and_eq_true, decide_eq_true_eq]
        constructor
        · rintro ⟨h1, h2⟩
          have h3 : same = true := by rw [hs]; simp [h1, h2]
          have h4 : ¬ i < a.length := by rw [h3] at c1; simpa using c1
          rw [List.take_of_length_le (by omega), List.take_of_length_le (by omega)] at h2
          exact h2
        · rintro rfl; exact ⟨rfl, rfl⟩
      refine W_exit ?_
      simp only [go_sem]
      refine kq3 _ _ ?_
      refine W_seq fun kz8 kq8 => ?_
      refine W_region [4] fun R hR => ?_   -- r6
      simp only [go_sem]
      refine hR _ _ (kq8 _ _ ?_); clear hR R; try clear kq8 kz8
      try simp only [go_sem]
      refine W_ret ?_
      simp only [go_sem]
      refine ⟨.inr (by trivial), ?_⟩
      first | refine Fin_same hcl rfl (Wk_eq ?_ (by simp only [go_sem])) | refine Fin_self hcl rfl (Wk_eq ?_ (by simp only [go_sem]))
      try simp only [go_sem]
      all_goals
        rw [hfin]
  · simp only [go_sem]
    refine GWant_split (fun g1 => ?_) (fun g1 => ?_)
    · try simp only [Bool.not_eq_true', Bool.not_eq_false'] at g1
      have n1 := g1; try simp only [nrm] at n1
      simp only [go_sem, g1]
      refine hR _ ?_
      all_goals try simp only [go_sem]
      all_goals
        first | rfl | (simp [*]; done) | (simp_all; done)
    · try simp only [Bool.not_eq_true', Bool.not_eq_false'] at g1
      have n1 := g1; try simp only [nrm] at n1
      simp only [go_sem, g1]
      refine hR _ ?_
      all_goals try simp only [go_sem]
      all_goals
        first | rfl | (simp [*]; done) | (simp_all; done)
set_option maxHeartbeats 2000000 in
theorem OwnBallots_pc (Y : YEnv) (σ : Sg) (l : List Ballot) (o : Own) (hl : l.length < 2 ^ 30) :
    PC Try.prog Y 26 [.isl (l.map blPV) o] σ (.isl (l.map blPV) (.tok σ.rooms.length l.length 6)) (σ.ext [] [l.length]) := by
  refine PC_of_W Try.func26 rfl (by kernel_rfl) Try.ntmps26 (by simp) fun hcl hca => ?_
  refine W_seq fun kz1 kq1 => ?_
  refine W_region [0] fun R hR => ?_   -- r0
  simp only [go_sem]
  refine hR _ _ (kq1 _ _ ?_); clear hR R; try clear kq1 kz1
  try simp only [go_sem]
  refine W_seq fun kz2 kq2 => ?_
  refine W_region [2] fun R hR => ?_   -- r1
  simp only [go_sem]
  try simp (disch := first | omega | (simp only [go_sem] <;> omega)) only [wrapI, wrapU, appX_exact, appX_tok]
  try simp only [go_sem]
  refine hR _ _ (kq2 _ _ ?_); clear hR R; try clear kq2 kz2
  try simp only [go_sem]
  refine W_ret ?_
  simp only [go_sem]
  refine ⟨.inr (by trivial), ?_⟩
  exact Fin_ext 0 1 hcl rfl (Wk_eq (by simp only [go_sem]) (by simp only [go_sem] <;> omega)) CleanL_nil
  try simp only [go_sem]
  all_goals
    skip
end Go.Proofs.Ytnolifglhhjdnaa
namespace Go.Proofs.Ytnolifglhhjdnaa
open Go
set_option maxRecDepth 100000
/-- The first song of a list that is not left out. -/
def firstLeft (out l : List Int) : Option Int := l.find? fun s => !has out s
/-- How many lists are for a song. -/
def manyFor (out : List Int) (ls : List (List Int)) (s : Int) : Nat := ls.countP fun l => decide (firstLeft out l = some s)
theorem manyFor_snoc (out : List Int) (ls : List (List Int)) (l : List Int) (s : Int) : manyFor out (ls ++ [l]) s = manyFor out ls s + (if firstLeft out l = some s then 1 else 0) := by
  simp [manyFor, List.countP_append, List.countP_cons]
theorem manyFor_le (out : List Int) (ls : List (List Int)) (s : Int) : manyFor out ls s ≤ ls.length := List.countP_le_length
/-- The last one of those for which the fewest lists are. -/
def worstF (out : List Int) (ls : List (List Int)) : Nat → Int
  | 0 => -1
  | i + 1 => if !has out i && (decide (worstF out ls i < 0) || decide (manyFor out ls i ≤ manyFor out ls (worstF out ls i))) then (i : Int) else worstF out ls i
theorem worstF_bd (out : List Int) (ls : List (List Int)) : ∀ i, (worstF out ls i = -1 ∧ ∀ s : Nat, s < i → has out s = true) ∨ (0 ≤ worstF out ls i ∧ worstF out ls i < i ∧ has out (worstF out ls i) = false) := by
  intro i
  induction i with
  | zero => exact .inl ⟨rfl, fun s h => by omega⟩
  | succ i ih =>
    simp only [worstF]
    split
    · rename_i h
      right
      simp only [Bool.and_eq_true, Bool.not_eq_true'] at h
      exact ⟨by omega, by omega, h.1⟩
    · rename_i h
      rcases ih with ⟨h1, h2⟩ | ⟨h1, h2, h3⟩
      · left
        refine ⟨h1, fun s hs => ?_⟩
        by_cases e : s = i
        · subst e
          rw [h1] at h
          simpa using h
        · exact h2 s (by omega)
      · right; exact ⟨h1, by omega, h3⟩
/-- So many songs, left out. -/
def runU (n : Nat) (ls : List (List Int)) : Nat → List Int
  | 0 => []
  | i + 1 => runU n ls i ++ [worstF (runU n ls i) ls n]
theorem runU_len (n : Nat) (ls : List (List Int)) : ∀ i, (runU n ls i).length = i := by
  intro i
  induction i with
  | zero => rfl
  | succ i ih => simp [runU, ih]
theorem sub_len : ∀ {l l' : List Int}, l.Nodup → (∀ x, x ∈ l → x ∈ l') → l.length ≤ l'.length := by
  intro l
  induction l with
  | nil => intro l' _ _; simp
  | cons a l ih =>
    intro l' hn hs
    obtain ⟨h1, h2⟩ := List.nodup_cons.1 hn
    have ha := hs a (by simp)
    have := ih (l' := l'.erase a) h2 fun x hx => (List.mem_erase_of_ne (show x ≠ a from fun e => h1 (by rw [← e]; exact hx))).2 (hs x (by simp [hx]))
    rw [List.length_erase_of_mem ha] at this
    have hp := List.length_pos_of_mem ha
    simp only [List.length_cons]
    omega
theorem some_left {n : Nat} {out : List Int} (h : out.length < n) : ∃ s : Nat, s < n ∧ has out s = false := by
  refine Classical.byContradiction fun hh => ?_
  have hall : ∀ s : Nat, s < n → has out s = true := fun s hs => by
    cases e : has out s with
    | true => rfl
    | false => exact absurd ⟨s, hs, e⟩ hh
  have hnd : ((List.range n).map fun s : Nat => (s : Int)).Nodup := by
    rw [List.nodup_iff_pairwise_ne, List.pairwise_map]
    exact (List.nodup_iff_pairwise_ne.1 List.nodup_range).imp fun h e => h (by omega)
  have := sub_len hnd (l' := out) fun x hx => by
    obtain ⟨s, hs, rfl⟩ := List.mem_map.1 hx
    exact has_iff.1 (hall s (List.mem_range.1 hs))
  simp at this
  omega
theorem worst_ok {n : Nat} {out : List Int} (ls : List (List Int)) (h : out.length < n) : 0 ≤ worstF out ls n ∧ worstF out ls n < n ∧ has out (worstF out ls n) = false := by
  rcases worstF_bd out ls n with ⟨_, h2⟩ | h2
  · obtain ⟨s, hs, e⟩ := some_left h
    rw [h2 s hs] at e; cases e
  · exact h2
theorem runU_ok (n : Nat) (ls : List (List Int)) : ∀ i, i ≤ n → (∀ x, x ∈ runU n ls i → 0 ≤ x ∧ x < n) ∧ (runU n ls i).Nodup := by
  intro i
  induction i with
  | zero => intro _; exact ⟨fun x hx => absurd hx (by simp [runU]), by simp [runU]⟩
  | succ i ih =>
    intro hi
    obtain ⟨h1, h2⟩ := ih (by omega)
    obtain ⟨w1, w2, w3⟩ := worst_ok (n := n) (out := runU n ls i) ls (by rw [runU_len]; omega)
    refine ⟨fun x hx => ?_, ?_⟩
    · simp only [runU, List.mem_append, List.mem_singleton] at hx
      rcases hx with hx | rfl
      · exact h1 x hx
      · exact ⟨w1, w2⟩
    · simp only [runU]
      rw [List.nodup_append]
      refine ⟨h2, by simp, fun a ha b hb e => ?_⟩
      simp at hb
      subst hb e
      rw [has_iff.2 ha] at w3; cases w3
/-- The first song that is not left out. -/
def winF (out : List Int) : Nat → Nat → Int
  | 0, i => i
  | k + 1, i => if has out i then winF out k (i + 1) else i
/-- Songs left out, the one that remains, an error. -/
def runoffA (n : Int) (ls : List (List Int)) : List Int × Int × Int :=
  if chkPf n ls ≠ 0 then ([], 0, chkPf n ls) else (runU n.toNat ls (n.toNat - 1), winF (runU n.toNat ls (n.toNat - 1)) n.toNat 0, 0)
def goneC (out : List Int) : List PV := (List.range 8).map fun s : Nat => PV.bool (has out s)
def manyC (out : List Int) (ls : List (List Int)) : List PV := (List.range 8).map fun s : Nat => I (manyFor out ls s : Nat)
theorem goneC_get {out : List Int} {s : Nat} (h : s < 8) : (goneC out)[s]? = some (.bool (has out s)) := by simp [goneC, h]
theorem manyC_get {out : List Int} {ls : List (List Int)} {s : Nat} (h : s < 8) : (manyC out ls)[s]? = some (I (manyFor out ls s : Nat)) := by simp [manyC, h]
theorem has_snoc {out : List Int} {w v : Int} : has (out ++ [w]) v = (has out v || decide (w = v)) := by simp [has, List.any_append]
theorem goneC_set {out : List Int} {s : Nat} (h : s < 8) : (goneC out).set s (.bool true) = goneC (out ++ [(s : Int)]) := by
  apply List.ext_getElem?
  intro i
  by_cases e : s = i
  · subst e
    rw [List.getElem?_set_self (by simpa [goneC] using h), goneC_get h, has_snoc]
    simp
  · rw [List.getElem?_set_ne e]
    by_cases hi : i < 8
    · rw [goneC_get hi, goneC_get hi, has_snoc]
      simp; omega
    · simp [goneC, hi]
theorem manyC_none {out : List Int} {ls : List (List Int)} {l : List Int} (h : firstLeft out l = none) : manyC out (ls ++ [l]) = manyC out ls := by
  unfold manyC
  refine List.map_congr_left fun s _ => ?_
  rw [manyFor_snoc, if_neg (by rw [h]; simp)]
  rfl
theorem manyC_some {out : List Int} {ls : List (List Int)} {l : List Int} {s : Nat} (h : s < 8) (hf : firstLeft out l = some (s : Int)) : (manyC out ls).set s (I ((manyFor out ls s : Nat) + 1)) = manyC out (ls ++ [l]) := by
  apply List.ext_getElem?
  intro i
  by_cases e : s = i
  · subst e
    rw [List.getElem?_set_self (by simpa [manyC] using h), manyC_get h, manyFor_snoc, if_pos hf]
    rfl
  · rw [List.getElem?_set_ne e]
    by_cases hi : i < 8
    · rw [manyC_get hi, manyC_get hi, manyFor_snoc, if_neg (by rw [hf]; intro h; injection h with h; omega)]
      rfl
    · simp [manyC, hi]
theorem firstLeft_at {out l : List Int} {k : Nat} {v : Int} (hk : ∀ x, x ∈ l.take k → has out x = true) (hv : l[k]? = some v) (h : has out v = false) : firstLeft out l = some v := by
  have hlt := (List.getElem?_eq_some_iff.1 hv).1
  unfold firstLeft
  rw [List.find?_eq_some_iff_append]
  refine ⟨by simp [h], l.take k, l.drop (k + 1), ?_, fun x hx => by simp [hk x hx]⟩
  conv => lhs; rw [← List.take_append_drop k l]
  rw [List.drop_eq_getElem_cons hlt, (List.getElem?_eq_some_iff.1 hv).2]
theorem firstLeft_none {out l : List Int} (h : ∀ x, x ∈ l → has out x = true) : firstLeft out l = none := by
  unfold firstLeft
  rw [List.find?_eq_none]
  intro x hx
  simp [h x hx]
end Go.Proofs.Ytnolifglhhjdnaa
namespace Go.Proofs.Ytnolifglhhjdnaa
open Go Go.RowKit
set_option maxRecDepth 100000
theorem goneC_len (out : List Int) : (goneC out).length = 8 := by simp [goneC]
theorem manyC_len (out : List Int) (ls : List (List Int)) : (manyC out ls).length = 8 := by simp [manyC]
theorem goneC_clean {a b c : Nat} (out : List Int) : CleanAll a b c (goneC out) := by
  intro p hp
  obtain ⟨s, _, rfl⟩ := List.mem_map.1 hp
  simp only [go_sem]
theorem beqB2 {a b : Bool} : eqPV Try.prog 4 (.bool a) (.bool b) = some (decide (a = b)) := by cases a <;> cases b <;> kernel_rfl
theorem sl86 {id : Nat} {k : IntKind} {n : Nat} (h0 : 0 < n) (h8 : n ≤ 8) : slicePV Try.prog 86 (.ptr id 0) none (some (.int k n)) none = some (.msl id 0 n) := by
  unfold slicePV
  rw [Try.underlying86]
  simp only [Try.underlying4, bnd]
  simp [h8]
  omega
def idxF (out : List Int) : Nat → Nat → Int
  | 0, _ => -1
  | k + 1, i => if has out i = false then i else idxF out k (i + 1)
theorem idxF_eq {n : Nat} {out : List Int} : ∀ (k i : Nat), i + k = n → (∃ s : Nat, i ≤ s ∧ s < n ∧ has out s = false) → idxF out k i = winF out k i := by
  intro k
  induction k with
  | zero => rintro i h ⟨s, h1, h2, _⟩; omega
  | succ k ih =>
    rintro i h ⟨s, h1, h2, h3⟩
    simp only [idxF, winF]
    cases e : has out i with
    | false => simp
    | true =>
      simp only [Bool.true_eq_false, if_false, if_true]
      exact ih (i + 1) (by omega) ⟨s, by
        by_cases q : s = i
        · subst q; rw [e] at h3; cases h3
        · omega, h2, h3⟩
set_option maxHeartbeats 2000000 in
theorem gIndex_pc (Y : YEnv) (σ : Sg) (out : List Int) (id n : Nat) (hn8 : n ≤ 8) (hd : σ.store[id]? = some (some (goneC out))) :
    PC Try.prog Y 46 [.msl id 0 n, .bool false] σ (I (idxF out n 0)) (σ) := by
  refine PC_of_W Try.func46 rfl (by kernel_rfl) Try.ntmps46 (by simp) fun hcl hca => ?_
  obtain ⟨res, hres⟩ : ∃ r, idxF out n 0 = r := ⟨_, rfl⟩
  rw [hres]
  refine W_seq fun kz1 kq1 => ?_
  refine W_region [0, 1] fun R hR => ?_   -- r0
  simp only [go_sem, beqB2, ldS_at hd]
  refine hR _ _ (kq1 _ _ ?_); clear hR R; try clear kq1 kz1
  try simp only [go_sem, beqB2, ldS_at hd]
  refine W_seq fun kz2 kq2 => ?_
  refine W_seq fun kz3 kq3 => ?_
  refine W_region [0, 1, 7, 8] fun R hR => ?_   -- r1
  simp only [go_sem, beqB2, ldS_at hd]
  refine hR _ _ (kq3 _ _ ?_); clear hR R; try clear kq3 kz3
  try simp only [go_sem, beqB2, ldS_at hd]
  refine W_block ?_
  refine W_loopS (α := Nat) (fun (i : Nat) => [(8, I i)]) (fun (i : Nat) => i ≤ n ∧ res = idxF out (n - i) i) (fun (i : Nat) => n - i) (0) rfl (⟨Nat.zero_le _, hres.symm⟩) ?_
  rintro i ⟨hi, hinv⟩
  refine W_seq fun kz4 kq4 => ?_
  refine W_region [0, 1, 7, 8, 9] fun R hR => ?_   -- r2
  simp only [go_sem, beqB2, ldS_at hd]
  refine hR _ _ (kq4 _ _ ?_); clear hR R; try clear kq4 kz4
  try simp only [go_sem, beqB2, ldS_at hd]
  refine W_seq fun kz5 kq5 => ?_
  refine W_cond rfl (fun c1 => ?_) (fun c1 => ?_)
  · -- c1 true
    try simp only [nrm] at c1
    have hin : i < n := by first | assumption | omega
    have hin2 : (i : Int) < (n : Int) := by omega
    obtain ⟨k, hk⟩ : ∃ k, n - i = k + 1 := ⟨n - i - 1, by omega⟩
    rw [hk] at hinv
    simp only [idxF] at hinv
    have hg := goneC_get (out := out) (s := i) (by omega)
    refine W_skip (kq5 _ _ ?_)
    refine W_seq fun kz6 kq6 => ?_
    refine W_block ?_
    refine W_seq fun kz7 kq7 => ?_
    refine W_region [0, 1, 5, 7, 8] fun R hR => ?_   -- r3
    simp only [go_sem, beqB2, ldS_at hd, hg]
    refine hR _ _ (kq7 _ _ ?_); clear hR R; try clear kq7 kz7
    try simp only [go_sem, beqB2, ldS_at hd, hg]
    refine W_seq fun kz8 kq8 => ?_
    refine W_region [0, 1, 5, 7, 8, 16] fun R hR => ?_   -- r4
    simp only [go_sem, beqB2, ldS_at hd, hg, hin2, iaM_nat (Int.ofNat_lt.1 hin2), Nat.mul_one, Nat.zero_add, bindSome]
    refine hR _ _ (kq8 _ _ ?_); clear hR R; try clear kq8 kz8
    try simp only [go_sem, beqB2, ldS_at hd, hg]
    refine W_cond rfl (fun c2 => ?_) (fun c2 => ?_)
    · -- c2 true
      try simp only [nrm] at c2
      refine W_seq fun kz9 kq9 => ?_
      refine W_region [4] fun R hR => ?_   -- r5
      simp only [go_sem, beqB2, ldS_at hd, hg]
      refine hR _ _ (kq9 _ _ ?_); clear hR R; try clear kq9 kz9
      try simp only [go_sem, beqB2, ldS_at hd, hg]
      refine W_ret ?_
      simp only [go_sem, beqB2, ldS_at hd, hg]
      refine ⟨.inr (by trivial), ?_⟩
      first | refine Fin_same hcl rfl (Wk_eq ?_ (by simp only [go_sem])) | refine Fin_self hcl rfl (Wk_eq ?_ (by simp only [go_sem]))
      try simp only [go_sem]
      all_goals
        first | (rw [hinv]; done) | (rw [hinv]; simp_all; done) | rfl
    · -- c2 false
      try simp only [nrm] at c2
      refine W_skip (kq6 _ _ ?_)
      refine W_region [0, 1, 7, 8] fun R hR => ?_   -- r6
      simp only [go_sem, beqB2, ldS_at hd, hg]
      try simp (disch := omega) only [wrapI, wrapU]
      refine hR _ _ ?_; clear hR R
      try simp only [go_sem, beqB2, ldS_at hd, hg]
      refine ⟨i + 1, ?_, by (try simp only []); omega, ?_⟩
      · first | exact Weak.refl | exact Weak.eq (by first | rfl | (simp only [go_sem]; done) | (simp only [go_sem]; rfl) | (simp [go_sem]; done) | (simp [go_sem]; omega)) (by first | rfl | (simp only [go_sem]; done) | (simp [go_sem]; done))
      · try dsimp only
        refine ⟨hin, ?_⟩
        rw [hinv, show n - (i + 1) = k by omega]
        simp_all
  · -- c1 false
    try simp only [nrm] at c1
    have hie : n - i = 0 := by omega
    rw [hie] at hinv
    simp only [idxF] at hinv
    refine W_exit ?_
    simp only [go_sem, beqB2, ldS_at hd]
    refine kq2 _ _ ?_
    refine W_seq fun kz10 kq10 => ?_
    refine W_region [4] fun R hR => ?_   -- r7
    simp only [go_sem, beqB2, ldS_at hd]
    refine hR _ _ (kq10 _ _ ?_); clear hR R; try clear kq10 kz10
    try simp only [go_sem, beqB2, ldS_at hd]
    refine W_ret ?_
    simp only [go_sem, beqB2, ldS_at hd]
    refine ⟨.inr (by trivial), ?_⟩
    first | refine Fin_same hcl rfl (Wk_eq ?_ (by simp only [go_sem])) | refine Fin_self hcl rfl (Wk_eq ?_ (by simp only [go_sem]))
    try simp only [go_sem]
    all_goals
      first | (rw [hinv]; done) | (rw [hinv]; simp_all; done) | rfl
set_option maxHeartbeats 8000000 in
theorem Runoff_pc (Y : YEnv) (σ : Sg) (n : Int) (ls : List (List Int)) (hl : ls.length < 2 ^ 40) (hl2 : ∀ l, l ∈ ls → l.length < 2 ^ 40) :
    PC Try.prog Y 21 [I n, lls ls] σ (.tuple [ints (runoffA n ls).1, I (runoffA n ls).2.1, I (runoffA n ls).2.2]) (σ) := by
  refine PC_of_W Try.func21 rfl (by kernel_rfl) Try.ntmps21 (by simp) fun hcl hca => ?_
  refine W_seq fun kz1 kq1 => ?_
  refine W_region [0, 1, 4] fun R hR => ?_   -- r0
  simp only [go_sem]
  refine hR _ _ (kq1 _ _ ?_); clear hR R; try clear kq1 kz1
  try simp only [go_sem]
  refine W_seq fun kz2 kq2 => ?_
  refine W_seq fun kz3 kq3 => ?_
  refine W_region [0, 1, 4, 7] fun R hR => ?_   -- r1
  simp only [go_sem]
  refine GCall_of (chkPf_pc Y _ n ls hl hl2) ?_   -- t18
  simp only [go_sem]
  refine hR _ _ (kq3 _ _ ?_); clear hR R; try clear kq3 kz3
  try simp only [go_sem]
  refine W_seq fun kz4 kq4 => ?_
  refine W_region [0, 1, 4, 7, 20] fun R hR => ?_   -- r2
  simp only [go_sem]
  refine hR _ _ (kq4 _ _ ?_); clear hR R; try clear kq4 kz4
  try simp only [go_sem]
  refine W_cond rfl (fun c1 => ?_) (fun c1 => ?_)
  · -- c1 true
    try simp only [nrm] at c1
    refine W_seq fun kz5 kq5 => ?_
    refine W_region [4, 5, 6] fun R hR => ?_   -- r3
    simp only [go_sem]
    refine hR _ _ (kq5 _ _ ?_); clear hR R; try clear kq5 kz5
    try simp only [go_sem]
    refine W_ret ?_
    simp only [go_sem]
    refine ⟨.inr (by trivial), ?_⟩
    first | (rw [hall]; refine Fin_same hcl rfl (Wk.ro (by simp only [go_sem]) ?_)) | refine Fin_same hcl rfl (Wk.ro (by simp only [go_sem]) ?_) | refine Fin_self hcl rfl (Wk.ro (by simp only [go_sem]) ?_)
    try simp only [go_sem]
    all_goals
      simp only [runoffA]; rw [if_pos c1]; first | rfl | simp only [go_sem]
  · -- c1 false
    try simp only [nrm] at c1
    have hV := pfV_iff.1 c1
    have hn1 := hV.nb
    obtain ⟨N, hN⟩ : ∃ z : Nat, n = z := ⟨n.toNat, by omega⟩
    have hall : runoffA n ls = (runU N ls (N - 1), winF (runU N ls (N - 1)) N 0, 0) := by
      unfold runoffA
      rw [if_neg (by simp [c1]), hN, Int.toNat_natCast]
    have hmem := fun l (h : l ∈ ls) => (chkRow_mem (hV.ck l h)).1
    subst hN
    refine W_skip (kq2 _ _ ?_)
    refine W_seq fun kz6 kq6 => ?_
    refine W_region [0, 1, 4, 8] fun R hR => ?_   -- r4
    simp only [go_sem]
    refine hR _ _ (kq6 _ _ ?_); clear hR R; try clear kq6 kz6
    try simp only [go_sem]
    refine W_seq fun kz7 kq7 => ?_
    refine W_block ?_
    refine W_weak (Weak.room (t := 4) (es := 1) rfl (by simp)) ?_
    refine W_weak (Weak.keep [0, 1, 4, 8]) ?_
    simp only [go_sem]
    refine W_loopT (α := Nat) (fun (i : Nat) => [(4, .isl ((runU N ls i).map I) (.tok σ.rooms.length i 1))]) (fun (i : Nat) => σ.ext [some (goneC (runU N ls i))] [i]) (fun (i : Nat) => i ≤ N - 1) (fun (i : Nat) => N - 1 - i) (0) rfl (by first | rfl | (simp only [go_sem]; done) | (simp only [go_sem]; rfl)) (Nat.zero_le _) ?_
    rintro i hi
    have hrl := runU_len N ls i
    obtain ⟨out, hout⟩ : ∃ z, runU N ls i = z := ⟨_, rfl⟩
    rw [hout] at hrl
    rw [hout]
    refine W_seq fun kz8 kq8 => ?_
    refine W_seq fun kz9 kq9 => ?_
    refine W_region [0, 1, 4, 8, 26] fun R hR => ?_   -- r5
    simp only [go_sem, hrl]
    try simp (disch := omega) only [wrapI, wrapU]
    refine hR _ _ (kq9 _ _ ?_); clear hR R; try clear kq9 kz9
    try simp only [go_sem, hrl]
    refine W_cond rfl (fun c2 => ?_) (fun c2 => ?_)
    · -- c2 true
      try simp only [nrm] at c2
      have hiN : i < N - 1 := by first | omega | (simp at c2; omega)
      have hok := runU_ok N ls i (by omega)
      have hw := worst_ok (n := N) ls (out := out) (by omega)
      refine W_skip (kq8 _ _ ?_)
      refine W_block ?_
      refine W_scope ?_
      refine W_seq fun kz10 kq10 => ?_
      refine W_region [0, 1, 4, 8, 9] fun R hR => ?_   -- r6
      simp only [go_sem, hrl]
      refine hR _ _ (kq10 _ _ ?_); clear hR R; try clear kq10 kz10
      try simp only [go_sem, hrl]
      refine W_seq fun kz11 kq11 => ?_
      refine W_label (kq11 _ _ ?_)
      refine W_seq fun kz12 kq12 => ?_
      refine W_seq fun kz13 kq13 => ?_
      refine W_region [0, 1, 4, 8, 9, 27, 28, 29] fun R hR => ?_   -- r7
      simp only [go_sem, hrl]
      refine hR _ _ (kq13 _ _ ?_); clear hR R; try clear kq13 kz13
      try simp only [go_sem, hrl]
      refine W_block ?_
      refine W_loopT (α := Nat) (fun (j : Nat) => [(29, I j)]) (fun (j : Nat) => σ.ext [some (goneC out), some (manyC out (ls.take j))] [i]) (fun (j : Nat) => j ≤ ls.length) (fun (j : Nat) => ls.length - j) (0) rfl (by first | rfl | (simp only [go_sem]; done) | (simp only [go_sem]; rfl)) (Nat.zero_le _) ?_
      rintro j hj
      refine W_seq fun kz14 kq14 => ?_
      refine W_region [0, 1, 4, 8, 9, 27, 28, 29, 30] fun R hR => ?_   -- r8
      simp only [go_sem, hrl]
      refine hR _ _ (kq14 _ _ ?_); clear hR R; try clear kq14 kz14
      try simp only [go_sem, hrl]
      refine W_seq fun kz15 kq15 => ?_
      refine W_cond rfl (fun c3 => ?_) (fun c3 => ?_)
      · -- c3 true
        try simp only [nrm] at c3
        have hj' : j < ls.length := by first | assumption | omega
        obtain ⟨l, hlj⟩ : ∃ l, ls[j]? = some l := ⟨ls[j], by simp [hj']⟩
        have hdrop : ls.drop j = l :: ls.drop (j + 1) := by
          rw [List.drop_eq_getElem_cons hj']; congr 1; exact (List.getElem?_eq_some_iff.1 hlj).2
        have hsn : ls.take (j + 1) = ls.take j ++ [l] := by rw [List.take_add_one, hlj]; rfl
        have hlm := hmem l (List.mem_of_getElem? hlj)
        have hll := hl2 l (List.mem_of_getElem? hlj)
        have hj2 : j + 1 ≤ ls.length := hj'
        refine W_skip (kq15 _ _ ?_)
        refine W_seq fun kz16 kq16 => ?_
        refine W_block ?_
        refine W_seq fun kz17 kq17 => ?_
        refine W_region [0, 1, 4, 8, 9, 11, 27, 28, 29] fun R hR => ?_   -- r9
        simp only [go_sem, hrl, hlj, llPV]
        refine hR _ _ (kq17 _ _ ?_); clear hR R; try clear kq17 kz17
        try simp only [go_sem, hrl, hlj, llPV]
        refine W_seq fun kz18 kq18 => ?_
        refine W_region [0, 1, 4, 8, 9, 27, 28, 29, 33, 34, 35] fun R hR => ?_   -- r10
        simp only [go_sem, hrl, hlj, llPV]
        refine hR _ _ (kq18 _ _ ?_); clear hR R; try clear kq18 kz18
        try simp only [go_sem, hrl, hlj, llPV]
        refine W_block ?_
        refine W_loopT (α := Nat) (fun (k : Nat) => [(35, I k)]) (fun (k : Nat) => σ.ext [some (goneC out), some (manyC out (ls.take j))] [i]) (fun (k : Nat) => k ≤ l.length ∧ ∀ x, x ∈ l.take k → has out x = true) (fun (k : Nat) => l.length - k) (0) rfl (by first | rfl | (simp only [go_sem]; done) | (simp only [go_sem]; rfl)) (⟨Nat.zero_le _, fun x hx => by simp at hx⟩) ?_
        rintro k ⟨hk, hta⟩
        refine W_seq fun kz19 kq19 => ?_
        refine W_region [0, 1, 4, 8, 9, 27, 28, 29, 33, 34, 35, 36] fun R hR => ?_   -- r11
        simp only [go_sem, hrl, hlj, llPV]
        refine hR _ _ (kq19 _ _ ?_); clear hR R; try clear kq19 kz19
        try simp only [go_sem, hrl, hlj, llPV]
        refine W_seq fun kz20 kq20 => ?_
        refine W_cond rfl (fun c4 => ?_) (fun c4 => ?_)
        · -- c4 true
          try simp only [nrm] at c4
          have hk' : k < l.length := by first | assumption | omega
          obtain ⟨v, hv⟩ : ∃ v, l[k]? = some v := ⟨l[k], by simp [hk']⟩
          have hdrop : l.drop k = v :: l.drop (k + 1) := by
            rw [List.drop_eq_getElem_cons hk']; congr 1; exact (List.getElem?_eq_some_iff.1 hv).2
          have hvb := hlm v (List.mem_of_getElem? hv)
          obtain ⟨vn, hvn⟩ : ∃ z : Nat, v = z := ⟨v.toNat, by omega⟩
          subst hvn
          have hgv := goneC_get (out := out) (s := vn) (by omega)
          have hmv := manyC_get (out := out) (ls := ls.take j) (s := vn) (by omega)
          have hml := manyFor_le out (ls.take j) vn
          have hvn8 : (vn : Int) < 8 := by omega
          have hml8 : decide (vn + 1 ≤ (manyC out (ls.take j)).length) = true := decide_eq_true (by rw [manyC_len]; omega)
          rw [List.length_take] at hml
          refine W_skip (kq20 _ _ ?_)
          refine W_seq fun kz21 kq21 => ?_
          refine W_block ?_
          refine W_seq fun kz22 kq22 => ?_
          refine W_region [0, 1, 4, 8, 9, 13, 27, 28, 29, 33, 34, 35] fun R hR => ?_   -- r12
          simp only [go_sem, hrl, hlj, llPV, hv, hgv, hmv, hvn8, hml8, Nat.mul_one]
          refine hR _ _ (kq22 _ _ ?_); clear hR R; try clear kq22 kz22
          try simp only [go_sem, hrl, hlj, llPV, hv, hgv, hmv, hvn8, hml8, Nat.mul_one]
          refine W_seq fun kz23 kq23 => ?_
          refine W_region [0, 1, 4, 8, 9, 13, 27, 28, 29, 33, 34, 35, 42] fun R hR => ?_   -- r13
          simp only [go_sem, hrl, hlj, llPV, hv, hgv, hmv, hvn8, hml8, Nat.mul_one]
          refine hR _ _ (kq23 _ _ ?_); clear hR R; try clear kq23 kz23
          try simp only [go_sem, hrl, hlj, llPV, hv, hgv, hmv, hvn8, hml8, Nat.mul_one]
          refine W_cond rfl (fun c5 => ?_) (fun c5 => ?_)
          · -- c5 true
            try simp only [nrm] at c5
            have hf := firstLeft_at hta hv (by simpa using c5)
            have hset := manyC_some (out := out) (ls := ls.take j) (s := vn) (by omega) hf
            rw [← hsn] at hset
            refine W_seq fun kz24 kq24 => ?_
            refine W_region [0, 1, 4, 8, 9, 27, 28, 29] fun R hR => ?_   -- r14
            simp only [go_sem, hrl, hlj, llPV, hv, hgv, hmv, hvn8, hml8, Nat.mul_one, hset]
            try simp (disch := omega) only [wrapI, wrapU]
            refine hR _ _ (kq24 _ _ ?_); clear hR R; try clear kq24 kz24
            try simp only [go_sem, hrl, hlj, llPV, hv, hgv, hmv, hvn8, hml8, Nat.mul_one]
            refine W_exit ?_
            simp only [go_sem, hrl, hlj, llPV, hv, hgv, hmv, hvn8, hml8, Nat.mul_one]
            refine kq16 _ _ ?_
            refine W_region [0, 1, 4, 8, 9, 27, 28, 29] fun R hR => ?_   -- r16
            simp only [go_sem, hrl, hlj, llPV, hv, hgv, hmv, hvn8, hml8, Nat.mul_one]
            try simp (disch := omega) only [wrapI, wrapU]
            refine hR _ _ ?_; clear hR R
            try simp only [go_sem, hrl, hlj, llPV, hv, hgv, hmv, hvn8, hml8, Nat.mul_one]
            refine ⟨j + 1, ?_, by (try simp only []); omega, ?_⟩
            · first | exact Weak.refl | exact Weak.eq rfl (by rw [hmn]) | exact Weak.eq rfl (congrArg (fun z => σ.ext [some (goneC out), some z] [i]) hset)
            · try dsimp only
              exact hj2
          · -- c5 false
            try simp only [nrm] at c5
            have hhv : has out (vn : Int) = true := by simpa using c5
            refine W_skip (kq21 _ _ ?_)
            refine W_region [0, 1, 4, 8, 9, 27, 28, 29, 33, 34, 35] fun R hR => ?_   -- r15
            simp only [go_sem, hrl, hlj, llPV, hv, hgv, hmv, hvn8, hml8, Nat.mul_one]
            try simp (disch := omega) only [wrapI, wrapU]
            refine hR _ _ ?_; clear hR R
            try simp only [go_sem, hrl, hlj, llPV, hv, hgv, hmv, hvn8, hml8, Nat.mul_one]
            refine ⟨k + 1, ?_, by (try simp only []); omega, ?_⟩
            · first | exact Weak.refl | exact Weak.eq (by first | rfl | (simp only [go_sem]; done) | (simp only [go_sem]; rfl) | (simp [go_sem]; done) | (simp [go_sem]; omega)) (by first | rfl | (simp only [go_sem]; done) | (simp [go_sem]; done))
            · try dsimp only
              refine ⟨by omega, fun x hx => ?_⟩
              rw [List.take_add_one, hv] at hx
              rcases List.mem_append.1 hx with h | h
              · exact hta x h
              · simp at h; subst h; exact hhv
        · -- c4 false
          try simp only [nrm] at c4
          have hke : k = l.length := by omega
          rw [hke, List.take_length] at hta
          have hmn : manyC out (ls.take j) = manyC out (ls.take (j + 1)) := by rw [hsn, manyC_none (firstLeft_none hta)]
          refine W_exit ?_
          simp only [go_sem, hrl, hlj, llPV]
          refine kq16 _ _ ?_
          refine W_region [0, 1, 4, 8, 9, 27, 28, 29] fun R hR => ?_   -- r16
          simp only [go_sem, hrl, hlj, llPV]
          try simp (disch := omega) only [wrapI, wrapU]
          refine hR _ _ ?_; clear hR R
          try simp only [go_sem, hrl, hlj, llPV]
          refine ⟨j + 1, ?_, by (try simp only []); omega, ?_⟩
          · first | exact Weak.refl | exact Weak.eq rfl (by rw [hmn]) | exact Weak.eq rfl (congrArg (fun z => σ.ext [some (goneC out), some z] [i]) hset)
          · try dsimp only
            exact hj2
      · -- c3 false
        try simp only [nrm] at c3
        have hje : j = ls.length := by omega
        subst hje
        rw [List.take_length]
        refine W_exit ?_
        simp only [go_sem, hrl]
        refine kq12 _ _ ?_
        refine W_seq fun kz25 kq25 => ?_
        refine W_region [0, 1, 4, 8, 9, 14] fun R hR => ?_   -- r17
        simp only [go_sem, hrl]
        refine hR _ _ (kq25 _ _ ?_); clear hR R; try clear kq25 kz25
        try simp only [go_sem, hrl]
        refine W_seq fun kz26 kq26 => ?_
        refine W_seq fun kz27 kq27 => ?_
        refine W_region [0, 1, 4, 8, 9, 14, 50, 51] fun R hR => ?_   -- r18
        simp only [go_sem, hrl]
        refine hR _ _ (kq27 _ _ ?_); clear hR R; try clear kq27 kz27
        try simp only [go_sem, hrl]
        refine W_block ?_
        refine W_loopS (α := Nat) (fun (s : Nat) => [(14, I (worstF out ls s)), (51, I s)]) (fun (s : Nat) => s ≤ N) (fun (s : Nat) => N - s) (0) rfl (Nat.zero_le _) ?_
        rintro s hs
        refine W_seq fun kz28 kq28 => ?_
        refine W_region [0, 1, 4, 8, 9, 14, 50, 51, 52] fun R hR => ?_   -- r19
        simp only [go_sem, hrl]
        refine hR _ _ (kq28 _ _ ?_); clear hR R; try clear kq28 kz28
        try simp only [go_sem, hrl]
        refine W_seq fun kz29 kq29 => ?_
        refine W_cond rfl (fun c6 => ?_) (fun c6 => ?_)
        · -- c6 true
          try simp only [nrm] at c6
          have hsN : s < N := by first | omega | (simp at c6; omega)
          have hgs := goneC_get (out := out) (s := s) (by omega)
          have hms := manyC_get (out := out) (ls := ls) (s := s) (by omega)
          have hwb := worstF_bd out ls s
          have hs8 : (s : Int) < 8 := by omega
          refine W_skip (kq29 _ _ ?_)
          refine W_seq fun kz30 kq30 => ?_
          refine W_block ?_
          refine W_seq fun kz31 kq31 => ?_
          refine W_region [0, 1, 4, 8, 9, 14, 15, 50, 51] fun R hR => ?_   -- r20
          simp only [go_sem, hrl, hgs, hms, hs8, Nat.mul_one]
          refine hR _ _ (kq31 _ _ ?_); clear hR R; try clear kq31 kz31
          try simp only [go_sem, hrl, hgs, hms, hs8, Nat.mul_one]
          refine W_seq fun kz32 kq32 => ?_
          refine W_drawJ [0, 1, 4, 8, 9, 14, 15, 50, 51, 70] [(70, .bool (!has out s && (decide (worstF out ls s < 0) || decide (manyFor out ls s ≤ manyFor out ls (worstF out ls s)))))] [0, 1, 2, 3, 4, 5, 6, 7, 8, 9, 10, 11, 12, 13, 14, 15, 16] [] [[], [0], [0, 1], [0, 1, 2], [0, 1, 2, 3], [0, 1, 2, 3, 4], [0, 1, 2, 3, 4, 5], [0, 1, 2, 3, 4, 5, 6], [0, 1, 2, 3, 4, 5, 6, 7], [0, 1, 2, 3, 4, 5, 6, 7, 8], [0, 1, 2, 3, 4, 5, 6, 7, 8, 9], [0, 1, 2, 3, 4, 5, 6, 7], [0, 1, 2, 3, 4, 5, 6, 7, 11], [0, 1, 2, 3, 4, 5, 6, 7, 11, 12], [0, 1, 2, 3, 4, 5, 6, 7, 8, 9, 10, 11, 12, 13], [0, 1, 2, 3, 4, 5, 6, 7, 8, 9, 10, 11, 12, 13, 14], [0, 1, 2, 3, 4, 5, 6, 7, 8, 9, 10, 11, 12, 13, 14, 15]] mixed (by kernel_rfl) ?_ fun R hR => ?_   -- r21
          · refine kq32 _ _ ?_
            simp only [go_sem, hrl, hgs, hms, hs8, Nat.mul_one]
            refine W_cond rfl (fun c7 => ?_) (fun c7 => ?_)
            · -- c7 true
              try simp only [nrm] at c7
              have hws1 : worstF out ls (s + 1) = (s : Int) := by simp only [worstF]; rw [if_pos c7]
              refine W_region [0, 1, 4, 8, 9, 14, 50, 51] fun R hR => ?_   -- r22
              simp only [go_sem, hrl, hgs, hms, hs8, Nat.mul_one]
              refine hR _ _ (kq30 _ _ ?_); clear hR R; try clear kq30 kz30
              try simp only [go_sem, hrl, hgs, hms, hs8, Nat.mul_one]
              refine W_region [0, 1, 4, 8, 9, 14, 50, 51] fun R hR => ?_   -- r23
              simp only [go_sem, hrl, hgs, hms, hs8, Nat.mul_one]
              try simp (disch := omega) only [wrapI, wrapU]
              refine hR _ _ ?_; clear hR R
              try simp only [go_sem, hrl, hgs, hms, hs8, Nat.mul_one]
              refine ⟨s + 1, ?_, by (try simp only []); omega, ?_⟩
              · refine Weak.eq (by simp only [hws1]; first | done | rfl | (simp only [go_sem]; done)) rfl
              · try dsimp only
                omega
            · -- c7 false
              try simp only [nrm] at c7
              have hws1 : worstF out ls (s + 1) = worstF out ls s := by simp only [worstF]; rw [if_neg (by rw [c7]; simp)]
              refine W_skip (kq30 _ _ ?_)
              refine W_region [0, 1, 4, 8, 9, 14, 50, 51] fun R hR => ?_   -- r23
              simp only [go_sem, hrl, hgs, hms, hs8, Nat.mul_one]
              try simp (disch := omega) only [wrapI, wrapU]
              refine hR _ _ ?_; clear hR R
              try simp only [go_sem, hrl, hgs, hms, hs8, Nat.mul_one]
              refine ⟨s + 1, ?_, by (try simp only []); omega, ?_⟩
              · refine Weak.eq (by simp only [hws1]; first | done | rfl | (simp only [go_sem]; done)) rfl
              · try dsimp only
                omega
          · simp only [go_sem, hrl, hgs, hms, hs8, Nat.mul_one]
            refine GWant_split (fun g1 => ?_) (fun g1 => ?_)
            · try simp only [Bool.not_eq_true', Bool.not_eq_false'] at g1
              have n1 := g1; try simp only [nrm] at n1
              simp only [go_sem, hrl, hgs, hms, hs8, Nat.mul_one, g1]
              refine GWant_split (fun g2 => ?_) (fun g2 => ?_)
              · try simp only [Bool.not_eq_true', Bool.not_eq_false'] at g2
                have n2 := g2; try simp only [nrm] at n2
                obtain ⟨wn, hwn⟩ : ∃ z : Nat, worstF out ls s = z := ⟨(worstF out ls s).toNat, by simp at g2; omega⟩
                rw [hwn] at g2
                have hmw := manyC_get (out := out) (ls := ls) (s := wn) (by omega)
                have hwn8 : (wn : Int) < 8 := by omega
                simp only [go_sem, hrl, hgs, hms, hs8, Nat.mul_one, hwn, hmw, hwn8, Nat.mul_one, g1, g2]
                try refine And.intro (by repeat' (first | refine And.intro ?_ ?_ | exact GOr_right (fun _ => by simp only [go_sem, hrl, hgs, hms, hs8, Nat.mul_one, hwn, hmw, hwn8, Nat.mul_one]))) ?_
                refine hR _ ?_
                all_goals try simp only [go_sem, hrl, hgs, hms, hs8, Nat.mul_one, hwn, hmw, hwn8, Nat.mul_one]
                all_goals
                  first | rfl | (simp [*]; done) | (simp_all; done) | (simp_all; omega)
              · try simp only [Bool.not_eq_true', Bool.not_eq_false'] at g2
                have n2 := g2; try simp only [nrm] at n2
                simp only [go_sem, hrl, hgs, hms, hs8, Nat.mul_one, g1, g2]
                try refine And.intro (by repeat' (first | refine And.intro ?_ ?_ | exact GOr_right (fun _ => by simp only [go_sem, hrl, hgs, hms, hs8, Nat.mul_one]))) ?_
                refine hR _ ?_
                all_goals try simp only [go_sem, hrl, hgs, hms, hs8, Nat.mul_one]
                all_goals
                  first | rfl | (simp [*]; done) | (simp_all; done) | (simp_all; omega)
            · try simp only [Bool.not_eq_true', Bool.not_eq_false'] at g1
              have n1 := g1; try simp only [nrm] at n1
              simp only [go_sem, hrl, hgs, hms, hs8, Nat.mul_one, g1]
              try refine And.intro (by repeat' (first | refine And.intro ?_ ?_ | exact GOr_right (fun _ => by simp only [go_sem, hrl, hgs, hms, hs8, Nat.mul_one]))) ?_
              refine hR _ ?_
              all_goals try simp only [go_sem, hrl, hgs, hms, hs8, Nat.mul_one]
              all_goals
                first | rfl | (simp [*]; done) | (simp_all; done) | (simp_all; omega)
        · -- c6 false
          try simp only [nrm] at c6
          have hse : N = s := by first | omega | (simp at c6; omega)
          subst hse
          obtain ⟨wl, hwl⟩ : ∃ z : Nat, worstF out ls N = z := ⟨(worstF out ls N).toNat, by omega⟩
          have hgset := goneC_set (out := out) (s := wl) (by omega)
          have hwl8 : (wl : Int) < 8 := by omega
          have hgl8 : decide (wl + 1 ≤ (goneC out).length) = true := decide_eq_true (by rw [goneC_len]; omega)
          refine W_exit ?_
          simp only [go_sem, hrl, hwl, hgset, hwl8, hgl8, Nat.mul_one]
          refine kq26 _ _ ?_
          refine W_seq fun kz33 kq33 => ?_
          refine W_region [0, 1, 4, 8, 14] fun R hR => ?_   -- r24
          simp only [go_sem, hrl, hwl, hgset, hwl8, hgl8, Nat.mul_one]
          refine hR _ _ (kq33 _ _ ?_); clear hR R; try clear kq33 kz33
          try simp only [go_sem, hrl, hwl, hgset, hwl8, hgl8, Nat.mul_one]
          refine W_region [0, 1, 4, 8] fun R hR => ?_   -- r25
          simp only [go_sem, hrl, hwl, hgset, hwl8, hgl8, Nat.mul_one]
          try simp (disch := first | omega | (simp only [go_sem] <;> omega)) only [wrapI, wrapU, appX_exact, appX_tok]
          try simp only [go_sem, hrl, hwl, hgset, hwl8, hgl8, Nat.mul_one]
          refine hR _ _ ?_; clear hR R
          try simp only [go_sem, hrl, hwl, hgset, hwl8, hgl8, Nat.mul_one]
          refine ⟨i + 1, ?_, by (try simp only []); omega, ?_⟩
          · have hru : runU N ls (i + 1) = out ++ [(wl : Int)] := by simp only [runU, hout, hwl]
            refine Weak.trans (Weak.cutX 1 1 (by omega) (by omega) hcl ?_ ?_) ?_
            · simp only [go_sem, eq_true (goneC_clean _)]
            · simp only [go_sem]
              all_goals first | omega | exact fail1
            simp only [go_sem]
            refine Weak.eq ?_ ?_
            · simp only [hru, List.map_append, List.map_cons, List.map_nil]; first | done | rfl
            · simp only [hru]; first | done | rfl
          · try dsimp only
            omega
    · -- c2 false
      try simp only [nrm] at c2
      have hie : i = N - 1 := by first | omega | (simp at c2; omega)
      subst hie
      have hlo := some_left (n := N) (out := out) (by omega)
      have hsl : ∀ id, slicePV Try.prog 86 (.ptr id 0) none (some (I N)) none = some (.msl id 0 N) := fun id => sl86 (by omega) (by omega)
      refine W_exit ?_
      simp only [go_sem, hrl, hsl]
      refine kq7 _ _ ?_
      refine W_seq fun kz34 kq34 => ?_
      refine W_region [4, 5, 6] fun R hR => ?_   -- r26
      simp only [go_sem, hrl, hsl]
      refine GCall_of (gIndex_pc Y (σ.ext [some (goneC out)] [N - 1]) out σ.store.length N (by omega) (Sg.get_ext0 ..)) ?_   -- t82
      simp only [go_sem, hrl, hsl]
      refine hR _ _ (kq34 _ _ ?_); clear hR R; try clear kq34 kz34
      try simp only [go_sem, hrl, hsl]
      refine W_ret ?_
      simp only [go_sem, hrl, hsl]
      refine ⟨.inr (by trivial), ?_⟩
      first | (rw [hall]; refine Fin_same hcl rfl (Wk.ro (by simp only [go_sem]) ?_)) | refine Fin_same hcl rfl (Wk.ro (by simp only [go_sem]) ?_) | refine Fin_self hcl rfl (Wk.ro (by simp only [go_sem]) ?_)
      try simp only [go_sem]
      all_goals
        first | done | rfl | (simp only [go_sem]; done) | (rw [idxF_eq (n := N) (out := out) N 0 (by omega) (by obtain ⟨s, h1, h2⟩ := hlo; exact ⟨s, Nat.zero_le _, h1, h2⟩), hout]; first | done | rfl)
end Go.Proofs.Ytnolifglhhjdnaa
