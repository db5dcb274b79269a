/-
  Walks: who is missing, as the document has it.
  Walks: points and standings, as the document has them.
  Walks: standings and who is ahead, as the document has them.
  Walks: totals, places and who wins, as the document has them.
  Walks: standings sorted, as the library does it with few of them (marks).
  Walks: places, who wins, the table (marks).
  Walks: the table of a night that is decided (marks).
  Standings sorted: each school once, nobody behind one that it is ahead of. The plain law.
  The document's table: one after the other is put in its place. The plain law.
  Regions in which what is known may be weakened after some operations.
  A variable to which a pointer points, and that is never written again.
  Walks: the table, as the document has it.
  Walks: lists compared; the chapter's examples.
  Walks: copies and comparisons of scales and nights (bateriakit); what is too wide.
  Numbers that follow from numbers (bateriakit): the drum.
-/
import Derived.Test.YtgelnjmddabgpaaGreatPe
import Derived.CallsIn
import Derived.RangeFuncLeaves
import Derived.RangeFuncRecord
import Derived.OrdersIn
import Derived.Below
import Derived.Laws.World
import Derived.Laws.StructEq
import Derived.Laws.Append
import Derived.MapKept
import Derived.ProofKit
import Derived.Carry
import Derived.Handed
import Derived.ChangeCalls
import Derived.RangeFuncIn
import Derived.RangeFuncNested
import Derived.Test.YtgelnjmddabgpaaGreatProg
import Derived.KernelRfl
import Derived.IntWalk
import Derived.Test.YtgelnjmddabgpaaGreatRows
import Derived.Sort.OwnSortedInts
import Derived.Lib.SlicesCompact
import Derived.Shelf.Sort.Plain
import Derived.Shelf.Slices.In.SortNone
import Derived.Shelf.Small.Bits
import Derived.JoinedOf
set_option linter.unusedSimpArgs false
set_option linter.unusedVariables false
namespace Go.Proofs.YtgelnjmddabgpaaGreat
open Go Go.RowKit
set_option maxRecDepth 100000
def rowU (k : Kn) (i j : Nat) : List (Int × Int) := ((List.range j).map fun (q : Nat) => ((i : Int), (q : Int))).filter fun p => (aget p k).isNone
def upU (k : Kn) (J : Nat) : Nat → List (Int × Int)
  | 0 => []
  | i + 1 => upU k J i ++ rowU k i J
theorem rowU_succ (k : Kn) (i j : Nat) : rowU k i (j + 1) = rowU k i j ++ if (aget ((i : Int), (j : Int)) k).isNone = true then [((i : Int), (j : Int))] else [] := by
  unfold rowU
  rw [List.range_succ, List.map_append, List.filter_append]
  congr 1
  cases h : (aget ((i : Int), (j : Int)) k).isNone <;> simp [h]
theorem rowU_len (k : Kn) (i j : Nat) : (rowU k i j).length ≤ j := by
  unfold rowU
  have := List.length_filter_le (fun p => (aget p k).isNone) ((List.range j).map fun (q : Nat) => ((i : Int), (q : Int)))
  simpa using this
theorem sealedK_up {s : Scale} {M J : Nat} (hM : s.matters = M) (hJ : s.judges = J) (k : Kn) : sealedK s k = upU k J M := by
  unfold sealedK
  rw [allJ_eq hM hJ]
  clear hM hJ
  induction M with
  | zero => rfl
  | succ M ih =>
    rw [List.range_succ, List.flatMap_append, List.filter_append, ih]
    simp only [upU]
    congr 1
    simp [rowU]
theorem night_none {s : Scale} {n : Night} (h : NightV s n) (a b : Int) :
    (fIdx (isJ a b) 0 n.opened < 0 → (aget (a, b) (knownK s n)).isNone = !(n.absent.any (isA a b))) ∧ (¬ fIdx (isJ a b) 0 n.opened < 0 → (aget (a, b) (knownK s n)).isNone = false) := by
  have hg := h.get (a, b)
  unfold kOf at hg
  rw [hg]
  constructor
  · intro hf
    have : findE n.opened (a, b) = none := Classical.not_not.1 fun e => by have := fIdx_neg.2 e; omega
    rw [this]
    simp only
    by_cases ha : (a, b) ∈ n.absent
    · rw [if_pos ha, any_isA.2 ha]; rfl
    · rw [if_neg ha]
      have : n.absent.any (isA a b) = false := by rw [← Bool.not_eq_true]; exact fun e => ha (any_isA.1 e)
      rw [this]; rfl
  · intro hf
    have : findE n.opened (a, b) ≠ none := fIdx_neg.1 (by omega)
    cases hq : findE n.opened (a, b) with
    | none => exact absurd hq this
    | some v => rfl
set_option maxHeartbeats 2000000 in
theorem rmiss_pc (Y : YEnv) (σ : Sg) (s : Scale) (n : Night) (hN : NightV s n) :
    PC Tryz.prog Y 61 [scPV s, ngPV n] σ (sts (sealedK s (knownK s n))) (σ) := by
  refine PC_of_W Tryz.func61 rfl (by kernel_rfl) Tryz.ntmps61 (by simp) fun hcl hca => ?_
  have hv := Scale.v hN.c
  have q1 := hv.mt
  have q2 := hv.jd
  have hnO := hN.o60
  have hnA := hN.a60
  obtain ⟨M, hM⟩ : ∃ z : Nat, s.matters = z := ⟨s.matters.toNat, by omega⟩
  obtain ⟨J, hJ⟩ : ∃ z : Nat, s.judges = z := ⟨s.judges.toNat, by omega⟩
  have hMi : (s.matters : Int) = (M : Int) := hM
  have hJi : (s.judges : Int) = (J : Int) := hJ
  rw [sealedK_up hM hJ]
  have hno := fun a b => night_none hN a b
  obtain ⟨K, hK⟩ : ∃ z, knownK s n = z := ⟨_, rfl⟩
  simp only [hK] at hno ⊢
  refine W_seq fun kz1 kq1 => ?_
  refine W_region [2, 3] fun R hR => ?_   -- r0
  simp only [go_sem]
  refine hR _ _ (kq1 _ _ ?_); clear hR R; try clear kq1 kz1
  try simp only [go_sem]
  refine W_seq fun kz2 kq2 => ?_
  refine W_region [2, 3, 5] fun R hR => ?_   -- r1
  simp only [go_sem]
  refine hR _ _ (kq2 _ _ ?_); clear hR R; try clear kq2 kz2
  try simp only [go_sem]
  refine W_seq fun kz3 kq3 => ?_
  refine W_seq fun kz4 kq4 => ?_
  refine W_region [2, 3, 5, 6] fun R hR => ?_   -- r2
  simp only [go_sem]
  refine hR _ _ (kq4 _ _ ?_); clear hR R; try clear kq4 kz4
  try simp only [go_sem]
  refine W_block ?_
  refine W_weak (Weak.room (t := 5) (es := 2) rfl (by simp)) ?_
  refine W_weak (Weak.keep [2, 3, 5, 6]) ?_
  simp only [go_sem]
  refine W_loopT (α := Nat) (fun (i : Nat) => [(5, .isl ((upU K J i).map stPV) (.tok σ.rooms.length (upU K J i).length 2)), (6, I i)]) (fun (i : Nat) => σ.ext [some (scCells s), some (ngCells n)] [(upU K J i).length]) (fun (i : Nat) => i ≤ M ∧ (upU K J i).length ≤ 5 * i) (fun (i : Nat) => M - i) (0) rfl (by first | rfl | (simp only [go_sem]; done) | (simp only [go_sem]; rfl)) (⟨Nat.zero_le _, Nat.le_refl _⟩) ?_
  rintro i ⟨hi, hul⟩
  refine W_seq fun kz5 kq5 => ?_
  refine W_seq fun kz6 kq6 => ?_
  refine W_region [2, 3, 5, 6, 11] fun R hR => ?_   -- r3
  simp only [go_sem]
  refine hR _ _ (kq6 _ _ ?_); clear hR R; try clear kq6 kz6
  try simp only [go_sem]
  refine W_cond rfl (fun c1 => ?_) (fun c1 => ?_)
  · -- c1 true
    try simp only [nrm] at c1
    have hiM : i < M := by first | omega | (simp at c1; omega)
    have hrl := rowU_len K i J
    refine W_skip (kq5 _ _ ?_)
    refine W_seq fun kz7 kq7 => ?_
    refine W_block ?_
    refine W_seq fun kz8 kq8 => ?_
    refine W_region [2, 3, 5, 6, 7] fun R hR => ?_   -- r5
    simp only [go_sem]
    refine hR _ _ (kq8 _ _ ?_); clear hR R; try clear kq8 kz8
    try simp only [go_sem]
    refine W_block ?_
    refine W_loopT (α := Nat × (List (Int × Int))) (fun ⟨j, acc⟩ => [(5, .isl (acc.map stPV) (.tok σ.rooms.length acc.length 2)), (7, I j)]) (fun ⟨j, acc⟩ => σ.ext [some (scCells s), some (ngCells n)] [acc.length]) (fun ⟨j, acc⟩ => j ≤ J ∧ acc = upU K J i ++ rowU K i j ∧ acc.length ≤ 5 * i + j) (fun ⟨j, acc⟩ => J - j) ((0, upU K J i)) rfl (by first | rfl | (simp only [go_sem]; done) | (simp only [go_sem]; rfl)) (⟨Nat.zero_le _, by simp [rowU], by omega⟩) ?_
    rintro ⟨j, acc⟩ ⟨hj, hac, hal⟩
    refine W_seq fun kz9 kq9 => ?_
    refine W_seq fun kz10 kq10 => ?_
    refine W_region [2, 3, 5, 6, 7, 17] fun R hR => ?_   -- r6
    simp only [go_sem]
    refine hR _ _ (kq10 _ _ ?_); clear hR R; try clear kq10 kz10
    try simp only [go_sem]
    refine W_cond rfl (fun c2 => ?_) (fun c2 => ?_)
    · -- c2 true
      try simp only [nrm] at c2
      have hjJ : j < J := by first | omega | (simp at c2; omega)
      have hrs := rowU_succ K i j
      refine W_skip (kq9 _ _ ?_)
      refine W_seq fun kz11 kq11 => ?_
      refine W_block ?_
      refine W_seq fun kz12 kq12 => ?_
      refine W_regionJ [2, 3, 5, 6, 7, 33] [(33, .bool ((aget ((i : Int), (j : Int)) K).isNone))] ?_ fun R hR => ?_   -- r8
      · refine kq12 _ _ ?_
        simp only [go_sem]
        refine W_cond rfl (fun c3 => ?_) (fun c3 => ?_)
        · -- c3 true
          try simp only [nrm] at c3
          refine W_region [2, 3, 5, 6, 7] fun R hR => ?_   -- r9
          simp only [go_sem]
          try simp (disch := first | omega | (simp only [go_sem] <;> omega)) only [wrapI, wrapU, appX_exact, appX_tok]
          try simp only [go_sem]
          refine hR _ _ (kq11 _ _ ?_); clear hR R; try clear kq11 kz11
          try simp only [go_sem]
          refine W_region [2, 3, 5, 6, 7] fun R hR => ?_   -- r7
          simp only [go_sem]
          try simp (disch := omega) only [wrapI, wrapU]
          refine hR _ _ ?_; clear hR R
          try simp only [go_sem]
          refine ⟨(j + 1, acc ++ [((i : Int), (j : Int))]), ?_, by (try simp only []); omega, ?_⟩
          · first | exact Weak.refl | exact Weak.eq (by first | rfl | (simp only [go_sem]; done) | (simp only [go_sem]; rfl) | (simp [go_sem]; done) | (simp [go_sem]; omega)) (by first | rfl | (simp only [go_sem]; done) | (simp [go_sem]; done))
          · try dsimp only
            first
            | (rw [if_pos c3] at hrs; exact ⟨by omega, by rw [hrs, hac, List.append_assoc], by simp; omega⟩)
            | (rw [c3, if_neg (by simp)] at hrs; exact ⟨by omega, by rw [hrs, hac, List.append_nil], by omega⟩)
        · -- c3 false
          try simp only [nrm] at c3
          refine W_skip (kq11 _ _ ?_)
          refine W_region [2, 3, 5, 6, 7] fun R hR => ?_   -- r7
          simp only [go_sem]
          try simp (disch := omega) only [wrapI, wrapU]
          refine hR _ _ ?_; clear hR R
          try simp only [go_sem]
          refine ⟨(j + 1, acc), ?_, by (try simp only []); omega, ?_⟩
          · first | exact Weak.refl | exact Weak.eq (by first | rfl | (simp only [go_sem]; done) | (simp only [go_sem]; rfl) | (simp [go_sem]; done) | (simp [go_sem]; omega)) (by first | rfl | (simp only [go_sem]; done) | (simp [go_sem]; done))
          · try dsimp only
            first
            | (rw [if_pos c3] at hrs; exact ⟨by omega, by rw [hrs, hac, List.append_assoc], by simp; omega⟩)
            | (rw [c3, if_neg (by simp)] at hrs; exact ⟨by omega, by rw [hrs, hac, List.append_nil], by omega⟩)
      · simp only [go_sem]
        refine GCall_of (rFind_pc Y _ n.opened i j (by omega)) ?_   -- t24
        simp only [go_sem]
        refine GWant_split (fun g1 => ?_) (fun g1 => ?_)
        · try simp only [Bool.not_eq_true', Bool.not_eq_false'] at g1
          have n1 := g1; try simp only [nrm] at n1
          simp only [go_sem, g1]
          refine GCall_of (rAbs_pc Y _ n.absent i j (by omega)) ?_   -- t31
          simp only [go_sem, g1]
          refine hR _ ?_
          all_goals try simp only [go_sem]
          all_goals
            first | (rw [(hno i j).1 (by first | exact of_decide_eq_true g1 | simpa using g1)]; done) | (rw [(hno i j).2 (by first | exact of_decide_eq_false g1 | simpa using g1)]; done) | (rw [(hno i j).1 (by first | exact of_decide_eq_true g2 | simpa using g2)]; done) | (rw [(hno i j).2 (by first | exact of_decide_eq_false g2 | simpa using g2)]; done)
        · try simp only [Bool.not_eq_true', Bool.not_eq_false'] at g1
          have n1 := g1; try simp only [nrm] at n1
          simp only [go_sem, g1]
          refine hR _ ?_
          all_goals try simp only [go_sem]
          all_goals
            first | (rw [(hno i j).1 (by first | exact of_decide_eq_true g1 | simpa using g1)]; done) | (rw [(hno i j).2 (by first | exact of_decide_eq_false g1 | simpa using g1)]; done) | (rw [(hno i j).1 (by first | exact of_decide_eq_true g2 | simpa using g2)]; done) | (rw [(hno i j).2 (by first | exact of_decide_eq_false g2 | simpa using g2)]; done)
    · -- c2 false
      try simp only [nrm] at c2
      have hje : j = J := by first | omega | (simp at c2; omega)
      refine W_exit ?_
      simp only [go_sem]
      refine kq7 _ _ ?_
      refine W_region [2, 3, 5, 6] fun R hR => ?_   -- r4
      simp only [go_sem]
      try simp (disch := omega) only [wrapI, wrapU]
      refine hR _ _ ?_; clear hR R
      try simp only [go_sem]
      refine ⟨i + 1, ?_, by (try simp only []); omega, ?_⟩
      · refine Weak.eq ?_ ?_
        · simp only [go_sem, hac, hje, upU]
          first | done | rfl
        · simp only [go_sem, hac, hje, upU]
      · try dsimp only
        exact ⟨by omega, by simp only [upU, List.length_append]; omega⟩
  · -- c1 false
    try simp only [nrm] at c1
    have hie : M = i := by first | omega | (simp at c1; omega)
    subst hie
    refine W_exit ?_
    simp only [go_sem]
    refine kq3 _ _ ?_
    refine W_seq fun kz13 kq13 => ?_
    refine W_region [4] fun R hR => ?_   -- r10
    simp only [go_sem]
    refine hR _ _ (kq13 _ _ ?_); clear hR R; try clear kq13 kz13
    try simp only [go_sem]
    refine W_ret ?_
    simp only [go_sem]
    refine ⟨.inr (by trivial), ?_⟩
    refine Fin_same hcl rfl (Wk.ro (by simp only [go_sem]) ?_)
    try simp only [go_sem]
    all_goals
      first | rfl | simp only [go_sem]
end Go.Proofs.YtgelnjmddabgpaaGreat
namespace Go.Proofs.YtgelnjmddabgpaaGreat
open Go Go.RowKit
set_option maxRecDepth 100000
theorem presL_len (k : Kn) (m : Int) (i : Nat) : (presL k m i).length ≤ i := by
  unfold presL
  have := List.length_filter_le (fun n => !(absentK k (m, n))) ((List.range i).map fun (n : Nat) => (n : Int))
  simpa using this
set_option maxHeartbeats 8000000 in
theorem rPoints_pc (Y : YEnv) (σ : Sg) (s : Scale) (n : Night) (hN : NightV s n) (sc : Nat) (hsc : (sc : Int) < s.schools) (m : Nat) (hm : (m : Int) < s.matters) (u : Int) (hu : 0 ≤ u ∧ u ≤ 100) :
    PC Tryz.prog Y 90 [scPV s, ngPV n, I sc, I m, I u] σ (I (pointsK s (knownK s n) sc m u)) (σ) := by
  refine PC_of_W Tryz.func90 rfl (by kernel_rfl) Tryz.ntmps90 (by simp) fun hcl hca => ?_
  have hv := Scale.v hN.c
  have q2 := hv.jd
  have q4 := hv.dr
  have hnO := hN.o60
  have hnA := hN.a60
  have hV := known_V (nightV_iff.2 hN)
  obtain ⟨K, hK⟩ : ∃ z, knownK s n = z := ⟨_, rfl⟩
  rw [hK] at hV ⊢
  obtain ⟨J, hJ⟩ : ∃ z : Nat, s.judges = z := ⟨s.judges.toNat, by omega⟩
  obtain ⟨D, hD⟩ : ∃ z : Nat, s.drop = z := ⟨s.drop.toNat, by omega⟩
  have hJi : (s.judges : Int) = (J : Int) := hJ
  have hDi : (s.drop : Int) = (D : Int) := hD
  have hpres : presL K (m : Int) J ≠ [] := by
    rw [← presL_J hJ]; exact short_pres hV.sh (M := s.matters.toNat) (by have := hv.mt; omega) (by omega)
  have hmb := meanM_bd hv hV.ok hu sc m
  obtain ⟨mean, hmean⟩ : ∃ z, meanM s K sc m u = z := ⟨_, rfl⟩
  rw [hmean] at hmb
  have hpf := points_full (s := s) (k := K) (sc := sc) (m := m) (u := u) hJ
  have hpp := full_perm (s := s) (k := K) (sc := sc) (m := m) (u := u) hJ
  have hpb := panelM_bd hv hV.ok hu sc m
  refine W_seq fun kz1 kq1 => ?_
  refine W_region [2, 3, 4, 5, 6] fun R hR => ?_   -- r0
  simp only [go_sem]
  refine hR _ _ (kq1 _ _ ?_); clear hR R; try clear kq1 kz1
  try simp only [go_sem]
  refine W_seq fun kz2 kq2 => ?_
  refine W_region [2, 3, 4, 5, 6, 11] fun R hR => ?_   -- r1
  simp only [go_sem]
  refine hR _ _ (kq2 _ _ ?_); clear hR R; try clear kq2 kz2
  try simp only [go_sem]
  refine W_seq fun kz3 kq3 => ?_
  refine W_region [2, 3, 4, 5, 6, 11, 12] fun R hR => ?_   -- r2
  simp only [go_sem]
  refine hR _ _ (kq3 _ _ ?_); clear hR R; try clear kq3 kz3
  try simp only [go_sem]
  refine W_seq fun kz4 kq4 => ?_
  refine W_seq fun kz5 kq5 => ?_
  refine W_region [2, 3, 4, 5, 6, 11, 12, 13] fun R hR => ?_   -- r3
  simp only [go_sem]
  refine hR _ _ (kq5 _ _ ?_); clear hR R; try clear kq5 kz5
  try simp only [go_sem]
  refine W_block ?_
  refine W_weak (Weak.room (t := 11) (es := 1) rfl (by simp)) ?_
  refine W_weak (Weak.keep [2, 3, 4, 5, 6, 11, 12, 13]) ?_
  simp only [go_sem]
  refine W_loopT (α := Nat × Int) (fun ⟨i, sm⟩ => [(11, .isl (((presL K m i).map (mkAt K sc m u)).map I) (.tok σ.rooms.length (presL K m i).length 1)), (12, I sm), (13, I i)]) (fun ⟨i, sm⟩ => σ.ext [some (scCells s), some (ngCells n)] [(presL K m i).length]) (fun ⟨i, sm⟩ => i ≤ J ∧ sm = sumI ((presL K m i).map (mkAt K sc m u)) ∧ 0 ≤ sm ∧ sm ≤ 100 * (i : Int)) (fun ⟨i, sm⟩ => J - i) ((0, 0)) rfl (by first | rfl | (simp only [go_sem]; done) | (simp only [go_sem]; rfl)) (⟨Nat.zero_le _, rfl, Int.le_refl _, Int.le_refl _⟩) ?_
  rintro ⟨i, sm⟩ ⟨hi, hsm, hs1, hs2⟩
  have hpll := presL_len K m i
  refine W_seq fun kz6 kq6 => ?_
  refine W_seq fun kz7 kq7 => ?_
  refine W_region [2, 3, 4, 5, 6, 11, 12, 13, 22] fun R hR => ?_   -- r4
  simp only [go_sem]
  refine hR _ _ (kq7 _ _ ?_); clear hR R; try clear kq7 kz7
  try simp only [go_sem]
  refine W_cond rfl (fun c1 => ?_) (fun c1 => ?_)
  · -- c1 true
    try simp only [nrm] at c1
    have hiJ : i < J := by first | omega | (simp at c1; omega)
    have hps := presL_succ K m i
    have hnf := night_find hN m i sc hsc u
    rw [hK] at hnf
    have hkb := mkAt_bd hv hV.ok hu sc m i
    have hpok : okC 1 (((presL K m i).map (mkAt K sc m u)).map I) = True := by simp only [go_sem]
    refine W_skip (kq6 _ _ ?_)
    refine W_seq fun kz8 kq8 => ?_
    refine W_block ?_
    refine W_seq fun kz9 kq9 => ?_
    refine W_seq fun kz10 kq10 => ?_
    refine W_region [2, 3, 4, 5, 6, 11, 12, 13, 29] fun R hR => ?_   -- r6
    simp only [go_sem]
    refine GCall_of (PC.val (v' := .bool (absentK K ((m : Int), (i : Int)))) (rAbs_pc Y _ n.absent m i (by omega)) (by rw [night_abs hN, hK])) ?_   -- t29
    simp only [go_sem]
    refine hR _ _ (kq10 _ _ ?_); clear hR R; try clear kq10 kz10
    try simp only [go_sem]
    refine W_cond rfl (fun c2 => ?_) (fun c2 => ?_)
    · -- c2 true
      try simp only [nrm] at c2
      have ha : absentK K ((m : Int), (i : Int)) = true := c2
      have hps2 : presL K m (i + 1) = presL K m i := by rw [hps, ha, if_pos rfl]
      refine W_exit ?_
      simp only [go_sem]
      refine kq8 _ _ ?_
      refine W_region [2, 3, 4, 5, 6, 11, 12, 13] fun R hR => ?_   -- r5
      simp only [go_sem]
      try simp (disch := omega) only [wrapI, wrapU]
      refine hR _ _ ?_; clear hR R
      try simp only [go_sem]
      refine ⟨(i + 1, sm), ?_, by (try simp only []); omega, ?_⟩
      · refine Weak.eq ?_ ?_
        · first | (simp only [go_sem, hps2, List.map_append, List.map_cons, List.map_nil, List.length_append, f4]; done) | (simp only [go_sem, hps2, List.map_append, List.map_cons, List.map_nil, List.length_append, f4]; rfl) | (simp only [go_sem, hps2]; done) | (simp only [go_sem, hps2]; rfl)
        · simp only [go_sem, hps2, List.length_append, List.length_cons, List.length_nil]
      · try dsimp only
        rw [hps2]
        first
        | exact ⟨by omega, hsm, by omega, by omega⟩
        | (refine ⟨by omega, ?_, by omega, by omega⟩
           rw [List.map_append, sumI_append, ← hsm]; simp only [List.map_cons, List.map_nil, sumI, f4]; omega)
    · -- c2 false
      try simp only [nrm] at c2
      have ha : absentK K ((m : Int), (i : Int)) = false := by simpa using c2
      have hps2 : presL K m (i + 1) = presL K m i ++ [(i : Int)] := by rw [hps, ha, if_neg (by simp)]
      refine W_skip (kq9 _ _ ?_)
      refine W_seq fun kz11 kq11 => ?_
      refine W_region [2, 3, 4, 5, 6, 11, 12, 13, 14] fun R hR => ?_   -- r7
      simp only [go_sem]
      refine hR _ _ (kq11 _ _ ?_); clear hR R; try clear kq11 kz11
      try simp only [go_sem]
      refine W_seq fun kz12 kq12 => ?_
      refine W_seq fun kz13 kq13 => ?_
      refine W_region [2, 3, 4, 5, 6, 11, 12, 13, 14, 15] fun R hR => ?_   -- r8
      simp only [go_sem]
      refine GCall_of (rFind_pc Y _ n.opened m i (by omega)) ?_   -- t35
      simp only [go_sem]
      refine hR _ _ (kq13 _ _ ?_); clear hR R; try clear kq13 kz13
      try simp only [go_sem]
      refine W_seq fun kz14 kq14 => ?_
      refine W_region [2, 3, 4, 5, 6, 11, 12, 13, 14, 15, 37] fun R hR => ?_   -- r9
      simp only [go_sem]
      refine hR _ _ (kq14 _ _ ?_); clear hR R; try clear kq14 kz14
      try simp only [go_sem]
      refine W_cond rfl (fun c3 => ?_) (fun c3 => ?_)
      · -- c3 true
        try simp only [nrm] at c3
        obtain ⟨i2, x2, v, f1, f2, f3, f4⟩ : ∃ (i2 : Nat) (x2 : Envl) (v : Int), fIdx (isJ m i) 0 n.opened = (i2 : Int) ∧ n.opened[i2]? = some x2 ∧ x2.marks[sc]? = some v ∧ mkAt K sc m u i = v := by
          rcases hnf with ⟨h1, _⟩ | h
          · rw [h1] at c3; simp at c3
          · exact h
        rw [f4] at hkb
        refine W_region [2, 3, 4, 5, 6, 11, 12, 13, 14] fun R hR => ?_   -- r10
        simp only [go_sem, f1, f2, f3]
        refine hR _ _ (kq12 _ _ ?_); clear hR R; try clear kq12 kz12
        try simp only [go_sem, f1, f2, f3]
        refine W_region [2, 3, 4, 5, 6, 11, 12, 13] fun R hR => ?_   -- r11
        simp only [go_sem, f1, f2, f3]
        try simp (disch := first | omega | (simp only [go_sem] <;> omega)) only [wrapI, wrapU, appX_exact, appX_tok]
        try simp only [go_sem, f1, f2, f3]
        refine hR _ _ (kq8 _ _ ?_); clear hR R; try clear kq8 kz8
        try simp only [go_sem, f1, f2, f3]
        refine W_region [2, 3, 4, 5, 6, 11, 12, 13] fun R hR => ?_   -- r5
        simp only [go_sem, f1, f2, f3]
        try simp (disch := omega) only [wrapI, wrapU]
        refine hR _ _ ?_; clear hR R
        try simp only [go_sem, f1, f2, f3]
        refine ⟨(i + 1, sm + v), ?_, by (try simp only []); omega, ?_⟩
        · refine Weak.eq ?_ ?_
          · first | (simp only [go_sem, hps2, List.map_append, List.map_cons, List.map_nil, List.length_append, f4]; done) | (simp only [go_sem, hps2, List.map_append, List.map_cons, List.map_nil, List.length_append, f4]; rfl) | (simp only [go_sem, hps2]; done) | (simp only [go_sem, hps2]; rfl)
          · simp only [go_sem, hps2, List.length_append, List.length_cons, List.length_nil]
        · try dsimp only
          rw [hps2]
          first
          | exact ⟨by omega, hsm, by omega, by omega⟩
          | (refine ⟨by omega, ?_, by omega, by omega⟩
             rw [List.map_append, sumI_append, ← hsm]; simp only [List.map_cons, List.map_nil, sumI, f4]; omega)
      · -- c3 false
        try simp only [nrm] at c3
        have f4 : mkAt K sc m u i = u := by
          rcases hnf with ⟨_, h⟩ | ⟨i2, x2, v, h1, _⟩
          · exact h
          · rw [h1] at c3; exact absurd c3 (by simp)
        refine W_skip (kq12 _ _ ?_)
        refine W_region [2, 3, 4, 5, 6, 11, 12, 13] fun R hR => ?_   -- r11
        simp only [go_sem]
        try simp (disch := first | omega | (simp only [go_sem] <;> omega)) only [wrapI, wrapU, appX_exact, appX_tok]
        try simp only [go_sem]
        refine hR _ _ (kq8 _ _ ?_); clear hR R; try clear kq8 kz8
        try simp only [go_sem]
        refine W_region [2, 3, 4, 5, 6, 11, 12, 13] fun R hR => ?_   -- r5
        simp only [go_sem]
        try simp (disch := omega) only [wrapI, wrapU]
        refine hR _ _ ?_; clear hR R
        try simp only [go_sem]
        refine ⟨(i + 1, sm + u), ?_, by (try simp only []); omega, ?_⟩
        · refine Weak.eq ?_ ?_
          · first | (simp only [go_sem, hps2, List.map_append, List.map_cons, List.map_nil, List.length_append, f4]; done) | (simp only [go_sem, hps2, List.map_append, List.map_cons, List.map_nil, List.length_append, f4]; rfl) | (simp only [go_sem, hps2]; done) | (simp only [go_sem, hps2]; rfl)
          · simp only [go_sem, hps2, List.length_append, List.length_cons, List.length_nil]
        · try dsimp only
          rw [hps2]
          first
          | exact ⟨by omega, hsm, by omega, by omega⟩
          | (refine ⟨by omega, ?_, by omega, by omega⟩
             rw [List.map_append, sumI_append, ← hsm]; simp only [List.map_cons, List.map_nil, sumI, f4]; omega)
  · -- c1 false
    try simp only [nrm] at c1
    have hie : J = i := by first | omega | (simp at c1; omega)
    subst hie
    obtain ⟨ml, hml⟩ : ∃ z, (presL K m J).map (mkAt K sc m u) = z := ⟨_, rfl⟩
    obtain ⟨L, hL⟩ : ∃ z, (presL K m J).length = z := ⟨_, rfl⟩
    have hmll : ml.length = L := by rw [← hml, List.length_map, hL]
    have hL0 : 0 < L := by rw [← hL]; exact List.length_pos_iff.2 hpres
    rw [hml] at hsm
    rw [hL] at hpll
    have hlen0 : ¬ ((L : Int) = 0) := by omega
    have htd0 : sm.tdiv L = mean := by rw [← hmean, meanM, presL_J hJ, hml, hL, hsm]
    have htd : IntKind.i64.wrap (sm.tdiv L) = mean := by rw [htd0]; exact wrapI (by omega) (by omega)
    refine W_exit ?_
    simp only [go_sem, hml, hL, hmll]
    refine kq4 _ _ ?_
    refine W_seq fun kz15 kq15 => ?_
    refine W_region [5, 11, 16] fun R hR => ?_   -- r12
    simp only [go_sem, hml, hL, hmll, hlen0, htd]
    try simp (disch := omega) only [wrapI, wrapU]
    refine hR _ _ (kq15 _ _ ?_); clear hR R; try clear kq15 kz15
    try simp only [go_sem, hml, hL, hmll]
    refine W_seq fun kz16 kq16 => ?_
    refine W_block ?_
    refine W_loopT (α := Nat) (fun (q : Nat) => [(11, .isl ((ml ++ List.replicate q mean).map I) (.tok σ.rooms.length (L + q) 1))]) (fun (q : Nat) => σ.ext [some (scCells s), some (ngCells n)] [L + q]) (fun (q : Nat) => L + q ≤ J) (fun (q : Nat) => J - (L + q)) (0) (by simp only [List.replicate_zero, List.append_nil, Nat.add_zero] <;> rfl) (by first | rfl | (simp only [go_sem]; done) | (simp only [go_sem]; rfl)) ((by omega)) ?_
    rintro q hq
    have hmq : (ml ++ List.replicate q mean).length = L + q := by rw [List.length_append, List.length_replicate, hmll]
    refine W_seq fun kz17 kq17 => ?_
    refine W_seq fun kz18 kq18 => ?_
    refine W_region [5, 11, 16, 62] fun R hR => ?_   -- r13
    simp only [go_sem, hml, hL, hmll, hmq]
    refine hR _ _ (kq18 _ _ ?_); clear hR R; try clear kq18 kz18
    try simp only [go_sem, hml, hL, hmll, hmq]
    refine W_cond rfl (fun c4 => ?_) (fun c4 => ?_)
    · -- c4 true
      try simp only [nrm] at c4
      have hqJ : L + q < J := by first | omega | (simp at c4; omega)
      have hsq : List.replicate (q + 1) mean = List.replicate q mean ++ [mean] := List.replicate_succ'
      refine W_skip (kq17 _ _ ?_)
      refine W_block ?_
      refine W_region [5, 11, 16] fun R hR => ?_   -- r14
      simp only [go_sem, hml, hL, hmll, hmq]
      try simp (disch := first | omega | (simp only [go_sem] <;> omega)) only [wrapI, wrapU, appX_exact, appX_tok]
      try simp only [go_sem, hml, hL, hmll, hmq]
      refine hR _ _ ?_; clear hR R
      try simp only [go_sem, hml, hL, hmll, hmq]
      refine ⟨q + 1, ?_, by (try simp only []); omega, ?_⟩
      · refine Weak.eq ?_ ?_
        · simp only [hsq, List.map_append, List.append_assoc]
          first | done | rfl
        · first | rfl | (simp only [go_sem]; done) | (simp [go_sem]; done)
      · try dsimp only
        omega
    · -- c4 false
      try simp only [nrm] at c4
      have hqe : L + q = J := by first | omega | (simp at c4; omega)
      obtain ⟨fl, hfl⟩ : ∃ z, ml ++ List.replicate q mean = z := ⟨_, rfl⟩
      have hfm : List.map I ml ++ List.map I (List.replicate q mean) = List.map I fl := by rw [← hfl, List.map_append]
      have hfe : fullM s K sc m u J = fl := by rw [← hfl]; unfold fullM; rw [hml, hL, hmean, show J - L = q by omega]
      have hfll : fl.length = J := by rw [← hfl, hmq, hqe]
      rw [hfe] at hpf hpp
      refine W_exit ?_
      simp only [go_sem, hml, hL, hmll, hmq, hfl]
      refine kq16 _ _ ?_
      refine W_seq fun kz19 kq19 => ?_
      refine W_seq fun kz20 kq20 => ?_
      refine W_region [5, 11, 17] fun R hR => ?_   -- r15
      simp only [go_sem, hml, hL, hmll, hmq, hfl]
      refine hR _ _ (kq20 _ _ ?_); clear hR R; try clear kq20 kz20
      try simp only [go_sem, hml, hL, hmll, hmq, hfl]
      refine W_block ?_
      refine W_weak (Weak.ro 11) ?_
      refine W_weak (Weak.keep [5, 11, 17]) ?_
      simp only [go_sem]
      try simp only [hfm]
      refine W_loopS (α := Nat × (List Int)) (fun ⟨d, mk⟩ => [(11, ints mk), (17, I d)]) (fun ⟨d, mk⟩ => d ≤ D ∧ mk.length + d = J ∧ sortI mk = (sortI fl).drop d) (fun ⟨d, mk⟩ => D - d) ((0, fl)) rfl (⟨Nat.zero_le _, by omega, rfl⟩) ?_
      rintro ⟨d, mk⟩ ⟨hd, hkl, hks⟩
      refine W_seq fun kz21 kq21 => ?_
      refine W_seq fun kz22 kq22 => ?_
      refine W_region [5, 11, 17, 70] fun R hR => ?_   -- r16
      simp only [go_sem, hml, hL, hmll, hmq, hfl]
      refine hR _ _ (kq22 _ _ ?_); clear hR R; try clear kq22 kz22
      try simp only [go_sem, hml, hL, hmll, hmq, hfl]
      refine W_cond rfl (fun c5 => ?_) (fun c5 => ?_)
      · -- c5 true
        try simp only [nrm] at c5
        have hdD : d < D := by first | omega | (simp at c5; omega)
        have hne : mk ≠ [] := fun e => by rw [e] at hkl; simp at hkl; omega
        have hll := least_len hne
        refine W_skip (kq21 _ _ ?_)
        refine W_seq fun kz23 kq23 => ?_
        refine W_block ?_
        refine W_region [5, 11, 17] fun R hR => ?_   -- r18
        simp only [go_sem, hml, hL, hmll, hmq, hfl]
        refine GCall_of (least_pc Y _ mk hne (by omega)) ?_   -- t74
        simp only [go_sem, hml, hL, hmll, hmq, hfl]
        refine hR _ _ (kq23 _ _ ?_); clear hR R; try clear kq23 kz23
        try simp only [go_sem, hml, hL, hmll, hmq, hfl]
        refine W_region [5, 11, 17] fun R hR => ?_   -- r17
        simp only [go_sem, hml, hL, hmll, hmq, hfl]
        try simp (disch := omega) only [wrapI, wrapU]
        refine hR _ _ ?_; clear hR R
        try simp only [go_sem, hml, hL, hmll, hmq, hfl]
        refine ⟨(d + 1, leastL mk), ?_, by (try simp only []); omega, ?_⟩
        · first | exact Weak.refl | exact Weak.eq (by first | rfl | (simp only [go_sem]; done) | (simp only [go_sem]; rfl) | (simp [go_sem]; done) | (simp [go_sem]; omega)) (by first | rfl | (simp only [go_sem]; done) | (simp [go_sem]; done))
        · try dsimp only
          exact ⟨by omega, by omega, by rw [sortI_least hne, hks, List.drop_drop]⟩
      · -- c5 false
        try simp only [nrm] at c5
        have hde : D = d := by first | omega | (simp at c5; omega)
        subst hde
        have hres : pointsK s K sc m u = sumI mk := by rw [hpf, hD, Int.toNat_natCast, ← hks, sumI_sort]
        rw [hres]
        have hkb : ∀ x, x ∈ mk → 0 ≤ x ∧ x ≤ 100 := fun x hx => by
          have h1 := mem_sortI.2 hx
          rw [hks] at h1
          exact hpb x (hpp.mem_iff.1 (mem_sortI.1 (List.mem_of_mem_drop h1)))
        refine W_exit ?_
        simp only [go_sem, hml, hL, hmll, hmq, hfl]
        refine kq19 _ _ ?_
        refine W_seq fun kz24 kq24 => ?_
        refine W_region [11, 12] fun R hR => ?_   -- r19
        simp only [go_sem, hml, hL, hmll, hmq, hfl]
        refine hR _ _ (kq24 _ _ ?_); clear hR R; try clear kq24 kz24
        try simp only [go_sem, hml, hL, hmll, hmq, hfl]
        refine W_seq fun kz25 kq25 => ?_
        refine W_seq fun kz26 kq26 => ?_
        refine W_region [11, 12, 18] fun R hR => ?_   -- r20
        simp only [go_sem, hml, hL, hmll, hmq, hfl]
        refine hR _ _ (kq26 _ _ ?_); clear hR R; try clear kq26 kz26
        try simp only [go_sem, hml, hL, hmll, hmq, hfl]
        refine W_block ?_
        refine W_loopS (α := Nat × Int) (fun ⟨q, t⟩ => [(12, I t), (18, I q)]) (fun ⟨q, t⟩ => q ≤ mk.length ∧ sumI mk = t + sumI (mk.drop q) ∧ 0 ≤ t ∧ t ≤ 100 * (q : Int)) (fun ⟨q, t⟩ => mk.length - q) ((0, 0)) rfl (⟨Nat.zero_le _, by simp, Int.le_refl _, Int.le_refl _⟩) ?_
        rintro ⟨q, t⟩ ⟨hq, hinv, ht1, ht2⟩
        refine W_seq fun kz27 kq27 => ?_
        refine W_seq fun kz28 kq28 => ?_
        refine W_region [11, 12, 18, 78] fun R hR => ?_   -- r21
        simp only [go_sem, hml, hL, hmll, hmq, hfl]
        refine hR _ _ (kq28 _ _ ?_); clear hR R; try clear kq28 kz28
        try simp only [go_sem, hml, hL, hmll, hmq, hfl]
        refine W_cond rfl (fun c6 => ?_) (fun c6 => ?_)
        · -- c6 true
          try simp only [nrm] at c6
          have hq' : q < mk.length := by first | assumption | omega
          obtain ⟨x, hx⟩ : ∃ x, mk[q]? = some x := ⟨mk[q], by simp [hq']⟩
          have hdrop : mk.drop q = x :: mk.drop (q + 1) := by
            rw [List.drop_eq_getElem_cons hq']; congr 1; exact (List.getElem?_eq_some_iff.1 hx).2
          rw [hdrop] at hinv
          simp only [sumI] at hinv
          have hxb := hkb x (List.mem_of_getElem? hx)
          refine W_skip (kq27 _ _ ?_)
          refine W_seq fun kz29 kq29 => ?_
          refine W_block ?_
          refine W_region [11, 12, 18] fun R hR => ?_   -- r23
          simp only [go_sem, hml, hL, hmll, hmq, hfl, hx]
          try simp (disch := omega) only [wrapI, wrapU]
          refine hR _ _ (kq29 _ _ ?_); clear hR R; try clear kq29 kz29
          try simp only [go_sem, hml, hL, hmll, hmq, hfl, hx]
          refine W_region [11, 12, 18] fun R hR => ?_   -- r22
          simp only [go_sem, hml, hL, hmll, hmq, hfl, hx]
          try simp (disch := omega) only [wrapI, wrapU]
          refine hR _ _ ?_; clear hR R
          try simp only [go_sem, hml, hL, hmll, hmq, hfl, hx]
          refine ⟨(q + 1, t + x), ?_, by (try simp only []); omega, ?_⟩
          · first | exact Weak.refl | exact Weak.eq (by first | rfl | (simp only [go_sem]; done) | (simp only [go_sem]; rfl) | (simp [go_sem]; done) | (simp [go_sem]; omega)) (by first | rfl | (simp only [go_sem]; done) | (simp [go_sem]; done))
          · try dsimp only
            exact ⟨hq', by omega, by omega, by omega⟩
        · -- c6 false
          try simp only [nrm] at c6
          have hdrop : mk.drop q = [] := List.drop_eq_nil_of_le (by omega)
          rw [hdrop] at hinv
          simp only [sumI] at hinv
          refine W_exit ?_
          simp only [go_sem, hml, hL, hmll, hmq, hfl]
          refine kq25 _ _ ?_
          refine W_seq fun kz30 kq30 => ?_
          refine W_region [10] fun R hR => ?_   -- r24
          simp only [go_sem, hml, hL, hmll, hmq, hfl]
          refine hR _ _ (kq30 _ _ ?_); clear hR R; try clear kq30 kz30
          try simp only [go_sem, hml, hL, hmll, hmq, hfl]
          refine W_ret ?_
          simp only [go_sem, hml, hL, hmll, hmq, hfl]
          refine ⟨.inr (by trivial), ?_⟩
          first | refine Fin_same hcl rfl (Wk_eq ?_ (by simp only [go_sem])) | refine Fin_self hcl rfl (Wk_eq ?_ (by simp only [go_sem]))
          try simp only [go_sem]
          all_goals
            first | (rw [hres, hinv, Int.add_zero]; done) | (rw [hinv, Int.add_zero]; done)
end Go.Proofs.YtgelnjmddabgpaaGreat
namespace Go.Proofs.YtgelnjmddabgpaaGreat
open Go Go.RowKit
set_option maxRecDepth 100000
def ptD (ord : List Int) (a b : Stand) : List Int := ord.map fun m => ptAt b m - ptAt a m
theorem fz_nz {x : Int} (h : x ≠ 0) (l : List Int) : firstNZ (x :: l) = x := by unfold firstNZ; rw [if_pos h]
theorem fz_z (l : List Int) : firstNZ (0 :: l) = firstNZ l := by unfold firstNZ; rw [if_neg (by simp)]; cases l <;> rfl
set_option maxHeartbeats 4000000 in
theorem rStand_pc (Y : YEnv) (σ : Sg) (s : Scale) (g : Night) (hN : NightV s g) (sc : Nat) (hsc : (sc : Int) < s.schools) (u : Int) (hu : 0 ≤ u ∧ u ≤ 100) :
    PC Tryz.prog Y 62 [scPV s, ngPV g, I sc, I u] σ (sdPV (standK s (knownK s g) g sc u)) (σ) := by
  refine PC_of_W Tryz.func62 rfl (by kernel_rfl) Tryz.ntmps62 (by simp) fun hcl hca => ?_
  have hv := Scale.v hN.c
  have hV := known_V (nightV_iff.2 hN)
  have q1 := hv.mt
  obtain ⟨M, hM⟩ : ∃ z : Nat, s.matters = z := ⟨s.matters.toNat, by omega⟩
  have hfl := hV.fl
  have hfi := hV.fi
  have hMi : (s.matters : Int) = (M : Int) := hM
  refine W_seq fun kz1 kq1 => ?_
  refine W_region [2, 3, 4, 5, 8] fun R hR => ?_   -- r0
  simp only [go_sem]
  refine hR _ _ (kq1 _ _ ?_); clear hR R; try clear kq1 kz1
  try simp only [go_sem]
  refine W_seq fun kz2 kq2 => ?_
  refine W_region [2, 3, 4, 5, 8, 9] fun R hR => ?_   -- r1
  simp only [go_sem]
  refine hR _ _ (kq2 _ _ ?_); clear hR R; try clear kq2 kz2
  try simp only [go_sem]
  refine W_seq fun kz3 kq3 => ?_
  refine W_seq fun kz4 kq4 => ?_
  refine W_region [2, 3, 4, 5, 8, 9, 10] fun R hR => ?_   -- r2
  simp only [go_sem]
  refine hR _ _ (kq4 _ _ ?_); clear hR R; try clear kq4 kz4
  try simp only [go_sem]
  refine W_block ?_
  refine W_weak (Weak.roomX (j := 3) (off := 2) (es := 1) rfl rfl (by simp)) ?_
  simp only [go_sem]
  refine W_loopT (α := Nat × Int) (fun ⟨i, tot⟩ => [(10, I i)]) (fun ⟨i, tot⟩ => σ.ext [some (scCells s), some (ngCells g), some [I 0, I 0, .isl [] .exact], some [I sc, I tot, .isl ((ptsUp s (knownK s g) sc u i).map I) (.tok σ.rooms.length i 1)]] [i]) (fun ⟨i, tot⟩ => i ≤ M ∧ tot = sumI (ptsUp s (knownK s g) sc u i) ∧ 0 ≤ tot ∧ tot ≤ 500 * (i : Int)) (fun ⟨i, tot⟩ => M - i) ((0, 0)) rfl (by first | rfl | (simp only [go_sem]; done) | (simp only [go_sem]; rfl)) (⟨Nat.zero_le _, rfl, Int.le_refl _, Int.le_refl _⟩) ?_
  rintro ⟨i, tot⟩ ⟨hi, ht, ht1, ht2⟩
  have hpl : (ptsUp s (knownK s g) sc u i).length = i := by simp [ptsUp]
  refine W_seq fun kz5 kq5 => ?_
  refine W_seq fun kz6 kq6 => ?_
  refine W_region [2, 3, 4, 5, 8, 9, 10, 18] fun R hR => ?_   -- r3
  simp only [go_sem]
  refine hR _ _ (kq6 _ _ ?_); clear hR R; try clear kq6 kz6
  try simp only [go_sem]
  refine W_cond rfl (fun c1 => ?_) (fun c1 => ?_)
  · -- c1 true
    try simp only [nrm] at c1
    have hiM : i < M := by first | omega | (simp at c1; omega)
    have hpb := points_bd hv hV.ok hu sc i
    have hsu := ptsUp_succ s (knownK s g) sc u i
    have hpok : okC 1 ((ptsUp s (knownK s g) sc u i).map I) = True := by simp only [go_sem]
    refine W_skip (kq5 _ _ ?_)
    refine W_seq fun kz7 kq7 => ?_
    refine W_block ?_
    refine W_seq fun kz8 kq8 => ?_
    refine W_region [2, 3, 4, 5, 8, 9, 10, 11] fun R hR => ?_   -- r5
    simp only [go_sem]
    refine GCall_of (rPoints_pc Y _ s g hN sc hsc i (by omega) u hu) ?_   -- t26
    simp only [go_sem]
    refine hR _ _ (kq8 _ _ ?_); clear hR R; try clear kq8 kz8
    try simp only [go_sem]
    refine W_draw [2, 3, 4, 5, 8, 9, 10] [0, 1, 2, 3, 4, 5, 6, 7, 8, 9, 10, 11, 12] [(5, 4), (6, 4), (7, 4), (7, 12), (8, 4), (8, 12)] [[], [0], [], [2], [0, 1, 2, 3], [], [5], [], [5, 6, 7], [0, 1, 2, 3, 4, 5, 6], [0, 1, 2, 3, 4, 5, 6, 9], [0, 1, 2, 3, 4, 5, 6, 7, 8, 9, 10], [0, 1, 2, 3, 4, 5, 6, 7, 8, 9, 10, 11]] mixed (by kernel_rfl) fun R hR => ?_   -- r6
    simp only [go_sem]
    try simp (disch := first | omega | (simp only [go_sem] <;> omega)) only [wrapI, wrapU, appX_exact, appX_tok]
    try simp only [go_sem]
    try refine And.intro (by repeat' (first | refine And.intro ?_ ?_ | exact GOr_right (fun _ => by simp only [go_sem]))) ?_
    refine hR _ _ (kq7 _ _ ?_); clear hR R; try clear kq7 kz7
    try simp only [go_sem]
    refine W_region [2, 3, 4, 5, 8, 9, 10] fun R hR => ?_   -- r4
    simp only [go_sem]
    try simp (disch := omega) only [wrapI, wrapU]
    refine hR _ _ ?_; clear hR R
    try simp only [go_sem]
    refine ⟨(i + 1, tot + pointsK s (knownK s g) sc i u), ?_, by (try simp only []); omega, ?_⟩
    · refine Weak.eq (by first | rfl | (simp only [go_sem]; done) | (simp [go_sem]; done)) ?_
      simp only [go_sem, hsu, List.map_append]
    · try dsimp only
      rw [hsu, sumI_append, ← ht]
      exact ⟨hiM, by simp [sumI], by omega, by omega⟩
  · -- c1 false
    try simp only [nrm] at c1
    have hie : M = i := by first | omega | (simp at c1; omega)
    subst hie
    rw [ptsUp_all hM] at ht
    refine W_exit ?_
    simp only [go_sem]
    refine kq3 _ _ ?_
    refine W_seq fun kz9 kq9 => ?_
    refine W_seq fun kz10 kq10 => ?_
    refine W_region [2, 5, 8, 9, 12] fun R hR => ?_   -- r7
    simp only [go_sem]
    refine hR _ _ (kq10 _ _ ?_); clear hR R; try clear kq10 kz10
    try simp only [go_sem]
    refine W_block ?_
    simp only [ptsUp_all hM]
    refine W_loopT (α := Nat × Int) (fun ⟨j, t2⟩ => [(12, I j)]) (fun ⟨j, t2⟩ => σ.ext [some (scCells s), some (ngCells g), some [I 0, I 0, .isl [] .exact], some [I sc, I t2, .isl ((pointsL s (knownK s g) sc u).map I) (.tok σ.rooms.length M 1)]] [M]) (fun ⟨j, t2⟩ => j ≤ g.fines.length ∧ tot - finesOf g.fines sc = t2 - finesOf (g.fines.drop j) sc ∧ -1000 * (j : Int) ≤ t2 ∧ t2 ≤ 3000) (fun ⟨j, t2⟩ => g.fines.length - j) ((0, tot)) rfl (by first | rfl | (simp only [go_sem]; done) | (simp only [go_sem]; rfl)) (⟨Nat.zero_le _, rfl, by omega, by omega⟩) ?_
    rintro ⟨j, t2⟩ ⟨hj, hinv, ht3, ht4⟩
    refine W_seq fun kz11 kq11 => ?_
    refine W_seq fun kz12 kq12 => ?_
    refine W_region [2, 5, 8, 9, 12, 42] fun R hR => ?_   -- r8
    simp only [go_sem]
    refine hR _ _ (kq12 _ _ ?_); clear hR R; try clear kq12 kz12
    try simp only [go_sem]
    refine W_cond rfl (fun c2 => ?_) (fun c2 => ?_)
    · -- c2 true
      try simp only [nrm] at c2
      have hj' : j < g.fines.length := by first | assumption | omega
      obtain ⟨f, hx⟩ : ∃ f, g.fines[j]? = some f := ⟨g.fines[j], by simp [hj']⟩
      have hdrop : g.fines.drop j = f :: g.fines.drop (j + 1) := by
        rw [List.drop_eq_getElem_cons hj']; congr 1; exact (List.getElem?_eq_some_iff.1 hx).2
      have hfb := hfi f (List.mem_of_getElem? hx)
      rw [hdrop, finesOf_cons] at hinv
      refine W_skip (kq11 _ _ ?_)
      refine W_seq fun kz13 kq13 => ?_
      refine W_block ?_
      refine W_seq fun kz14 kq14 => ?_
      refine W_region [2, 5, 8, 9, 12, 52] fun R hR => ?_   -- r10
      simp only [go_sem, hx]
      refine hR _ _ (kq14 _ _ ?_); clear hR R; try clear kq14 kz14
      try simp only [go_sem, hx]
      refine W_cond rfl (fun c3 => ?_) (fun c3 => ?_)
      · -- c3 true
        try simp only [nrm] at c3
        refine W_draw [2, 5, 8, 9, 12] [0, 1, 2, 3, 4, 5, 6, 7, 8, 9, 10] [] [[], [0], [], [2], [], [2, 3, 4], [2, 3, 4, 5], [2, 3, 4, 5, 6], [0, 1, 2, 3, 4, 5, 6, 7], [0, 1, 2, 3, 4, 5, 6, 7, 8], [0, 1, 2, 3, 4, 5, 6, 7, 8, 9]] mixed (by kernel_rfl) fun R hR => ?_   -- r11
        simp only [go_sem, hx]
        try simp (disch := omega) only [wrapI, wrapU]
        try refine And.intro (by repeat' (first | refine And.intro ?_ ?_ | exact GOr_right (fun _ => by simp only [go_sem, hx]))) ?_
        refine hR _ _ (kq13 _ _ ?_); clear hR R; try clear kq13 kz13
        try simp only [go_sem, hx]
        refine W_region [2, 5, 8, 9, 12] fun R hR => ?_   -- r9
        simp only [go_sem, hx]
        try simp (disch := omega) only [wrapI, wrapU]
        refine hR _ _ ?_; clear hR R
        try simp only [go_sem, hx]
        refine ⟨(j + 1, t2 - f.2), ?_, by (try simp only []); omega, ?_⟩
        · first | exact Weak.refl | exact Weak.eq (by first | rfl | (simp only [go_sem]; done) | (simp only [go_sem]; rfl) | (simp [go_sem]; done) | (simp [go_sem]; omega)) (by first | rfl | (simp only [go_sem]; done) | (simp [go_sem]; done))
        · try dsimp only
          first
          | (rw [if_pos c3] at hinv; exact ⟨hj', by omega, by omega, by omega⟩)
          | (rw [if_neg c3] at hinv; exact ⟨hj', by omega, by omega, by omega⟩)
      · -- c3 false
        try simp only [nrm] at c3
        refine W_skip (kq13 _ _ ?_)
        refine W_region [2, 5, 8, 9, 12] fun R hR => ?_   -- r9
        simp only [go_sem, hx]
        try simp (disch := omega) only [wrapI, wrapU]
        refine hR _ _ ?_; clear hR R
        try simp only [go_sem, hx]
        refine ⟨(j + 1, t2), ?_, by (try simp only []); omega, ?_⟩
        · first | exact Weak.refl | exact Weak.eq (by first | rfl | (simp only [go_sem]; done) | (simp only [go_sem]; rfl) | (simp [go_sem]; done) | (simp [go_sem]; omega)) (by first | rfl | (simp only [go_sem]; done) | (simp [go_sem]; done))
        · try dsimp only
          first
          | (rw [if_pos c3] at hinv; exact ⟨hj', by omega, by omega, by omega⟩)
          | (rw [if_neg c3] at hinv; exact ⟨hj', by omega, by omega, by omega⟩)
    · -- c2 false
      try simp only [nrm] at c2
      have hdrop : g.fines.drop j = [] := List.drop_eq_nil_of_le (by omega)
      rw [hdrop] at hinv
      have hst : standK s (knownK s g) g sc u = ⟨sc, t2, pointsL s (knownK s g) sc u⟩ := by
        simp only [standK, ← ht, hinv]
        simp [finesOf, sumI]
      refine W_exit ?_
      simp only [go_sem]
      refine kq9 _ _ ?_
      refine W_seq fun kz15 kq15 => ?_
      refine W_region [8] fun R hR => ?_   -- r12
      simp only [go_sem]
      refine hR _ _ (kq15 _ _ ?_); clear hR R; try clear kq15 kz15
      try simp only [go_sem]
      refine W_ret ?_
      simp only [go_sem]
      refine ⟨.inr (by trivial), ?_⟩
      rw [hst]; refine Fin_same hcl (by show resPV Tryz.prog _ _ [.cell 8 55] = some _; simp only [resPV, go_sem]; rfl) (Wk.ro (by simp only [go_sem]) ?_)
      try simp only [go_sem]
      all_goals
        simp only [go_sem]
set_option maxHeartbeats 2000000 in
theorem rAhead_pc (Y : YEnv) (σ : Sg) (s : Scale) (a b : Stand) (hC : CmpOk s.order a b) (hol : s.order.length < 2 ^ 40) :
    PC Tryz.prog Y 63 [scPV s, sdPV a, sdPV b] σ (.bool (decide (Ahd s.order a b))) (σ) := by
  refine PC_of_W Tryz.func63 rfl (by kernel_rfl) Tryz.ntmps63 (by simp) fun hcl hca => ?_
  obtain ⟨res, hres⟩ : ∃ r, decide (Ahd s.order a b) = r := ⟨_, rfl⟩
  rw [hres]
  have hta := hC.ta
  have htb := hC.tb
  have hsa := hC.sa
  have hsb := hC.sb
  have hres2 : res = decide (firstNZ ((b.total - a.total) :: (ptD s.order a b ++ [a.school - b.school])) < 0) := hres.symm
  refine W_seq fun kz1 kq1 => ?_
  refine W_region [3, 4, 5] fun R hR => ?_   -- r0
  simp only [go_sem]
  refine hR _ _ (kq1 _ _ ?_); clear hR R; try clear kq1 kz1
  try simp only [go_sem]
  refine W_seq fun kz2 kq2 => ?_
  refine W_seq fun kz3 kq3 => ?_
  refine W_region [3, 4, 5, 13] fun R hR => ?_   -- r1
  simp only [go_sem]
  refine hR _ _ (kq3 _ _ ?_); clear hR R; try clear kq3 kz3
  try simp only [go_sem]
  refine W_cond rfl (fun c1 => ?_) (fun c1 => ?_)
  · -- c1 true
    try simp only [nrm] at c1
    refine W_seq fun kz4 kq4 => ?_
    refine W_region [6] fun R hR => ?_   -- r2
    simp only [go_sem]
    refine hR _ _ (kq4 _ _ ?_); clear hR R; try clear kq4 kz4
    try simp only [go_sem]
    refine W_ret ?_
    simp only [go_sem]
    refine ⟨.inr (by trivial), ?_⟩
    first | refine Fin_same hcl rfl (Wk_eq ?_ (by simp only [go_sem])) | refine Fin_self hcl rfl (Wk_eq ?_ (by simp only [go_sem]))
    try simp only [go_sem]
    all_goals
      rw [hres2, fz_nz (by first | omega | (simp at c1; omega))]; congr 1; rw [Bool.eq_iff_iff]; simp; omega
  · -- c1 false
    try simp only [nrm] at c1
    have htt : b.total - a.total = 0 := by first | omega | (simp at c1; omega)
    rw [htt, fz_z] at hres2
    refine W_skip (kq2 _ _ ?_)
    refine W_seq fun kz5 kq5 => ?_
    refine W_seq fun kz6 kq6 => ?_
    refine W_region [3, 4, 5, 7] fun R hR => ?_   -- r3
    simp only [go_sem]
    refine hR _ _ (kq6 _ _ ?_); clear hR R; try clear kq6 kz6
    try simp only [go_sem]
    refine W_block ?_
    refine W_loopS (α := Nat) (fun (i : Nat) => [(7, I i)]) (fun (i : Nat) => i ≤ s.order.length ∧ res = decide (firstNZ ((ptD s.order a b).drop i ++ [a.school - b.school]) < 0)) (fun (i : Nat) => s.order.length - i) (0) rfl (⟨Nat.zero_le _, hres2⟩) ?_
    rintro i ⟨hi, hinv⟩
    refine W_seq fun kz7 kq7 => ?_
    refine W_seq fun kz8 kq8 => ?_
    refine W_region [3, 4, 5, 7, 23] fun R hR => ?_   -- r4
    simp only [go_sem]
    refine hR _ _ (kq8 _ _ ?_); clear hR R; try clear kq8 kz8
    try simp only [go_sem]
    refine W_cond rfl (fun c2 => ?_) (fun c2 => ?_)
    · -- c2 true
      try simp only [nrm] at c2
      have hi' : i < s.order.length := by first | omega | (simp at c2; omega)
      obtain ⟨m, hm⟩ : ∃ z, s.order[i]? = some z := ⟨s.order[i], by simp⟩
      obtain ⟨mi, pa, pb, rfl, hpa, hpb, hpa2, hpb2⟩ := hC.pt m (List.mem_of_getElem? hm)
      have hdr : (ptD s.order a b).drop i = (pb - pa) :: (ptD s.order a b).drop (i + 1) := by
        rw [List.drop_eq_getElem_cons (by simp [ptD]; omega)]
        congr 1
        simp only [ptD, List.getElem_map, (List.getElem?_eq_some_iff.1 hm).2, ptAt, Int.toNat_natCast, hpa, hpb, Option.getD_some]
      rw [hdr, List.cons_append] at hinv
      refine W_skip (kq7 _ _ ?_)
      refine W_seq fun kz9 kq9 => ?_
      refine W_block ?_
      refine W_seq fun kz10 kq10 => ?_
      refine W_region [3, 4, 5, 7, 8] fun R hR => ?_   -- r6
      simp only [go_sem, hm, hpa, hpb]
      refine hR _ _ (kq10 _ _ ?_); clear hR R; try clear kq10 kz10
      try simp only [go_sem, hm, hpa, hpb]
      refine W_seq fun kz11 kq11 => ?_
      refine W_draw [3, 4, 5, 7, 8, 41] [0, 1, 2, 3, 4, 5, 6, 7, 8, 9, 10] [] [[], [0], [], [0, 1, 2], [0, 1, 2, 3], [], [5], [], [5, 6, 7], [5, 6, 7, 8], [0, 1, 2, 3, 4, 5, 6, 7, 8, 9]] mixed (by kernel_rfl) fun R hR => ?_   -- r7
      simp only [go_sem, hm, hpa, hpb]
      try refine And.intro (by repeat' (first | refine And.intro ?_ ?_ | exact GOr_right (fun _ => by simp only [go_sem, hm, hpa, hpb]))) ?_
      refine hR _ _ (kq11 _ _ ?_); clear hR R; try clear kq11 kz11
      try simp only [go_sem, hm, hpa, hpb]
      refine W_cond rfl (fun c3 => ?_) (fun c3 => ?_)
      · -- c3 true
        try simp only [nrm] at c3
        refine W_seq fun kz12 kq12 => ?_
        refine W_draw [6] [0, 1, 2, 3, 4, 5, 6, 7, 8, 9, 10, 11] [] [[], [0], [], [0, 1, 2], [0, 1, 2, 3], [], [5], [], [5, 6, 7], [5, 6, 7, 8], [0, 1, 2, 3, 4, 5, 6, 7, 8, 9], [0, 1, 2, 3, 4, 5, 6, 7, 8, 9, 10]] mixed (by kernel_rfl) fun R hR => ?_   -- r8
        simp only [go_sem, hm, hpa, hpb]
        try refine And.intro (by repeat' (first | refine And.intro ?_ ?_ | exact GOr_right (fun _ => by simp only [go_sem, hm, hpa, hpb]))) ?_
        refine hR _ _ (kq12 _ _ ?_); clear hR R; try clear kq12 kz12
        try simp only [go_sem, hm, hpa, hpb]
        refine W_ret ?_
        simp only [go_sem, hm, hpa, hpb]
        refine ⟨.inr (by trivial), ?_⟩
        first | refine Fin_same hcl rfl (Wk_eq ?_ (by simp only [go_sem])) | refine Fin_self hcl rfl (Wk_eq ?_ (by simp only [go_sem]))
        try simp only [go_sem]
        all_goals
          rw [hinv, fz_nz (by first | omega | (simp at c3; omega))]; congr 1; rw [Bool.eq_iff_iff]; simp; omega
      · -- c3 false
        try simp only [nrm] at c3
        have hpp : pb - pa = 0 := by first | omega | (simp at c3; omega)
        refine W_skip (kq9 _ _ ?_)
        refine W_region [3, 4, 5, 7] fun R hR => ?_   -- r5
        simp only [go_sem, hm, hpa, hpb]
        try simp (disch := omega) only [wrapI, wrapU]
        refine hR _ _ ?_; clear hR R
        try simp only [go_sem, hm, hpa, hpb]
        refine ⟨i + 1, ?_, by (try simp only []); omega, ?_⟩
        · first | exact Weak.refl | exact Weak.eq (by first | rfl | (simp only [go_sem]; done) | (simp only [go_sem]; rfl) | (simp [go_sem]; done) | (simp [go_sem]; omega)) (by first | rfl | (simp only [go_sem]; done) | (simp [go_sem]; done))
        · try dsimp only
          exact ⟨by omega, by rw [hinv, hpp, fz_z]⟩
    · -- c2 false
      try simp only [nrm] at c2
      have hie : i = s.order.length := by first | omega | (simp at c2; omega)
      rw [List.drop_eq_nil_of_le (by simp [ptD]; omega), List.nil_append] at hinv
      have hfs : firstNZ [a.school - b.school] = a.school - b.school := by
        by_cases h : a.school - b.school = 0
        · rw [h]; rfl
        · exact fz_nz h _
      rw [hfs] at hinv
      refine W_exit ?_
      simp only [go_sem]
      refine kq5 _ _ ?_
      refine W_seq fun kz13 kq13 => ?_
      refine W_region [6] fun R hR => ?_   -- r9
      simp only [go_sem]
      refine hR _ _ (kq13 _ _ ?_); clear hR R; try clear kq13 kz13
      try simp only [go_sem]
      refine W_ret ?_
      simp only [go_sem]
      refine ⟨.inr (by trivial), ?_⟩
      first | refine Fin_same hcl rfl (Wk_eq ?_ (by simp only [go_sem])) | refine Fin_self hcl rfl (Wk_eq ?_ (by simp only [go_sem]))
      try simp only [go_sem]
      all_goals
        rw [hinv]; congr 1; rw [Bool.eq_iff_iff]; simp; omega
end Go.Proofs.YtgelnjmddabgpaaGreat
namespace Go.Proofs.YtgelnjmddabgpaaGreat
open Go Go.RowKit
set_option maxRecDepth 100000
end Go.Proofs.YtgelnjmddabgpaaGreat
namespace Go.Proofs.YtgelnjmddabgpaaGreat
open Go Go.RowKit
set_option maxRecDepth 100000
theorem row3_cons (x : Stand) (l : List Stand) : rowC ((x :: l).map sdPV) = I x.school :: I x.total :: ints x.points :: rowC (l.map sdPV) := by simp [rowC, sdPV, sdCells]
theorem row3_len : ∀ l : List Stand, (rowC (l.map sdPV)).length = l.length * 3 := by
  intro l
  induction l with
  | nil => rfl
  | cons x l ih => rw [row3_cons]; simp only [List.length_cons, ih]; omega
theorem row3_ld : ∀ {l : List Stand} {j : Nat} {x : Stand}, l[j]? = some x → ((rowC (l.map sdPV)).drop (j * 3)).take 3 = [I x.school, I x.total, ints x.points] := by
  intro l
  induction l with
  | nil => intro j x h; simp at h
  | cons y l ih =>
    intro j x h
    rw [row3_cons]
    cases j with
    | zero =>
      simp only [List.getElem?_cons_zero, Option.some.injEq] at h
      subst h
      simp
    | succ j =>
      simp only [List.getElem?_cons_succ] at h
      rw [show (j + 1) * 3 = j * 3 + 1 + 1 + 1 by omega]
      simp only [List.drop_succ_cons]
      exact ih h
theorem row3_put (x : Stand) : ∀ {l : List Stand} {j : Nat}, j < l.length → (((rowC (l.map sdPV)).set (j * 3) (I x.school)).set (j * 3 + 1) (I x.total)).set (j * 3 + 1 + 1) (ints x.points) = rowC ((l.set j x).map sdPV) := by
  intro l
  induction l with
  | nil => intro j h; simp at h
  | cons y l ih =>
    intro j h
    rw [row3_cons]
    cases j with
    | zero =>
      have e : (y :: l).set 0 x = x :: l := rfl
      rw [e, row3_cons]; simp
    | succ j =>
      rw [List.set_cons_succ, row3_cons, show (j + 1) * 3 = j * 3 + 1 + 1 + 1 by omega]
      simp only [List.set_cons_succ]
      rw [ih (by simpa using h)]
theorem cA_row3 {a b c : Nat} {l : List Stand} : CleanAll a b c (rowC (l.map sdPV)) = True := eq_true fun p hp => by
  simp only [rowC, List.mem_flatMap, List.mem_map] at hp
  obtain ⟨q, ⟨x, _, rfl⟩, hp⟩ := hp
  exact cleans_sd x p hp
attribute [go_sem] cA_row3
theorem ld3 {σ : Sg} {id : Nat} (hlt : id < σ.store.length) {l : List Stand} {j : Nat} {x : Stand} (h : l[j]? = some x) : ldA 3 (σ.setVar id (rowC (l.map sdPV))) id (j * 3) = some (.agg [I x.school, I x.total, ints x.points]) := by
  have hj := (List.getElem?_eq_some_iff.1 h).1
  rw [ldA_at (sv_get hlt), if_pos (by rw [row3_len]; omega), row3_ld h]
/-- One standing sinks to its place. -/
def sink (ord : List Int) : Nat → List Stand → List Stand
  | 0, l => l
  | j + 1, l => match l[j + 1]?, l[j]? with
    | some x, some y => if cmpSt ord x y < 0 then sink ord j ((l.set (j + 1) y).set j x) else l
    | _, _ => l
def sinkAll (ord : List Int) : Nat → Nat → List Stand → List Stand
  | 0, _, l => l
  | k + 1, i, l => sinkAll ord k (i + 1) (sink ord i l)
def sortSd (ord : List Int) (l : List Stand) : List Stand := sinkAll ord (l.length - 1) 1 l
theorem mem_set2 {α : Type} {l : List α} {i j : Nat} {x y z : α} (hx : l[i]? = some x) (hy : l[j]? = some y) (h : z ∈ (l.set i y).set j x) : z ∈ l := by
  rcases List.mem_or_eq_of_mem_set h with h | h
  · rcases List.mem_or_eq_of_mem_set h with h | h
    · exact h
    · exact h ▸ List.mem_of_getElem? hy
  · exact h ▸ List.mem_of_getElem? hx
set_option maxHeartbeats 4000000 in
theorem insSort_pc (Y : YEnv) (σ : Sg) (id : Nat) (ord : List Int) (l : List Stand) (hd : σ.store[id]? = some (some (rowC (l.map sdPV)))) (hC : ∀ a b, a ∈ l → b ∈ l → CmpOk ord a b) (hol : ord.length < 2 ^ 40) (hl : 0 < l.length ∧ l.length ≤ 12) :
    PC Tryz.prog Y 102 [.gsl id l.length 3, I 0, I l.length, .func (.func 59) [.agg [ints ord]] []] σ (.tuple []) (σ.setVar id (rowC ((sortSd ord l).map sdPV))) := by
  refine PC_of_W Tryz.func102 rfl (by kernel_rfl) Tryz.ntmps102 (by simp) fun hcl hca => ?_
  have hlt := lt_of_get hd
  obtain ⟨res, hres⟩ : ∃ r, sortSd ord l = r := ⟨_, rfl⟩
  rw [hres]
  obtain ⟨n, hn⟩ : ∃ z, l.length = z := ⟨_, rfl⟩
  rw [hn] at hl ⊢
  refine W_seq fun kz1 kq1 => ?_
  refine W_region [0, 1, 2, 3, 8] fun R hR => ?_   -- r0
  simp only [go_sem, ldS_at hd, stX_at hd, ldS_sv hlt, stX_sv hlt, sv_ext hlt, sv_ext_sv hlt]
  try simp (disch := omega) only [wrapI, wrapU]
  refine hR _ _ (kq1 _ _ ?_); clear hR R; try clear kq1 kz1
  try simp only [go_sem, ldS_at hd, stX_at hd, ldS_sv hlt, stX_sv hlt, sv_ext hlt, sv_ext_sv hlt]
  refine W_block ?_
  refine W_loopT (α := Nat × (List Stand)) (fun ⟨i, m⟩ => [(8, I i)]) (fun ⟨i, m⟩ => σ.setVar id (rowC (m.map sdPV))) (fun ⟨i, m⟩ => 1 ≤ i ∧ i ≤ n ∧ m.length = n ∧ (∀ x, x ∈ m → x ∈ l) ∧ res = sinkAll ord (n - i) i m) (fun ⟨i, m⟩ => n - i) ((1, l)) rfl (by show σ.setVar id _ = σ; exact sv_self hd) (⟨Nat.le_refl _, by omega, hn, fun x hx => hx, by rw [← hres, sortSd, hn]⟩) ?_
  rintro ⟨i, m⟩ ⟨hi1, hi, hml, hmm, hinv⟩
  refine W_seq fun kz2 kq2 => ?_
  refine W_seq fun kz3 kq3 => ?_
  refine W_region [0, 1, 2, 3, 8, 14] fun R hR => ?_   -- r1
  simp only [go_sem, ldS_at hd, stX_at hd, ldS_sv hlt, stX_sv hlt, sv_ext hlt, sv_ext_sv hlt]
  refine hR _ _ (kq3 _ _ ?_); clear hR R; try clear kq3 kz3
  try simp only [go_sem, ldS_at hd, stX_at hd, ldS_sv hlt, stX_sv hlt, sv_ext hlt, sv_ext_sv hlt]
  refine W_cond rfl (fun c1 => ?_) (fun c1 => ?_)
  · -- c1 true
    try simp only [nrm] at c1
    have hin : i < n := by first | omega | (simp at c1; omega)
    rw [show n - i = (n - (i + 1)) + 1 by omega] at hinv
    simp only [sinkAll] at hinv
    refine W_skip (kq2 _ _ ?_)
    refine W_seq fun kz4 kq4 => ?_
    refine W_block ?_
    refine W_seq fun kz5 kq5 => ?_
    refine W_region [0, 1, 2, 3, 8, 9] fun R hR => ?_   -- r3
    simp only [go_sem, ldS_at hd, stX_at hd, ldS_sv hlt, stX_sv hlt, sv_ext hlt, sv_ext_sv hlt]
    refine hR _ _ (kq5 _ _ ?_); clear hR R; try clear kq5 kz5
    try simp only [go_sem, ldS_at hd, stX_at hd, ldS_sv hlt, stX_sv hlt, sv_ext hlt, sv_ext_sv hlt]
    refine W_block ?_
    refine W_loopT (α := Nat × (List Stand)) (fun ⟨j, m2⟩ => [(9, I j)]) (fun ⟨j, m2⟩ => σ.setVar id (rowC (m2.map sdPV))) (fun ⟨j, m2⟩ => j ≤ i ∧ m2.length = n ∧ (∀ x, x ∈ m2 → x ∈ l) ∧ sink ord i m = sink ord j m2) (fun ⟨j, m2⟩ => j) ((i, m)) rfl (by first | rfl | (simp only [go_sem]; done) | (simp only [go_sem]; rfl)) (⟨Nat.le_refl _, hml, hmm, rfl⟩) ?_
    rintro ⟨j, m2⟩ ⟨hj, hm2l, hm2, hsk⟩
    refine W_seq fun kz6 kq6 => ?_
    refine W_seq fun kz7 kq7 => ?_
    refine W_draw [0, 1, 2, 3, 8, 9, 34] [0, 1, 2, 3, 4, 5, 6, 7, 8, 9, 10, 11, 12, 13, 14, 15, 16] [] [[], [], [0, 1], [0, 1, 2], [0, 1, 2, 3], [0, 1, 2, 3], [0, 1, 2, 3], [0, 1, 2, 3, 5, 6], [0, 1, 2, 3, 5, 6, 7], [0, 1, 2, 3], [0, 1, 2, 3], [0, 1, 2, 3, 10], [0, 1, 2, 3, 9, 10, 11], [0, 1, 2, 3, 9, 10, 11, 12], [0, 1, 2, 3, 4, 5, 6, 7, 8, 9, 10, 11, 12, 13], [0, 1, 2, 3, 4, 5, 6, 7, 8, 9, 10, 11, 12, 13, 14], [0, 1, 2, 3, 4, 5, 6, 7, 8, 9, 10, 11, 12, 13, 14, 15]] mixed (by kernel_rfl) fun R hR => ?_   -- r4
    simp only [go_sem, ldS_at hd, stX_at hd, ldS_sv hlt, stX_sv hlt, sv_ext hlt, sv_ext_sv hlt]
    refine GWant_split (fun g1 => ?_) (fun g1 => ?_)
    · try simp only [Bool.not_eq_true', Bool.not_eq_false'] at g1
      have n1 := g1; try simp only [nrm] at n1
      obtain ⟨q, rfl⟩ : ∃ q, j = q + 1 := ⟨j - 1, by first | omega | (simp at g1; omega)⟩
      obtain ⟨x, hx⟩ : ∃ z, m2[q + 1]? = some z := ⟨m2[q + 1]'(by omega), by simp⟩
      obtain ⟨y, hy⟩ : ∃ z, m2[q]? = some z := ⟨m2[q]'(by omega), by simp⟩
      have hsk2 : sink ord (q + 1) m2 = if cmpSt ord x y < 0 then sink ord q ((m2.set (q + 1) y).set q x) else m2 := by simp only [sink, hx, hy]
      have hq1 : ((q + 1 : Nat) : Int) < (n : Int) := by omega
      have hq0 : ((q : Nat) : Int) < (n : Int) := by omega
      have hz1 : (0 : Int) ≤ ((q + 1 : Nat) : Int) := by omega
      have hqw : IntKind.i64.wrap (((q + 1 : Nat) : Int) - 1) = (q : Int) := by rw [wrapI (by omega) (by omega)]; omega
      have l1 := ld3 hlt hx
      have l2 := ld3 hlt hy
      have s1 : decide ((q + 1) * 3 + 3 ≤ (rowC (List.map sdPV m2)).length) = true := by rw [row3_len]; simp; omega
      have s2 : decide (q * 3 + 3 ≤ (rowC (List.map sdPV (m2.set (q + 1) y))).length) = true := by rw [row3_len]; simp; omega
      have s3 := row3_put y (l := m2) (j := q + 1) (by omega)
      have s4 := row3_put x (l := m2.set (q + 1) y) (j := q) (by simp; omega)
      simp only [go_sem, ldS_at hd, stX_at hd, ldS_sv hlt, stX_sv hlt, sv_ext hlt, sv_ext_sv hlt, hqw, hq1, hq0, iaM_nat (Int.ofNat_lt.1 hq1), iaM_nat (Int.ofNat_lt.1 hq0), Nat.zero_add, l1, l2, s1, s2, s3, s4, g1]
      try simp (disch := omega) only [wrapI, wrapU]
      refine GCall_of (compare_pc Y _ ord x y (hC x y (hm2 x (List.mem_of_getElem? hx)) (hm2 y (List.mem_of_getElem? hy))) hol) ?_   -- t32
      simp only [go_sem, ldS_at hd, stX_at hd, ldS_sv hlt, stX_sv hlt, sv_ext hlt, sv_ext_sv hlt, hqw, hq1, hq0, iaM_nat (Int.ofNat_lt.1 hq1), iaM_nat (Int.ofNat_lt.1 hq0), Nat.zero_add, l1, l2, s1, s2, s3, s4, g1]
      try simp (disch := omega) only [wrapI, wrapU]
      try refine And.intro (by repeat' (first | refine And.intro ?_ ?_ | exact GOr_right (fun _ => by simp only [go_sem, ldS_at hd, stX_at hd, ldS_sv hlt, stX_sv hlt, sv_ext hlt, sv_ext_sv hlt, hqw, hq1, hq0, iaM_nat (Int.ofNat_lt.1 hq1), iaM_nat (Int.ofNat_lt.1 hq0), Nat.zero_add, l1, l2, s1, s2, s3, s4]))) ?_
      refine hR _ _ (kq7 _ _ ?_); clear hR R; try clear kq7 kz7
      try simp only [go_sem, ldS_at hd, stX_at hd, ldS_sv hlt, stX_sv hlt, sv_ext hlt, sv_ext_sv hlt, hqw, hq1, hq0, iaM_nat (Int.ofNat_lt.1 hq1), iaM_nat (Int.ofNat_lt.1 hq0), Nat.zero_add, l1, l2, s1, s2, s3, s4]
      refine W_cond rfl (fun c2 => ?_) (fun c2 => ?_)
      · -- c2 true
        try simp only [nrm] at c2
        skip
        refine W_skip (kq6 _ _ ?_)
        refine W_seq fun kz8 kq8 => ?_
        refine W_block ?_
        refine W_draw [0, 1, 2, 3, 8, 9] [0, 1, 2, 3, 4, 5, 6, 7, 8, 9, 10, 11, 12, 13, 14, 15, 16, 17] [(2, 17), (3, 17), (4, 17)] [[], [], [], [], [3], [], [], [6], [5, 6, 7], [5, 6, 7, 8], [], [], [10, 11], [10, 11, 12], [0, 1, 5, 6, 7, 8, 9, 10, 11, 12, 13], [0, 1, 5, 6, 7, 8, 9, 10, 11, 12, 13, 14], [0, 1, 2, 3, 4, 5, 6, 7, 8, 9, 10, 11, 12, 13, 14, 15], [0, 1, 2, 3, 4, 5, 6, 7, 8, 9, 10, 11, 12, 13, 14, 15, 16]] mixed (by kernel_rfl) fun R hR => ?_   -- r6
        simp only [go_sem, ldS_at hd, stX_at hd, ldS_sv hlt, stX_sv hlt, sv_ext hlt, sv_ext_sv hlt, hqw, hq1, hq0, iaM_nat (Int.ofNat_lt.1 hq1), iaM_nat (Int.ofNat_lt.1 hq0), Nat.zero_add, l1, l2, s1, s2, s3, s4]
        try simp (disch := omega) only [wrapI, wrapU]
        try refine And.intro (by repeat' (first | refine And.intro ?_ ?_ | exact GOr_right (fun _ => by simp only [go_sem, ldS_at hd, stX_at hd, ldS_sv hlt, stX_sv hlt, sv_ext hlt, sv_ext_sv hlt, hqw, hq1, hq0, iaM_nat (Int.ofNat_lt.1 hq1), iaM_nat (Int.ofNat_lt.1 hq0), Nat.zero_add, l1, l2, s1, s2, s3, s4]))) ?_
        refine hR _ _ (kq8 _ _ ?_); clear hR R; try clear kq8 kz8
        try simp only [go_sem, ldS_at hd, stX_at hd, ldS_sv hlt, stX_sv hlt, sv_ext hlt, sv_ext_sv hlt, hqw, hq1, hq0, iaM_nat (Int.ofNat_lt.1 hq1), iaM_nat (Int.ofNat_lt.1 hq0), Nat.zero_add, l1, l2, s1, s2, s3, s4]
        refine W_region [0, 1, 2, 3, 8, 9] fun R hR => ?_   -- r5
        simp only [go_sem, ldS_at hd, stX_at hd, ldS_sv hlt, stX_sv hlt, sv_ext hlt, sv_ext_sv hlt, hqw, hq1, hq0, iaM_nat (Int.ofNat_lt.1 hq1), iaM_nat (Int.ofNat_lt.1 hq0), Nat.zero_add, l1, l2, s1, s2, s3, s4]
        try simp (disch := omega) only [wrapI, wrapU]
        refine hR _ _ ?_; clear hR R
        try simp only [go_sem, ldS_at hd, stX_at hd, ldS_sv hlt, stX_sv hlt, sv_ext hlt, sv_ext_sv hlt, hqw, hq1, hq0, iaM_nat (Int.ofNat_lt.1 hq1), iaM_nat (Int.ofNat_lt.1 hq0), Nat.zero_add, l1, l2, s1, s2, s3, s4]
        refine ⟨(q, (m2.set (q + 1) y).set q x), ?_, by (try simp only []); omega, ?_⟩
        · first | exact Weak.refl | exact Weak.eq (by first | rfl | (simp only [go_sem]; done) | (simp only [go_sem]; rfl) | (simp [go_sem]; done) | (simp [go_sem]; omega)) (by first | rfl | (simp only [go_sem]; done) | (simp [go_sem]; done))
        · try dsimp only
          refine ⟨by omega, by simp [hm2l], fun z hz => hm2 z (mem_set2 hx hy hz), ?_⟩
          rw [hsk, hsk2, if_pos (by simpa using c2)]
      · -- c2 false
        try simp only [nrm] at c2
        skip
        refine W_exit ?_
        simp only [go_sem, ldS_at hd, stX_at hd, ldS_sv hlt, stX_sv hlt, sv_ext hlt, sv_ext_sv hlt, hqw, hq1, hq0, iaM_nat (Int.ofNat_lt.1 hq1), iaM_nat (Int.ofNat_lt.1 hq0), Nat.zero_add, l1, l2, s1, s2, s3, s4]
        refine kq4 _ _ ?_
        refine W_region [0, 1, 2, 3, 8] fun R hR => ?_   -- r2
        simp only [go_sem, ldS_at hd, stX_at hd, ldS_sv hlt, stX_sv hlt, sv_ext hlt, sv_ext_sv hlt, hqw, hq1, hq0, iaM_nat (Int.ofNat_lt.1 hq1), iaM_nat (Int.ofNat_lt.1 hq0), Nat.zero_add, l1, l2, s1, s2, s3, s4]
        try simp (disch := omega) only [wrapI, wrapU]
        refine hR _ _ ?_; clear hR R
        try simp only [go_sem, ldS_at hd, stX_at hd, ldS_sv hlt, stX_sv hlt, sv_ext hlt, sv_ext_sv hlt, hqw, hq1, hq0, iaM_nat (Int.ofNat_lt.1 hq1), iaM_nat (Int.ofNat_lt.1 hq0), Nat.zero_add, l1, l2, s1, s2, s3, s4]
        refine ⟨(i + 1, m2), ?_, by (try simp only []); omega, ?_⟩
        · first | exact Weak.refl | exact Weak.eq (by first | rfl | (simp only [go_sem]; done) | (simp only [go_sem]; rfl) | (simp [go_sem]; done) | (simp [go_sem]; omega)) (by first | rfl | (simp only [go_sem]; done) | (simp [go_sem]; done))
        · try dsimp only
          refine ⟨by omega, by omega, hm2l, hm2, ?_⟩
          rw [hinv, hsk]
          first
          | rw [hsk2, if_neg (by simpa using c2)]
          | (have hj0 : j = 0 := by first | omega | (simp at g1; omega)
             subst hj0; rfl)
    · try simp only [Bool.not_eq_true', Bool.not_eq_false'] at g1
      have n1 := g1; try simp only [nrm] at n1
      simp only [go_sem, ldS_at hd, stX_at hd, ldS_sv hlt, stX_sv hlt, sv_ext hlt, sv_ext_sv hlt, g1]
      try simp (disch := omega) only [wrapI, wrapU]
      try refine And.intro (by repeat' (first | refine And.intro ?_ ?_ | exact GOr_right (fun _ => by simp only [go_sem, ldS_at hd, stX_at hd, ldS_sv hlt, stX_sv hlt, sv_ext hlt, sv_ext_sv hlt]))) ?_
      refine hR _ _ (kq7 _ _ ?_); clear hR R; try clear kq7 kz7
      try simp only [go_sem, ldS_at hd, stX_at hd, ldS_sv hlt, stX_sv hlt, sv_ext hlt, sv_ext_sv hlt]
      refine W_cond_false rfl ?_
      refine W_exit ?_
      simp only [go_sem, ldS_at hd, stX_at hd, ldS_sv hlt, stX_sv hlt, sv_ext hlt, sv_ext_sv hlt]
      refine kq4 _ _ ?_
      refine W_region [0, 1, 2, 3, 8] fun R hR => ?_   -- r2
      simp only [go_sem, ldS_at hd, stX_at hd, ldS_sv hlt, stX_sv hlt, sv_ext hlt, sv_ext_sv hlt]
      try simp (disch := omega) only [wrapI, wrapU]
      refine hR _ _ ?_; clear hR R
      try simp only [go_sem, ldS_at hd, stX_at hd, ldS_sv hlt, stX_sv hlt, sv_ext hlt, sv_ext_sv hlt]
      refine ⟨(i + 1, m2), ?_, by (try simp only []); omega, ?_⟩
      · first | exact Weak.refl | exact Weak.eq (by first | rfl | (simp only [go_sem]; done) | (simp only [go_sem]; rfl) | (simp [go_sem]; done) | (simp [go_sem]; omega)) (by first | rfl | (simp only [go_sem]; done) | (simp [go_sem]; done))
      · try dsimp only
        refine ⟨by omega, by omega, hm2l, hm2, ?_⟩
        rw [hinv, hsk]
        first
        | rw [hsk2, if_neg (by simpa using c2)]
        | (have hj0 : j = 0 := by first | omega | (simp at g1; omega)
           subst hj0; rfl)
  · -- c1 false
    try simp only [nrm] at c1
    have hie : n = i := by first | omega | (simp at c1; omega)
    subst hie
    rw [Nat.sub_self] at hinv
    simp only [sinkAll] at hinv
    subst hinv
    refine W_exit ?_
    simp only [go_sem, ldS_at hd, stX_at hd, ldS_sv hlt, stX_sv hlt, sv_ext hlt, sv_ext_sv hlt]
    try simp only [go_sem, ldS_at hd, stX_at hd, ldS_sv hlt, stX_sv hlt, sv_ext hlt, sv_ext_sv hlt]
    refine ⟨.inl (by trivial), ?_⟩
    first | refine Fin_set hcl (by simp only [go_sem]) rfl (Wk_eq ?_ (by simp only [go_sem])) | refine Fin_set0 hcl (by simp only [go_sem]) rfl (Wk_eq ?_ (by simp only [go_sem]))
    try simp only [go_sem]
    all_goals
      skip
set_option maxHeartbeats 2000000 in
theorem pdqSort_pc (Y : YEnv) (σ : Sg) (id : Nat) (ord : List Int) (l : List Stand) (hd : σ.store[id]? = some (some (rowC (l.map sdPV)))) (hC : ∀ a b, a ∈ l → b ∈ l → CmpOk ord a b) (hol : ord.length < 2 ^ 40) (hl : 0 < l.length ∧ l.length ≤ 12) (lim : Int) :
    PC Tryz.prog Y 86 [.gsl id l.length 3, I 0, I l.length, I lim, .func (.func 59) [.agg [ints ord]] []] σ (.tuple []) (σ.setVar id (rowC ((sortSd ord l).map sdPV))) := by
  refine PC_of_W Tryz.func86 rfl (by kernel_rfl) Tryz.ntmps86 (by simp) fun hcl hca => ?_
  have hlt := lt_of_get hd
  have hl2 : (l.length : Int) ≤ 12 := by omega
  refine W_seq fun kz1 kq1 => ?_
  refine W_region [0, 1, 2, 3, 4, 10] fun R hR => ?_   -- r0
  simp only [go_sem, ldS_at hd, stX_at hd, ldS_sv hlt, stX_sv hlt, sv_ext hlt, sv_ext_sv hlt]
  refine hR _ _ (kq1 _ _ ?_); clear hR R; try clear kq1 kz1
  try simp only [go_sem, ldS_at hd, stX_at hd, ldS_sv hlt, stX_sv hlt, sv_ext hlt, sv_ext_sv hlt]
  refine W_seq fun kz2 kq2 => ?_
  refine W_region [0, 1, 2, 3, 4, 10, 11] fun R hR => ?_   -- r1
  simp only [go_sem, ldS_at hd, stX_at hd, ldS_sv hlt, stX_sv hlt, sv_ext hlt, sv_ext_sv hlt]
  refine hR _ _ (kq2 _ _ ?_); clear hR R; try clear kq2 kz2
  try simp only [go_sem, ldS_at hd, stX_at hd, ldS_sv hlt, stX_sv hlt, sv_ext hlt, sv_ext_sv hlt]
  refine W_block ?_
  refine W_loopS (α := Nat) (fun (z : Nat) => []) (fun (z : Nat) => True) (fun (z : Nat) => 0) (0) rfl (trivial) ?_
  rintro z _
  refine W_block ?_
  refine W_seq fun kz3 kq3 => ?_
  refine W_region [0, 1, 2, 3, 4, 10, 11, 12] fun R hR => ?_   -- r2
  simp only [go_sem, ldS_at hd, stX_at hd, ldS_sv hlt, stX_sv hlt, sv_ext hlt, sv_ext_sv hlt]
  try simp (disch := omega) only [wrapI, wrapU]
  refine hR _ _ (kq3 _ _ ?_); clear hR R; try clear kq3 kz3
  try simp only [go_sem, ldS_at hd, stX_at hd, ldS_sv hlt, stX_sv hlt, sv_ext hlt, sv_ext_sv hlt]
  refine W_seq fun kz4 kq4 => ?_
  refine W_seq fun kz5 kq5 => ?_
  refine W_region [0, 1, 2, 3, 4, 10, 11, 12, 25] fun R hR => ?_   -- r3
  simp only [go_sem, ldS_at hd, stX_at hd, ldS_sv hlt, stX_sv hlt, sv_ext hlt, sv_ext_sv hlt]
  refine hR _ _ (kq5 _ _ ?_); clear hR R; try clear kq5 kz5
  try simp only [go_sem, ldS_at hd, stX_at hd, ldS_sv hlt, stX_sv hlt, sv_ext hlt, sv_ext_sv hlt]
  refine W_cond rfl (fun c1 => ?_) (fun c1 => ?_)
  · -- c1 true
    try simp only [nrm] at c1
    refine W_seq fun kz6 kq6 => ?_
    refine W_region [] fun R hR => ?_   -- r4
    simp only [go_sem, ldS_at hd, stX_at hd, ldS_sv hlt, stX_sv hlt, sv_ext hlt, sv_ext_sv hlt]
    refine GCall_of (insSort_pc Y _ id ord l hd hC hol hl) ?_   -- t30
    simp only [go_sem, ldS_at hd, stX_at hd, ldS_sv hlt, stX_sv hlt, sv_ext hlt, sv_ext_sv hlt]
    refine hR _ _ (kq6 _ _ ?_); clear hR R; try clear kq6 kz6
    try simp only [go_sem, ldS_at hd, stX_at hd, ldS_sv hlt, stX_sv hlt, sv_ext hlt, sv_ext_sv hlt]
    refine W_ret ?_
    simp only [go_sem, ldS_at hd, stX_at hd, ldS_sv hlt, stX_sv hlt, sv_ext hlt, sv_ext_sv hlt]
    refine ⟨.inr (by trivial), ?_⟩
    first | refine Fin_set hcl (by simp only [go_sem]) rfl (Wk_eq ?_ (by simp only [go_sem])) | refine Fin_set0 hcl (by simp only [go_sem]) rfl (Wk_eq ?_ (by simp only [go_sem]))
    try simp only [go_sem]
    all_goals
      skip
  · -- c1 false
    try simp only [nrm] at c1
    exfalso
    first | omega | (simp at c1; omega)
set_option maxHeartbeats 2000000 in
theorem sortFunc_pc (Y : YEnv) (σ : Sg) (id : Nat) (ord : List Int) (l : List Stand) (hd : σ.store[id]? = some (some (rowC (l.map sdPV)))) (hC : ∀ a b, a ∈ l → b ∈ l → CmpOk ord a b) (hol : ord.length < 2 ^ 40) (hl : 0 < l.length ∧ l.length ≤ 12) :
    PC Tryz.prog Y 60 [.gsl id l.length 3, .func (.func 59) [.agg [ints ord]] []] σ (.tuple []) (σ.setVar id (rowC ((sortSd ord l).map sdPV))) := by
  refine PC_of_W Tryz.func60 rfl (by kernel_rfl) Tryz.ntmps60 (by simp) fun hcl hca => ?_
  have hlt := lt_of_get hd
  refine W_seq fun kz1 kq1 => ?_
  refine W_region [0, 1, 4] fun R hR => ?_   -- r0
  simp only [go_sem, ldS_at hd, stX_at hd, ldS_sv hlt, stX_sv hlt, sv_ext hlt, sv_ext_sv hlt]
  refine hR _ _ (kq1 _ _ ?_); clear hR R; try clear kq1 kz1
  try simp only [go_sem, ldS_at hd, stX_at hd, ldS_sv hlt, stX_sv hlt, sv_ext hlt, sv_ext_sv hlt]
  refine W_region [] fun R hR => ?_   -- r1
  simp only [go_sem, ldS_at hd, stX_at hd, ldS_sv hlt, stX_sv hlt, sv_ext hlt, sv_ext_sv hlt]
  try simp (disch := omega) only [wrapI, wrapU]
  refine GCall_of (bitsLen_pc Y _ l.length (by omega) (by omega)) ?_   -- t11
  simp only [go_sem, ldS_at hd, stX_at hd, ldS_sv hlt, stX_sv hlt, sv_ext hlt, sv_ext_sv hlt]
  try simp (disch := omega) only [wrapI, wrapU]
  refine GCall_of (pdqSort_pc Y _ id ord l hd hC hol hl _) ?_   -- t13
  simp only [go_sem, ldS_at hd, stX_at hd, ldS_sv hlt, stX_sv hlt, sv_ext hlt, sv_ext_sv hlt]
  try simp (disch := omega) only [wrapI, wrapU]
  refine hR _ _ ?_; clear hR R
  try simp only [go_sem, ldS_at hd, stX_at hd, ldS_sv hlt, stX_sv hlt, sv_ext hlt, sv_ext_sv hlt]
  try simp only [go_sem, ldS_at hd, stX_at hd, ldS_sv hlt, stX_sv hlt, sv_ext hlt, sv_ext_sv hlt]
  refine ⟨.inl (by trivial), ?_⟩
  first | refine Fin_set hcl (by simp only [go_sem]) rfl (Wk_eq ?_ (by simp only [go_sem])) | refine Fin_set0 hcl (by simp only [go_sem]) rfl (Wk_eq ?_ (by simp only [go_sem]))
  try simp only [go_sem]
  all_goals
    skip
end Go.Proofs.YtgelnjmddabgpaaGreat
namespace Go.Proofs.YtgelnjmddabgpaaGreat
open Go Go.RowKit
set_option maxRecDepth 100000
/-- Standings that grow in place: nothing yet, or the last of a row of variables (those before it are gone). -/
def glS (n : Nat) (out : List Stand) : PV := match out with
  | [] => .gnil
  | _ :: t => .gsl (n + t.length) (t.length + 1) 3
def gsS (out : List Stand) : List (Option (List PV)) := match out with
  | [] => []
  | _ :: t => List.replicate t.length none ++ [some (rowC (out.map sdPV))]
theorem gsS_len (out : List Stand) : (gsS out).length = out.length := by cases out <;> simp [gsS]
theorem appendAny_gs {P : Program} {σ : Sg} {t t' : TypeId} {n : Nat} {out : List Stand} {m : List PV} {o : Own} : appendAny P σ t t' (glS n out) (.isl m o) = appendG P σ t t' (glS n out) (.isl m o) := by cases out <;> rfl
attribute [go_sem] appendAny_gs
theorem glS_clean {a b c n : Nat} {out : List Stand} (h : n + out.length ≤ a) : Clean a b c (glS n out) := by
  cases out with
  | nil => exact .gnil
  | cons x out => exact .gsl _ _ _ (by simp at h; omega)
theorem gsS_clean {a b c : Nat} (out : List Stand) : CleanLs a b c (gsS out) := by
  cases out with
  | nil => simp only [gsS, CleanLs_nil]
  | cons x out =>
    refine CleanLs_append (CleanLs_rep _) ?_
    simp only [CleanLs_cons, CleanLs_nil, and_true]
    exact cA_row3.mpr trivial
section
variable {σ : Sg} {A : List (Option (List PV))} {rm : List Nat} {ys : List LState} {out : List Stand}
theorem gsS_get {x : Stand} : (A ++ gsS (x :: out))[A.length + out.length]? = some (some (rowC ((x :: out).map sdPV))) := by
  have : A.length + out.length = (A ++ List.replicate out.length (none : Option (List PV))).length := by simp
  rw [this, gsS, ← List.append_assoc]
  exact get_mid
theorem gsS_set {x : Stand} {y : Option (List PV)} : (A ++ gsS (x :: out)).set (A.length + out.length) y = A ++ (List.replicate out.length none ++ [y]) := by
  have : A.length + out.length = (A ++ List.replicate out.length (none : Option (List PV))).length := by simp
  rw [this, gsS, ← List.append_assoc, ← List.append_assoc]
  exact set_mid
theorem appG_gs (b : Nat) (x : Stand) (h : (out.length + 1) * b ≤ 2 ^ 47) : appG 3 b (σ.ext (A ++ gsS out) rm ys) (glS (σ.store.length + A.length) out) [.agg [I x.school, I x.total, ints x.points]] = some (glS (σ.store.length + A.length) (out ++ [x]), σ.ext (A ++ gsS (out ++ [x])) rm ys) := by
  cases out with
  | nil =>
    rw [glS, appG_nil (by rfl) (by simp) (by simpa using h)]
    simp [gsS, glS, rowC, Sg.push_ext, Sg.len_ext, sdPV, sdCells]
  | cons y out =>
    simp only [glS]
    rw [appG_more (cs := rowC ((y :: out).map sdPV)) (by rw [Nat.add_assoc, Sg.get_ext]; exact gsS_get) (by rw [row3_len]; simp) (by rfl) (by simp) (by simpa using h)]
    rw [Nat.add_assoc (Sg.store σ).length, Sg.drop_ext, gsS_set]
    simp only [Sg.push_ext, Sg.len_ext]
    have e : List.replicate (out ++ [x]).length (none : Option (List PV)) = List.replicate out.length none ++ [none] := by simp [List.replicate_succ']
    simp only [List.cons_append, gsS, e, glS]
    have e2 : rowC ((y :: (out ++ [x])).map sdPV) = rowC ((y :: out).map sdPV) ++ rowC [.agg [I x.school, I x.total, ints x.points]] := by
      simp [rowC, sdPV, sdCells]
    rw [e2]
    simp [Nat.add_assoc]
end
theorem sink_len (ord : List Int) : ∀ (j : Nat) (l : List Stand), (sink ord j l).length = l.length := by
  intro j
  induction j with
  | zero => intro l; rfl
  | succ j ih =>
    intro l
    simp only [sink]
    split
    · split
      · rw [ih]; simp
      · rfl
    · rfl
theorem sinkAll_len (ord : List Int) : ∀ (k i : Nat) (l : List Stand), (sinkAll ord k i l).length = l.length := by
  intro k
  induction k with
  | zero => intro i l; rfl
  | succ k ih => intro i l; simp only [sinkAll, ih, sink_len]
theorem sortSd_len (ord : List Int) (l : List Stand) : (sortSd ord l).length = l.length := sinkAll_len _ _ _ _
theorem sort_gs (Y : YEnv) (σ : Sg) (A : List (Option (List PV))) (rm : List Nat) (ord : List Int) (out : List Stand) (hC : ∀ a b, a ∈ out → b ∈ out → CmpOk ord a b) (hol : ord.length < 2 ^ 40) (hl : 0 < out.length ∧ out.length ≤ 12) :
    PC Tryz.prog Y 60 [glS (σ.store.length + A.length) out, .func (.func 59) [.agg [ints ord]] []] (σ.ext (A ++ gsS out) rm) (.tuple []) (σ.ext (A ++ gsS (sortSd ord out)) rm) := by
  cases out with
  | nil => simp at hl
  | cons x out =>
    have h1 := sortFunc_pc Y (σ.ext (A ++ gsS (x :: out)) rm) (σ.store.length + A.length + out.length) ord (x :: out) (by rw [Nat.add_assoc, Sg.get_ext]; exact gsS_get) hC hol hl
    rw [Nat.add_assoc, Sg.set_ext, gsS_set] at h1
    have e : A ++ (List.replicate out.length none ++ [some (rowC ((sortSd ord (x :: out)).map sdPV))]) = A ++ gsS (sortSd ord (x :: out)) := by
      have hs := sortSd_len ord (x :: out)
      cases hc : sortSd ord (x :: out) with
      | nil => rw [hc] at hs; simp at hs
      | cons y s =>
        rw [hc] at hs
        simp only [List.length_cons] at hs
        simp only [gsS]
        rw [show out.length = s.length by omega]
    rw [e] at h1
    simp only [glS]
    rw [Nat.add_assoc]
    exact h1
theorem glS_sort (n : Nat) (ord : List Int) (out : List Stand) : glS n (sortSd ord out) = glS n out := by
  have hl := sortSd_len ord out
  cases h : sortSd ord out with
  | nil =>
    rw [h] at hl
    cases out with
    | nil => rfl
    | cons x out => simp at hl
  | cons y s =>
    rw [h] at hl
    cases out with
    | nil => simp at hl
    | cons x out => simp only [List.length_cons] at hl; simp only [glS]; rw [show s.length = out.length by omega]
def sdUp (s : Scale) (k : Kn) (g : Night) (i : Nat) : List Stand := (List.range i).map fun (j : Nat) => standK s k g j 0
theorem sdUp_succ (s : Scale) (k : Kn) (g : Night) (i : Nat) : sdUp s k g (i + 1) = sdUp s k g i ++ [standK s k g i 0] := by simp [sdUp, List.range_succ]
/-- The table as the program makes it. -/
def tblP (s : Scale) (k : Kn) (g : Night) : List Stand := sortSd s.order (sdUp s k g s.schools.toNat)
def tableP (s : Scale) (g : Night) : List Stand × Int :=
  if knownE s g ≠ 0 then ([], knownE s g) else if sealedK s (knownK s g) ≠ [] then ([], 11) else (tblP s (knownK s g) g, 0)
set_option maxHeartbeats 2000000 in
theorem plcE_pc (Y : YEnv) (σ : Sg) (s : Scale) (g : Night) (hs : s.Ok) (hg : g.Ok) (sc : Int) (hE : knownE s g ≠ 0) :
    PC Tryz.prog Y 28 [scPV s, ngPV g, I sc] σ (.tuple [.agg [I 0, I 0], I (knownE s g)]) (σ) := by
  refine PC_of_W Tryz.func28 rfl (by kernel_rfl) Tryz.ntmps28 (by simp) fun hcl hca => ?_
  refine W_seq fun kz1 kq1 => ?_
  refine W_region [3, 4, 5, 6] fun R hR => ?_   -- r0
  simp only [go_sem]
  refine hR _ _ (kq1 _ _ ?_); clear hR R; try clear kq1 kz1
  try simp only [go_sem]
  refine W_seq fun kz2 kq2 => ?_
  refine W_region [3, 4, 5, 6, 8, 9] fun R hR => ?_   -- r1
  simp only [go_sem]
  refine GCall_of (knownOf_err Y _ s g hs hg hE) ?_   -- t14
  simp only [go_sem]
  refine hR _ _ (kq2 _ _ ?_); clear hR R; try clear kq2 kz2
  try simp only [go_sem]
  refine W_seq fun kz3 kq3 => ?_
  refine W_seq fun kz4 kq4 => ?_
  refine W_region [3, 4, 5, 6, 8, 9, 18] fun R hR => ?_   -- r2
  simp only [go_sem]
  refine hR _ _ (kq4 _ _ ?_); clear hR R; try clear kq4 kz4
  try simp only [go_sem]
  refine W_cond rfl (fun c1 => ?_) (fun c1 => ?_)
  · -- c1 true
    try simp only [nrm] at c1
    refine W_seq fun kz5 kq5 => ?_
    refine W_region [6, 7] fun R hR => ?_   -- r3
    simp only [go_sem]
    refine hR _ _ (kq5 _ _ ?_); clear hR R; try clear kq5 kz5
    try simp only [go_sem]
    refine W_ret ?_
    simp only [go_sem]
    refine ⟨.inr (by trivial), ?_⟩
    first | refine Fin_same hcl (by show resPV Tryz.prog _ _ [.cell 6 63, .tmp 7] = some _; simp only [resPV, go_sem]; rfl) (Wk_eq ?_ (by simp only [go_sem])) | refine Fin_same hcl rfl (Wk_eq ?_ (by simp only [go_sem]))
    try simp only [go_sem]
    all_goals
      first | rfl | (simp_all; done) | (simp_all; omega)
  · -- c1 false
    try simp only [nrm] at c1
    exfalso
    first | exact hE (by omega) | (simp at c1; exact hE (by omega))
set_option maxHeartbeats 2000000 in
theorem plcO_pc (Y : YEnv) (σ : Sg) (s : Scale) (g : Night) (hs : s.Ok) (hg : g.Ok) (sc : Int) (hE : knownE s g = 0) :
    PC Tryz.prog Y 28 [scPV s, ngPV g, I sc] σ (.tuple [.agg [I (placeA s g sc).1.1, I (placeA s g sc).1.2], I (placeA s g sc).2]) (σ) := by
  refine PC_of_W Tryz.func28 rfl (by kernel_rfl) Tryz.ntmps28 (by simp) fun hcl hca => ?_
  have hV := known_V hE
  obtain ⟨K, hK⟩ : ∃ z, knownK s g = z := ⟨_, rfl⟩
  rw [hK] at hV
  have hv := hV.v
  have q3 := hv.sc
  have q4 := hv.lo
  have q5 := hv.hi
  obtain ⟨N, hN⟩ : ∃ z : Nat, s.schools = z := ⟨s.schools.toNat, by omega⟩
  have hNi : (s.schools : Int) = (N : Int) := hN
  have hkn := fun Y σ => knownOf_ok Y σ s g hs hg hE
  rw [hK] at hkn
  refine W_seq fun kz1 kq1 => ?_
  refine W_region [3, 4, 5, 6] fun R hR => ?_   -- r0
  simp only [go_sem]
  refine hR _ _ (kq1 _ _ ?_); clear hR R; try clear kq1 kz1
  try simp only [go_sem]
  refine W_seq fun kz2 kq2 => ?_
  refine W_region [3, 4, 5, 6, 8, 9] fun R hR => ?_   -- r1
  simp only [go_sem]
  refine GCall_of (hkn Y _) ?_   -- t14
  simp only [go_sem]
  refine hR _ _ (kq2 _ _ ?_); clear hR R; try clear kq2 kz2
  try simp only [go_sem]
  refine W_seq fun kz3 kq3 => ?_
  refine W_seq fun kz4 kq4 => ?_
  refine W_region [3, 4, 5, 6, 8, 9, 18] fun R hR => ?_   -- r2
  simp only [go_sem]
  refine hR _ _ (kq4 _ _ ?_); clear hR R; try clear kq4 kz4
  try simp only [go_sem]
  refine W_cond_false rfl ?_
  refine W_skip (kq3 _ _ ?_)
  refine W_seq fun kz5 kq5 => ?_
  refine W_seq fun kz6 kq6 => ?_
  refine W_region [3, 4, 5, 6, 8, 26] fun R hR => ?_   -- r4
  simp only [go_sem]
  try simp (disch := omega) only [wrapI, wrapU]
  refine GCall_of (in_pc Y _ sc 0 _) ?_   -- t25
  simp only [go_sem]
  try simp (disch := omega) only [wrapI, wrapU]
  refine hR _ _ (kq6 _ _ ?_); clear hR R; try clear kq6 kz6
  try simp only [go_sem]
  refine W_cond rfl (fun c1 => ?_) (fun c1 => ?_)
  · -- c1 true
    try simp only [nrm] at c1
    refine W_seq fun kz7 kq7 => ?_
    refine W_region [6, 7] fun R hR => ?_   -- r5
    simp only [go_sem]
    refine hR _ _ (kq7 _ _ ?_); clear hR R; try clear kq7 kz7
    try simp only [go_sem]
    refine W_ret ?_
    simp only [go_sem]
    refine ⟨.inr (by trivial), ?_⟩
    first | refine Fin_same hcl (by show resPV Tryz.prog _ _ [.cell 6 63, .tmp 7] = some _; simp only [resPV, go_sem]; rfl) (Wk_eq ?_ (by simp only [go_sem])) | refine Fin_same hcl rfl (Wk_eq ?_ (by simp only [go_sem]))
    try simp only [go_sem]
    all_goals
      clear hNi hN; simp [placeA, hE, hK, *]
  · -- c1 false
    try simp only [nrm] at c1
    have hin : inR sc 0 (s.schools - 1) = true := c1
    have hin2 := hin
    simp only [inR_true] at hin2
    obtain ⟨n, rfl⟩ : ∃ n : Nat, sc = n := ⟨sc.toNat, by omega⟩
    refine W_skip (kq5 _ _ ?_)
    refine W_seq fun kz8 kq8 => ?_
    refine W_region [3, 6, 10] fun R hR => ?_   -- r6
    simp only [go_sem]
    refine hR _ _ (kq8 _ _ ?_); clear hR R; try clear kq8 kz8
    try simp only [go_sem]
    refine W_seq fun kz9 kq9 => ?_
    refine W_draw [6, 7] [0, 1, 2, 3, 4, 5, 6, 7, 8, 9, 10, 11, 12, 13, 14] [(6, 5), (7, 5), (8, 5), (9, 5), (10, 5)] [[], [], [1], [], [3], [0, 1, 2, 3, 4], [], [], [7], [], [9], [0, 1, 2, 3, 4, 5, 6, 7, 8, 9, 10], [0, 1, 2, 3, 4, 5, 6, 7, 8, 9, 10, 11], [0, 1, 2, 3, 4, 5, 6, 7, 8, 9, 10, 11, 12], [0, 1, 2, 3, 4, 5, 6, 7, 8, 9, 10, 11, 12, 13]] mixed (by kernel_rfl) fun R hR => ?_   -- r7
    simp only [go_sem]
    refine GCall_of (place1_pc Y _ (σ.store.length + 7) (σ.store.length + 6) (σ.store.length) (σ.store.length + 1) (σ.store.length + 2) s K g hV n (by omega) s.high s.low (by omega) (by omega) (Sg.get_ext ..) (Sg.get_ext ..) (Sg.get_ext0 ..) (Sg.get_ext ..) (Sg.get_ext ..)) ?_   -- t34
    simp only [go_sem]
    refine GCall_of (place1_pc Y _ (σ.store.length + 7) (σ.store.length + 6) (σ.store.length) (σ.store.length + 1) (σ.store.length + 2) s K g hV n (by omega) s.low s.high (by omega) (by omega) (Sg.get_ext ..) (Sg.get_ext ..) (Sg.get_ext0 ..) (Sg.get_ext ..) (Sg.get_ext ..)) ?_   -- t40
    simp only [go_sem]
    try refine And.intro (by repeat' (first | refine And.intro ?_ ?_ | exact GOr_right (fun _ => by simp only [go_sem]))) ?_
    refine hR _ _ (kq9 _ _ ?_); clear hR R; try clear kq9 kz9
    try simp only [go_sem]
    refine W_ret ?_
    simp only [go_sem]
    refine ⟨.inr (by trivial), ?_⟩
    first | refine Fin_same hcl (by show resPV Tryz.prog _ _ [.cell 6 63, .tmp 7] = some _; simp only [resPV, go_sem]; rfl) (Wk_eq ?_ (by simp only [go_sem])) | refine Fin_same hcl rfl (Wk_eq ?_ (by simp only [go_sem]))
    try simp only [go_sem]
    all_goals
      clear hNi hN; simp [placeA, hE, hK, *]
theorem Place_pc (Y : YEnv) (σ : Sg) (s : Scale) (g : Night) (hs : s.Ok) (hg : g.Ok) (sc : Int) : PC Tryz.prog Y 28 [scPV s, ngPV g, I sc] σ (.tuple [.agg [I (placeA s g sc).1.1, I (placeA s g sc).1.2], I (placeA s g sc).2]) σ := by
  by_cases h : knownE s g = 0
  · exact plcO_pc Y σ s g hs hg sc h
  · have e : placeA s g sc = ((0, 0), knownE s g) := by unfold placeA; rw [if_pos h]
    rw [e]; exact plcE_pc Y σ s g hs hg sc h
set_option maxHeartbeats 2000000 in
theorem tabE_pc (Y : YEnv) (σ : Sg) (s : Scale) (g : Night) (hs : s.Ok) (hg : g.Ok) (hE : knownE s g ≠ 0) :
    PC Tryz.prog Y 17 [scPV s, ngPV g] σ (.tuple [sds [], I (knownE s g)]) (σ) := by
  refine PC_of_W Tryz.func17 rfl (by kernel_rfl) Tryz.ntmps17 (by simp) fun hcl hca => ?_
  refine W_seq fun kz1 kq1 => ?_
  refine W_region [2, 3, 4, 5] fun R hR => ?_   -- r0
  simp only [go_sem]
  refine hR _ _ (kq1 _ _ ?_); clear hR R; try clear kq1 kz1
  try simp only [go_sem]
  refine W_seq fun kz2 kq2 => ?_
  refine W_region [2, 3, 4, 5, 6, 7] fun R hR => ?_   -- r1
  simp only [go_sem]
  refine GCall_of (knownOf_err Y _ s g hs hg hE) ?_   -- t14
  simp only [go_sem]
  refine hR _ _ (kq2 _ _ ?_); clear hR R; try clear kq2 kz2
  try simp only [go_sem]
  refine W_seq fun kz3 kq3 => ?_
  refine W_seq fun kz4 kq4 => ?_
  refine W_region [2, 3, 4, 5, 6, 7, 18] fun R hR => ?_   -- r2
  simp only [go_sem]
  refine hR _ _ (kq4 _ _ ?_); clear hR R; try clear kq4 kz4
  try simp only [go_sem]
  refine W_cond rfl (fun c1 => ?_) (fun c1 => ?_)
  · -- c1 true
    try simp only [nrm] at c1
    refine W_seq fun kz5 kq5 => ?_
    refine W_region [4, 5] fun R hR => ?_   -- r3
    simp only [go_sem]
    refine hR _ _ (kq5 _ _ ?_); clear hR R; try clear kq5 kz5
    try simp only [go_sem]
    refine W_ret ?_
    simp only [go_sem]
    refine ⟨.inr (by trivial), ?_⟩
    refine Fin_same hcl (by show resPV Tryz.prog _ _ [.cell 4 41, .cell 5 42] = some _; simp only [resPV, go_sem]; rfl) (Wk.ro (by simp only [go_sem]) ?_)
    try simp only [go_sem]
    all_goals
      first | rfl | (simp [PV.ro, PV.roL]; done)
  · -- c1 false
    try simp only [nrm] at c1
    exfalso
    first | exact hE (by omega) | (simp at c1; exact hE (by omega))
set_option maxHeartbeats 2000000 in
theorem tabS_pc (Y : YEnv) (σ : Sg) (s : Scale) (g : Night) (hs : s.Ok) (hg : g.Ok) (hE : knownE s g = 0) (hne0 : sealedK s (knownK s g) ≠ []) :
    PC Tryz.prog Y 17 [scPV s, ngPV g] σ (.tuple [sds [], I 11]) (σ) := by
  refine PC_of_W Tryz.func17 rfl (by kernel_rfl) Tryz.ntmps17 (by simp) fun hcl hca => ?_
  have hV := known_V hE
  obtain ⟨K, hK⟩ : ∃ z, knownK s g = z := ⟨_, rfl⟩
  rw [hK] at hV
  have hv := hV.v
  have q3 := hv.sc
  have q4 := hv.lo
  have q5 := hv.hi
  obtain ⟨N, hN⟩ : ∃ z : Nat, s.schools = z := ⟨s.schools.toNat, by omega⟩
  have hNi : (s.schools : Int) = (N : Int) := hN
  have hkn := fun Y σ => knownOf_ok Y σ s g hs hg hE
  rw [hK] at hkn
  have hne : sealedK s K ≠ [] := by rw [← hK]; exact hne0
  refine W_seq fun kz1 kq1 => ?_
  refine W_region [2, 3, 4, 5] fun R hR => ?_   -- r0
  simp only [go_sem]
  refine hR _ _ (kq1 _ _ ?_); clear hR R; try clear kq1 kz1
  try simp only [go_sem]
  refine W_seq fun kz2 kq2 => ?_
  refine W_region [2, 3, 4, 5, 6, 7] fun R hR => ?_   -- r1
  simp only [go_sem]
  refine GCall_of (hkn Y _) ?_   -- t14
  simp only [go_sem]
  refine hR _ _ (kq2 _ _ ?_); clear hR R; try clear kq2 kz2
  try simp only [go_sem]
  refine W_seq fun kz3 kq3 => ?_
  refine W_seq fun kz4 kq4 => ?_
  refine W_region [2, 3, 4, 5, 6, 7, 18] fun R hR => ?_   -- r2
  simp only [go_sem]
  refine hR _ _ (kq4 _ _ ?_); clear hR R; try clear kq4 kz4
  try simp only [go_sem]
  refine W_cond_false rfl ?_
  refine W_skip (kq3 _ _ ?_)
  refine W_seq fun kz5 kq5 => ?_
  refine W_seq fun kz6 kq6 => ?_
  refine W_region [2, 3, 4, 5, 6, 22] fun R hR => ?_   -- r4
  simp only [go_sem]
  refine GCall_of (sealed_pc Y _ (σ.store.length + 6) (by simp only [go_sem] <;> omega) s) ?_   -- t22
  simp only [go_sem]
  refine hR _ _ (kq6 _ _ ?_); clear hR R; try clear kq6 kz6
  try simp only [go_sem]
  refine W_block ?_
  have hLc : ∀ (z : Int) (n r yy : Nat), σ.store.length + 9 ≤ n → CleanLs n r yy [some (scCells s), some (ngCells g), some [.isl [] .exact], some [I z], some (scCells s), some (ngCells g), some (.mark :: knE K), some [.map (σ.store.length + 6)], some (scCells s)] := fun z n r yy h => by
    have c1 := cleans_ng (a := n) (b := r) (c := yy) g
    have c2 := cleans_sc (a := n) (b := r) (c := yy) s
    have c3 : CleanAll n r yy (knE K) := cA_kn.mpr trivial
    have c1' : CleanAll n r yy (ngCells g) := c1
    have c2' : CleanAll n r yy (scCells s) := c2
    simp only [CleanLs_cons, CleanLs_nil, CleanAll_cons, CleanAll_nil, Cl_map, Cl_mark, Cl_isl, OwnLt_exact, Cl_int, c1', c2', c3, true_and, and_true]
    omega
  refine W_rangeFunc (gf := 81) (v := .tuple []) (s := .done .ret) (σ5 := σ.ext [some (scCells s), some (ngCells g), some [.isl [] .exact], some [I 11], some (scCells s), some (ngCells g), some (.mark :: knE K), some [.map (σ.store.length + 6)], some (scCells s)] [] [.done .ret]) rfl (by simp) (fun args ρ b' ρ' => ∃ m n : Nat, args = [.agg [I m, I n]] ∧ b' = false ∧ ρ = (σ.ext [some (scCells s), some (ngCells g), some [.isl [] .exact], some [I 0], some (scCells s), some (ngCells g), some (.mark :: knE K), some [.map (σ.store.length + 6)], some (scCells s)] [] [.ready]).ext [some [.yield σ.ys.length], some (scCells s), some [I m, I n]] [] [.busy] ∧ ρ' = (σ.ext [some (scCells s), some (ngCells g), some [.isl [] .exact], some [I 11], some (scCells s), some (ngCells g), some (.mark :: knE K), some [.map (σ.store.length + 6)], some (scCells s)] [] [.done .ret]).ext [some [.yield σ.ys.length], some (scCells s), some [I m, I n]] [] [.busy]) ?_ ?_ ?_ ?_ ?_
  · rintro args τ b τ' ⟨m, n, rfl, rfl, rfl, rfl⟩
    refine ⟨rfl, ?_, ?_⟩
    · simp only [go_sem]
    · simp only [go_sem]
      refine W_skip ?_
      simp only [go_sem, putAll]
      skip
      refine W_post_weak ?_
      refine W_block ?_
      refine W_seq fun kz7 kq7 => ?_
      refine W_region [4, 5] fun R hR => ?_   -- r5
      simp only [go_sem, putAll]
      refine hR _ _ (kq7 _ _ ?_); clear hR R; try clear kq7 kz7
      try simp only [go_sem, putAll]
      refine W_ret ?_
      simp only [go_sem, putAll]
      refine ⟨[], _, Weak.keep [], ?_⟩
      simp only [RoundEnd, go_sem]
  · have hst := sealedB_pc (Y.at σ.ys.length (fun args ρ b' ρ' => ∃ m n : Nat, args = [.agg [I m, I n]] ∧ b' = false ∧ ρ = (σ.ext [some (scCells s), some (ngCells g), some [.isl [] .exact], some [I 0], some (scCells s), some (ngCells g), some (.mark :: knE K), some [.map (σ.store.length + 6)], some (scCells s)] [] [.ready]).ext [some [.yield σ.ys.length], some (scCells s), some [I m, I n]] [] [.busy] ∧ ρ' = (σ.ext [some (scCells s), some (ngCells g), some [.isl [] .exact], some [I 11], some (scCells s), some (ngCells g), some (.mark :: knE K), some [.map (σ.store.length + 6)], some (scCells s)] [] [.done .ret]).ext [some [.yield σ.ys.length], some (scCells s), some [I m, I n]] [] [.busy])) σ σ.ys.length (σ.store.length + 8) (σ.store.length + 7) (σ.store.length + 6) s hv K (σ.ext [some (scCells s), some (ngCells g), some [.isl [] .exact], some [I 0], some (scCells s), some (ngCells g), some (.mark :: knE K), some [.map (σ.store.length + 6)], some (scCells s)] [] [.ready]) (σ.ext [some (scCells s), some (ngCells g), some [.isl [] .exact], some [I 11], some (scCells s), some (ngCells g), some (.mark :: knE K), some [.map (σ.store.length + 6)], some (scCells s)] [] [.done .ret])
      (Sg.get_ext ..) (Sg.get_ext ..) (Sg.get_ext ..) (by simp only [go_sem]) (by simp only [go_sem]) (by simp only [go_sem]) (fun _ => CleanSg_ext hcl (hLc 11 _ _ _ (by simp only [go_sem] <;> omega))) hne
      (fun m n _ => by rw [YEnv.at_self]; exact ⟨m, n, rfl, rfl, rfl, rfl⟩)
    simp only [go_sem] at hst ⊢
    exact hst
  · simp only [go_sem]
  · simp only [go_sem]
    exact CleanCut_ext hcl (by first | omega | (simp only [go_sem] <;> omega)) (by first | omega | (simp only [go_sem] <;> omega)) (Nat.le_refl _) (hLc 11 _ _ _ (by first | omega | (simp only [go_sem] <;> omega)))
  · simp only [go_sem]
    simp only [AfterLoop]
    refine W_ret ?_
    simp only [go_sem]
    refine ⟨.inr (by trivial), ?_⟩
    refine Fin_same hcl (by show resPV Tryz.prog _ _ [.cell 4 41, .cell 5 42] = some _; simp only [resPV, go_sem]; rfl) (Wk.ro (by simp only [go_sem]) ?_)
    rfl
end Go.Proofs.YtgelnjmddabgpaaGreat
namespace Go.Proofs.YtgelnjmddabgpaaGreat
open Go Go.RowKit
set_option maxRecDepth 100000
theorem Weak.freezeS {N : Nat} {lo : Nat × Nat} {E : Env} {σ : Sg} {t : Nat} {A : List (Option (List PV))} {rm : List Nat} {ys : List LState} {out : List Stand} (ht : E.get t = glS (σ.store.length + A.length) out) (hne : out ≠ []) :
    Weak N lo E (σ.ext (A ++ gsS out) rm ys) (E.put (some t) (.isl (out.map sdPV) .ro)) (σ.ext (A ++ List.replicate out.length none) rm ys) := by
  cases out with
  | nil => exact absurd rfl hne
  | cons z zs =>
    have h := Weak.freeze (N := N) (lo := lo) (E := E) (σ := σ.ext (A ++ gsS (z :: zs)) rm ys) (t := t) (id := σ.store.length + (A.length + zs.length)) (len := zs.length + 1) (es := 3) (l := (z :: zs).map sdPV) (by rw [ht]; simp only [glS, Nat.add_assoc]) (by rw [Sg.get_ext]; exact gsS_get) (by simp) (fun q hq => by obtain ⟨x, _, rfl⟩ := List.mem_map.1 hq; rfl)
    rw [Sg.drop_ext, gsS_set] at h
    have e : List.replicate (z :: zs).length (none : Option (List PV)) = List.replicate zs.length none ++ [none] := by simp [List.replicate_succ']
    rw [e]
    exact h
set_option maxHeartbeats 4000000 in
theorem tabO_pc (Y : YEnv) (σ : Sg) (s : Scale) (g : Night) (hs : s.Ok) (hg : g.Ok) (hE : knownE s g = 0) (hne0 : sealedK s (knownK s g) = []) :
    PC Tryz.prog Y 17 [scPV s, ngPV g] σ (.tuple [sds (tblP s (knownK s g) g), I 0]) (σ) := by
  refine PC_of_W Tryz.func17 rfl (by kernel_rfl) Tryz.ntmps17 (by simp) fun hcl hca => ?_
  have hV := known_V hE
  obtain ⟨K, hK⟩ : ∃ z, knownK s g = z := ⟨_, rfl⟩
  rw [hK] at hV
  have hv := hV.v
  have q3 := hv.sc
  have q4 := hv.lo
  have q5 := hv.hi
  obtain ⟨N, hN⟩ : ∃ z : Nat, s.schools = z := ⟨s.schools.toNat, by omega⟩
  have hNi : (s.schools : Int) = (N : Int) := hN
  have hkn := fun Y σ => knownOf_ok Y σ s g hs hg hE
  rw [hK] at hkn
  have hne : sealedK s K = [] := by rw [← hK]; exact hne0
  have htb : tblP s (knownK s g) g = sortSd s.order (sdUp s K g N) := by rw [hK, tblP, hN, Int.toNat_natCast]
  rw [htb]
  have hol := hv.ol
  have q1 := hv.mt
  refine W_seq fun kz1 kq1 => ?_
  refine W_region [2, 3, 4, 5] fun R hR => ?_   -- r0
  simp only [go_sem]
  refine hR _ _ (kq1 _ _ ?_); clear hR R; try clear kq1 kz1
  try simp only [go_sem]
  refine W_seq fun kz2 kq2 => ?_
  refine W_region [2, 3, 4, 5, 6, 7] fun R hR => ?_   -- r1
  simp only [go_sem]
  refine GCall_of (hkn Y _) ?_   -- t14
  simp only [go_sem]
  refine hR _ _ (kq2 _ _ ?_); clear hR R; try clear kq2 kz2
  try simp only [go_sem]
  refine W_seq fun kz3 kq3 => ?_
  refine W_seq fun kz4 kq4 => ?_
  refine W_region [2, 3, 4, 5, 6, 7, 18] fun R hR => ?_   -- r2
  simp only [go_sem]
  refine hR _ _ (kq4 _ _ ?_); clear hR R; try clear kq4 kz4
  try simp only [go_sem]
  refine W_cond_false rfl ?_
  refine W_skip (kq3 _ _ ?_)
  refine W_seq fun kz5 kq5 => ?_
  refine W_seq fun kz6 kq6 => ?_
  refine W_region [2, 3, 4, 5, 6, 22] fun R hR => ?_   -- r4
  simp only [go_sem]
  refine GCall_of (sealed_pc Y _ (σ.store.length + 6) (by simp only [go_sem] <;> omega) s) ?_   -- t22
  simp only [go_sem]
  refine hR _ _ (kq6 _ _ ?_); clear hR R; try clear kq6 kz6
  try simp only [go_sem]
  refine W_block ?_
  have hLc : ∀ (z : Int) (n r yy : Nat), σ.store.length + 9 ≤ n → CleanLs n r yy [some (scCells s), some (ngCells g), some [.isl [] .exact], some [I z], some (scCells s), some (ngCells g), some (.mark :: knE K), some [.map (σ.store.length + 6)], some (scCells s)] := fun z n r yy h => by
    have c1 := cleans_ng (a := n) (b := r) (c := yy) g
    have c2 := cleans_sc (a := n) (b := r) (c := yy) s
    have c3 : CleanAll n r yy (knE K) := cA_kn.mpr trivial
    have c1' : CleanAll n r yy (ngCells g) := c1
    have c2' : CleanAll n r yy (scCells s) := c2
    simp only [CleanLs_cons, CleanLs_nil, CleanAll_cons, CleanAll_nil, Cl_map, Cl_mark, Cl_isl, OwnLt_exact, Cl_int, c1', c2', c3, true_and, and_true]
    omega
  refine W_rangeFunc (gf := 81) (v := .tuple []) (s := .ready) (σ5 := σ.ext [some (scCells s), some (ngCells g), some [.isl [] .exact], some [I 0], some (scCells s), some (ngCells g), some (.mark :: knE K), some [.map (σ.store.length + 6)], some (scCells s)] [] [.ready]) rfl (by simp) (fun _ _ _ _ => False) ?_ ?_ ?_ ?_ ?_
  · intro args τ b τ' h; exact h.elim
  · have hst := sealedA_pc (Y.at σ.ys.length (fun _ _ _ _ => False)) σ σ.ys.length (σ.store.length + 8) (σ.store.length + 7) (σ.store.length + 6) s hv K (fun _ => σ.ext [some (scCells s), some (ngCells g), some [.isl [] .exact], some [I 0], some (scCells s), some (ngCells g), some (.mark :: knE K), some [.map (σ.store.length + 6)], some (scCells s)] [] [.ready])
      (fun _ _ => Sg.get_ext ..) (fun _ _ => Sg.get_ext ..) (fun _ _ => Sg.get_ext ..) (fun _ _ => ⟨rfl, rfl, rfl⟩) (fun h _ _ => h)
      (fun c m n h => by rw [hne] at h; simp at h)
    simp only [go_sem] at hst ⊢
    exact hst
  · simp only [go_sem]
  · simp only [go_sem]
    exact CleanCut_ext hcl (by first | omega | (simp only [go_sem] <;> omega)) (by first | omega | (simp only [go_sem] <;> omega)) (Nat.le_refl _) (hLc 0 _ _ _ (by first | omega | (simp only [go_sem] <;> omega)))
  · simp only [AfterLoop, go_sem]
    refine kq5 _ _ ?_
    refine W_seq fun kz7 kq7 => ?_
    refine W_region [2, 3, 4, 5, 6, 8] fun R hR => ?_   -- r6
    simp only [go_sem]
    refine hR _ _ (kq7 _ _ ?_); clear hR R; try clear kq7 kz7
    try simp only [go_sem]
    refine W_seq fun kz8 kq8 => ?_
    refine W_seq fun kz9 kq9 => ?_
    refine W_region [2, 3, 4, 5, 6, 8, 25, 26] fun R hR => ?_   -- r7
    simp only [go_sem]
    refine hR _ _ (kq9 _ _ ?_); clear hR R; try clear kq9 kz9
    try simp only [go_sem]
    refine W_block ?_
    refine W_weak (Weak.gnil (t := 8) rfl) ?_
    refine W_weak (Weak.keep [2, 3, 4, 5, 6, 8, 25, 26]) ?_
    simp only [go_sem]
    refine W_loopT (α := Nat) (fun (i : Nat) => [(8, glS (σ.store.length + 9) (sdUp s K g i)), (26, I i)]) (fun (i : Nat) => σ.ext ([some (scCells s), some (ngCells g), some [.isl [] .exact], some [I 0], some (scCells s), some (ngCells g), some (.mark :: knE K), some [.map (σ.store.length + 6)], some (scCells s)] ++ gsS (sdUp s K g i)) []) (fun (i : Nat) => i ≤ N) (fun (i : Nat) => N - i) (0) rfl (by first | rfl | (simp only [go_sem]; done) | (simp only [go_sem]; rfl)) (Nat.zero_le _) ?_
    rintro i hi
    refine W_seq fun kz10 kq10 => ?_
    refine W_region [2, 3, 4, 5, 6, 8, 25, 26, 27] fun R hR => ?_   -- r8
    simp only [go_sem]
    refine hR _ _ (kq10 _ _ ?_); clear hR R; try clear kq10 kz10
    try simp only [go_sem]
    refine W_seq fun kz11 kq11 => ?_
    refine W_cond rfl (fun c1 => ?_) (fun c1 => ?_)
    · -- c1 true
      try simp only [nrm] at c1
      have hiN : i < N := by first | omega | (simp at c1; omega)
      have hsu := sdUp_succ s K g i
      have hsl : (sdUp s K g i).length = i := by simp [sdUp]
      have happ := appG_gs (σ := σ) (A := [some (scCells s), some (ngCells g), some [.isl [] .exact], some [I 0], some (scCells s), some (ngCells g), some (.mark :: knE K), some [.map (σ.store.length + 6)], some (scCells s)]) (rm := []) (ys := []) (out := sdUp s K g i) 40 (standK s K g i 0) (by omega)
      rw [← hsu] at happ
      simp only [go_sem, List.length_cons, List.length_nil] at happ
      refine W_skip (kq11 _ _ ?_)
      refine W_seq fun kz12 kq12 => ?_
      refine W_block ?_
      refine W_seq fun kz13 kq13 => ?_
      refine W_region [2, 3, 4, 5, 6, 8, 9, 25, 26] fun R hR => ?_   -- r9
      simp only [go_sem, happ]
      refine hR _ _ (kq13 _ _ ?_); clear hR R; try clear kq13 kz13
      try simp only [go_sem, happ]
      refine W_region [2, 3, 4, 5, 6, 8, 25, 26] fun R hR => ?_   -- r10
      simp only [go_sem, happ]
      refine GCall_of (standing_pc Y _ (σ.store.length + 6) K (Sg.get_ext ..) s g hV i (by omega) 0 (by omega)) ?_   -- t34
      simp only [go_sem, happ]
      try simp (disch := first | omega | (simp only [go_sem] <;> omega)) only [wrapI, wrapU, appX_exact, appX_tok]
      try simp only [go_sem, happ]
      refine hR _ _ (kq12 _ _ ?_); clear hR R; try clear kq12 kz12
      try simp only [go_sem, happ]
      refine W_region [2, 3, 4, 5, 6, 8, 25, 26] fun R hR => ?_   -- r11
      simp only [go_sem, happ]
      try simp (disch := omega) only [wrapI, wrapU]
      refine hR _ _ ?_; clear hR R
      try simp only [go_sem, happ]
      refine ⟨i + 1, ?_, by (try simp only []); omega, ?_⟩
      · exact Weak.refl
      · try dsimp only
        omega
    · -- c1 false
      try simp only [nrm] at c1
      have hie : N = i := by first | omega | (simp at c1; omega)
      subst hie
      have hsl : (sdUp s K g N).length = N := by simp [sdUp]
      have hCmp : ∀ a b, a ∈ sdUp s K g N → b ∈ sdUp s K g N → CmpOk s.order a b := fun a b ha hb => by
        obtain ⟨x, hx, rfl⟩ := List.mem_map.1 ha
        obtain ⟨y, hy, rfl⟩ := List.mem_map.1 hb
        have h1 := List.mem_range.1 hx
        have h2 := List.mem_range.1 hy
        exact cmp_ok hV (by omega) (by omega) (by omega) (by omega)
      refine W_exit ?_
      simp only [go_sem]
      refine kq8 _ _ ?_
      refine W_seq fun kz14 kq14 => ?_
      refine W_region [4, 5, 8, 10] fun R hR => ?_   -- r12
      simp only [go_sem]
      refine hR _ _ (kq14 _ _ ?_); clear hR R; try clear kq14 kz14
      try simp only [go_sem]
      refine W_seq fun kz15 kq15 => ?_
      refine W_region [4, 5, 8] fun R hR => ?_   -- r13
      simp only [go_sem]
      refine GCall_of (sort_gs Y σ [_, _, _, _, _, _, _, _, _] [] s.order (sdUp s K g N) hCmp (by omega) (by omega)) ?_   -- t44
      simp only [go_sem]
      refine hR _ _ (kq15 _ _ ?_); clear hR R; try clear kq15 kz15
      try simp only [go_sem]
      refine W_seq fun kz16 kq16 => ?_
      have hne3 : sortSd s.order (sdUp s K g N) ≠ [] := fun e => by
        have := sortSd_len s.order (sdUp s K g N)
        rw [e, hsl] at this
        simp at this; omega
      refine W_weak (Weak.freezeS (t := 8) (A := [_, _, _, _, _, _, _, _, _]) (out := sortSd s.order (sdUp s K g N)) (by rw [glS_sort]; rfl) hne3) ?_
      refine W_weak (Weak.keep [4, 5, 8]) ?_
      simp only [go_sem]
      refine W_region [4, 5] fun R hR => ?_   -- r14
      simp only [go_sem]
      refine hR _ _ (kq16 _ _ ?_); clear hR R; try clear kq16 kz16
      try simp only [go_sem]
      refine W_ret ?_
      simp only [go_sem]
      refine ⟨.inr (by trivial), ?_⟩
      refine Fin_same hcl (by show resPV Tryz.prog _ _ [.cell 4 41, .cell 5 42] = some _; simp only [resPV, go_sem]; rfl) (Wk.ro (by simp only [go_sem]) ?_)
      try simp only [go_sem]
      all_goals
        first | rfl | simp only [go_sem]
theorem Table_pc (Y : YEnv) (σ : Sg) (s : Scale) (g : Night) (hs : s.Ok) (hg : g.Ok) : PC Tryz.prog Y 17 [scPV s, ngPV g] σ (.tuple [sds (tableP s g).1, I (tableP s g).2]) σ := by
  unfold tableP
  by_cases h : knownE s g = 0
  · rw [if_neg (by simpa using h)]
    by_cases h2 : sealedK s (knownK s g) = []
    · rw [if_neg (by simpa using h2)]; exact tabO_pc Y σ s g hs hg h h2
    · rw [if_pos h2]; exact tabS_pc Y σ s g hs hg h h2
  · rw [if_pos h]; exact tabE_pc Y σ s g hs hg h
end Go.Proofs.YtgelnjmddabgpaaGreat
namespace Go.Proofs.YtgelnjmddabgpaaGreat
set_option maxRecDepth 100000
theorem notAhd_lex {ord : List Int} {a b : Stand} : ¬ Ahd ord b a ↔ lexlt (keyS ord a) (keyS ord b) ∨ keyS ord a = keyS ord b := by
  constructor
  · intro h
    rcases lexlt_total (a := keyS ord a) (b := keyS ord b) (by rw [keyS_len, keyS_len]) with k | k | k
    · exact .inl k
    · exact .inr k
    · exact absurd (Ahd_lex.2 k) h
  · rintro (h | h) k
    · exact lexlt_irrefl (lexlt_trans h (Ahd_lex.1 k))
    · have := Ahd_lex.1 k
      rw [h] at this
      exact lexlt_irrefl this
theorem notAhd_trans {ord : List Int} {a b c : Stand} (h : ¬ Ahd ord b a) (k : ¬ Ahd ord c b) : ¬ Ahd ord c a := by
  rw [notAhd_lex] at *
  rcases h with h | h
  · rcases k with k | k
    · exact .inl (lexlt_trans h k)
    · rw [← k]; exact .inl h
  · rw [h]; exact k
theorem set2_perm {l : List Stand} {i j : Nat} {x y : Stand} (hx : l[i]? = some x) (hy : l[j]? = some y) : ((l.set i y).set j x).Perm l := by
  obtain ⟨h1, rfl⟩ := List.getElem?_eq_some_iff.1 hx
  obtain ⟨h2, rfl⟩ := List.getElem?_eq_some_iff.1 hy
  exact List.set_set_perm h1 h2
theorem sink_perm (ord : List Int) : ∀ (j : Nat) (l : List Stand), (sink ord j l).Perm l := by
  intro j
  induction j with
  | zero => intro l; exact .refl _
  | succ j ih =>
    intro l
    simp only [sink]
    split
    · rename_i hx hy
      split
      · exact (ih _).trans (set2_perm hx hy)
      · exact .refl _
    · exact .refl _
theorem sinkAll_perm (ord : List Int) : ∀ (k i : Nat) (l : List Stand), (sinkAll ord k i l).Perm l := by
  intro k
  induction k with
  | zero => intro i l; exact .refl _
  | succ k ih => intro i l; simp only [sinkAll]; exact (ih _ _).trans (sink_perm ord i l)
theorem sortSd_perm (ord : List Int) (l : List Stand) : (sortSd ord l).Perm l := sinkAll_perm _ _ _ _
/-- The first ones, up to a place, are sorted, but for one that may stand too far behind. -/
def SrtX (ord : List Int) (l : List Stand) (i j : Nat) : Prop := ∀ p q a b, p < q → q ≤ i → q ≠ j → l[p]? = some a → l[q]? = some b → ¬ Ahd ord b a
def Srt (ord : List Int) (l : List Stand) (i : Nat) : Prop := ∀ p q a b, p < q → q ≤ i → l[p]? = some a → l[q]? = some b → ¬ Ahd ord b a
theorem sink_srt (ord : List Int) (i : Nat) : ∀ (j : Nat) (l : List Stand), j ≤ i → i < l.length → SrtX ord l i j → Srt ord (sink ord j l) i := by
  intro j
  induction j with
  | zero => intro l _ _ h p q a b hpq hq; exact h p q a b hpq hq (by omega)
  | succ j ih =>
    intro l hj hl h
    obtain ⟨x, hx⟩ : ∃ x, l[j + 1]? = some x := ⟨l[j + 1]'(by omega), by simp⟩
    obtain ⟨y, hy⟩ : ∃ y, l[j]? = some y := ⟨l[j]'(by omega), by simp⟩
    simp only [sink, hx, hy]
    split
    · rename_i hlt
      refine ih _ (by omega) (by simpa using hl) ?_
      have g : ∀ r, ((l.set (j + 1) y).set j x)[r]? = if r = j then some x else if r = j + 1 then some y else l[r]? := by
        intro r
        by_cases e : r = j
        · subst e; rw [if_pos rfl, List.getElem?_set_self (by simp; omega)]
        · rw [if_neg e, List.getElem?_set_ne (fun h => e h.symm)]
          by_cases e2 : r = j + 1
          · subst e2; rw [if_pos rfl, List.getElem?_set_self (by omega)]
          · rw [if_neg e2, List.getElem?_set_ne (fun h => e2 h.symm)]
      intro p q a b hpq hq hne ha hb
      rw [g] at ha hb
      rw [if_neg hne] at hb
      by_cases e1 : q = j + 1
      · rw [if_pos e1] at hb
        cases hb
        by_cases e2 : p = j
        · rw [if_pos e2] at ha
          cases ha
          exact Ahd.asymm hlt
        · rw [if_neg e2, if_neg (by omega)] at ha
          exact h p j _ _ (by omega) (by omega) (by omega) ha hy
      · rw [if_neg e1] at hb
        by_cases e2 : p = j
        · rw [if_pos e2] at ha
          cases ha
          exact h (j + 1) q _ _ (by omega) hq (by omega) hx hb
        · rw [if_neg e2] at ha
          by_cases e3 : p = j + 1
          · rw [if_pos e3] at ha
            cases ha
            exact h j q _ _ (by omega) hq (by omega) hy hb
          · rw [if_neg e3] at ha
            exact h p q a b hpq hq (by omega) ha hb
    · rename_i hnlt
      intro p q a b hpq hq ha hb
      by_cases e : q = j + 1
      · subst e
        rw [hx] at hb
        cases hb
        by_cases e2 : p = j
        · subst e2
          rw [hy] at ha
          cases ha
          exact hnlt
        · exact notAhd_trans (h p j a y (by omega) (by omega) (by omega) ha hy) hnlt
      · exact h p q a b hpq hq e ha hb
theorem sinkAll_srt (ord : List Int) : ∀ (k i : Nat) (l : List Stand), 0 < i → i + k ≤ l.length → Srt ord l (i - 1) → Srt ord (sinkAll ord k i l) (i + k - 1) := by
  intro k
  induction k with
  | zero => intro i l _ _ h; exact h
  | succ k ih =>
    intro i l hi hl h
    simp only [sinkAll]
    have h1 := sink_srt ord i i l (Nat.le_refl _) (by omega) (fun p q a b hpq hq hne ha hb => h p q a b hpq (by omega) ha hb)
    have h2 := ih (i + 1) (sink ord i l) (by omega) (by rw [sink_len]; omega) (by rw [Nat.add_sub_cancel]; exact h1)
    rw [show i + (k + 1) - 1 = i + 1 + k - 1 by omega]
    exact h2
theorem sortSd_srt (ord : List Int) (l : List Stand) {p q : Nat} {a b : Stand} (hpq : p < q) (ha : (sortSd ord l)[p]? = some a) (hb : (sortSd ord l)[q]? = some b) : ¬ Ahd ord b a := by
  have hq := (List.getElem?_eq_some_iff.1 hb).1
  rw [sortSd_len] at hq
  have := sinkAll_srt ord (l.length - 1) 1 l (by omega) (by omega) (fun p q a b hpq hq => by omega)
  exact this p q a b hpq (by omega) ha hb
section
variable {s : Scale} {k : Kn} {g : Night} {N : Nat}
/-- The table of a night that is decided. -/
structure TabOk (s : Scale) (k : Kn) (g : Night) (N : Nat) (l : List Stand) : Prop where
  ln : l.length = N
  of : ∀ x, x ∈ l → ∃ c : Nat, c < N ∧ x = standK s k g c 0
  nd : (l.map Stand.school).Nodup
  st : ∀ (p q : Nat) (a b : Stand), p < q → l[p]? = some a → l[q]? = some b → Ahd s.order a b
  al : ∀ c : Nat, c < N → standK s k g c 0 ∈ l
theorem sd_map (f : Nat → Stand) (hf : ∀ i, (f i).school = i) (N : Nat) : (((List.range N).map f).map Stand.school).Nodup := by
  rw [List.map_map]
  have : (Stand.school ∘ f) = fun (i : Nat) => (i : Int) := by funext i; exact hf i
  rw [this]
  rw [List.nodup_iff_pairwise_ne, List.pairwise_map]
  exact (List.nodup_range (n := N)).imp fun h e => h (by omega)
theorem tbl_ok (hN : s.schools = N) : TabOk s k g N (tblP s k g) := by
  have hp := sortSd_perm s.order (sdUp s k g N)
  have e : tblP s k g = sortSd s.order (sdUp s k g N) := by unfold tblP; rw [hN, Int.toNat_natCast]
  rw [e]
  have hnd : ((sortSd s.order (sdUp s k g N)).map Stand.school).Nodup := (hp.map _).nodup_iff.2 (sd_map _ (fun i => rfl) N)
  refine ⟨by rw [sortSd_len]; simp [sdUp], fun x hx => ?_, hnd, fun p q a b hpq ha hb => ?_, fun c hc => hp.mem_iff.2 (List.mem_map.2 ⟨c, List.mem_range.2 hc, rfl⟩)⟩
  · obtain ⟨c, h1, rfl⟩ := List.mem_map.1 (hp.mem_iff.1 hx)
    exact ⟨c, List.mem_range.1 h1, rfl⟩
  · refine not_ahd (fun e => ?_) (sortSd_srt _ _ hpq ha hb)
    obtain ⟨h1, h2⟩ := List.getElem?_eq_some_iff.1 ha
    obtain ⟨h3, h4⟩ := List.getElem?_eq_some_iff.1 hb
    have := (List.pairwise_iff_getElem.1 (List.nodup_iff_pairwise_ne.1 hnd)) p q (by simpa using h1) (by simpa using h3) hpq
    simp only [List.getElem_map] at this
    rw [h2, h4] at this
    exact this e.symm
end
end Go.Proofs.YtgelnjmddabgpaaGreat
namespace Go.Proofs.YtgelnjmddabgpaaGreat
set_option maxRecDepth 100000
noncomputable def insR (ord : List Int) (x : Stand) (l : List Stand) : List Stand :=
  open Classical in l.takeWhile (fun y => decide (Ahd ord y x)) ++ x :: l.dropWhile (fun y => decide (Ahd ord y x))
noncomputable def rTab (s : Scale) (k : Kn) (g : Night) : Nat → List Stand
  | 0 => []
  | i + 1 => insR s.order (standK s k g i 0) (rTab s k g i)
theorem insR_at {ord : List Int} {x : Stand} {l : List Stand} {at' : Nat} (h : at' ≤ l.length) (h1 : ∀ y, y ∈ l.take at' → Ahd ord y x) (h2 : ∀ y, l[at']? = some y → ¬ Ahd ord y x) : insR ord x l = l.take at' ++ x :: l.drop at' := by
  unfold insR
  have e1 : ∀ (a b : List Stand), (∀ y, y ∈ a → Ahd ord y x) → (∀ y, b.head? = some y → ¬ Ahd ord y x) → (open Classical in (a ++ b).takeWhile (fun y => decide (Ahd ord y x)) = a ∧ (a ++ b).dropWhile (fun y => decide (Ahd ord y x)) = b) := by
    intro a
    induction a with
    | nil =>
      intro b _ hb
      cases b with
      | nil => simp
      | cons y b =>
        have := hb y rfl
        simp [this]
    | cons a l ih =>
      intro b ha hb
      have := ha a (by simp)
      obtain ⟨p, q⟩ := ih b (fun y hy => ha y (by simp [hy])) hb
      simp [this, p, q]
  have := e1 (l.take at') (l.drop at') h1 (fun y hy => h2 y (by rw [List.head?_drop] at hy; exact hy))
  rw [List.take_append_drop] at this
  rw [this.1, this.2]
theorem insR_perm (ord : List Int) (x : Stand) (l : List Stand) : (insR ord x l).Perm (x :: l) := by
  unfold insR
  refine List.perm_middle.trans (List.Perm.cons _ ?_)
  rw [List.takeWhile_append_dropWhile]
theorem insR_sorted {ord : List Int} {x : Stand} : ∀ {l : List Stand}, l.Pairwise (Ahd ord) → (∀ y, y ∈ l → y.school ≠ x.school) → (insR ord x l).Pairwise (Ahd ord) := by
  intro l
  induction l with
  | nil => intro _ _; simp [insR]
  | cons a l ih =>
    intro h hne
    obtain ⟨h1, h2⟩ := List.pairwise_cons.1 h
    by_cases ha : Ahd ord a x
    · have e : insR ord x (a :: l) = a :: insR ord x l := by simp [insR, ha]
      rw [e, List.pairwise_cons]
      refine ⟨fun y hy => ?_, ih h2 fun y hy => hne y (by simp [hy])⟩
      rcases List.mem_cons.1 ((insR_perm ord x l).mem_iff.1 hy) with rfl | hy
      · exact ha
      · exact h1 y hy
    · have e : insR ord x (a :: l) = x :: a :: l := by simp [insR, ha]
      have hxa : Ahd ord x a := by
        rcases Ahd.total (ord := ord) (hne a (by simp)) with k | k
        · exact absurd k ha
        · exact k
      rw [e, List.pairwise_cons]
      refine ⟨fun y hy => ?_, h⟩
      rcases List.mem_cons.1 hy with rfl | hy
      · exact hxa
      · exact hxa.trans (h1 y hy)
theorem rTab_perm (s : Scale) (k : Kn) (g : Night) : ∀ i, (rTab s k g i).Perm ((List.range i).map fun j : Nat => standK s k g (j : Int) 0) := by
  intro i
  induction i with
  | zero => exact .refl _
  | succ i ih =>
    refine (insR_perm _ _ _).trans ?_
    rw [List.range_succ, List.map_append]
    refine (ih.cons _).trans ?_
    exact (List.perm_append_singleton _ _).symm
theorem rTab_len (s : Scale) (k : Kn) (g : Night) (i : Nat) : (rTab s k g i).length = i := by rw [(rTab_perm s k g i).length_eq]; simp
theorem rTab_of {s : Scale} {k : Kn} {g : Night} {i : Nat} {y : Stand} (h : y ∈ rTab s k g i) : ∃ j : Nat, j < i ∧ y = standK s k g j 0 := by
  obtain ⟨j, hj, e⟩ := List.mem_map.1 ((rTab_perm s k g i).mem_iff.1 h)
  exact ⟨j, List.mem_range.1 hj, e.symm⟩
theorem rTab_sorted (s : Scale) (k : Kn) (g : Night) : ∀ i, (rTab s k g i).Pairwise (Ahd s.order) := by
  intro i
  induction i with
  | zero => exact .nil
  | succ i ih =>
    refine insR_sorted ih fun y hy => ?_
    obtain ⟨j, hj, rfl⟩ := rTab_of hy
    show (j : Int) ≠ (i : Int)
    omega
theorem rTab_all {s : Scale} {k : Kn} {g : Night} {N : Nat} (hN : s.schools = N) : rTab s k g N = tblP s k g := by
  have T := tbl_ok (s := s) (k := k) (g := g) hN
  refine List.Perm.eq_of_pairwise (le := Ahd s.order) (fun a b _ _ h1 h2 => absurd h2 h1.asymm) (rTab_sorted s k g N) ?_ ?_
  · rw [List.pairwise_iff_getElem]
    intro p q hp hq hpq
    exact T.st p q _ _ hpq (by simp [hp]) (by simp [hq])
  · have e : tblP s k g = sortSd s.order (sdUp s k g N) := by unfold tblP; rw [hN, Int.toNat_natCast]
    rw [e]
    exact (rTab_perm s k g N).trans (sortSd_perm s.order (sdUp s k g N)).symm
end Go.Proofs.YtgelnjmddabgpaaGreat
namespace Go.Proofs.YtgelnjmddabgpaaGreat
open Go Go.RowKit
end Go.Proofs.YtgelnjmddabgpaaGreat
namespace Go.Proofs.YtgelnjmddabgpaaGreat
open Go Go.RowKit
theorem Weak.freezeP {N : Nat} {lo : Nat × Nat} {E : Env} {σ : Sg} {t id : Nat} {cs : List PV} (ht : E.get t = .ptr id 0) (hs : σ.store[id]? = some (some cs)) :
    Weak N lo E σ (E.put (some t) (.eptr cs.length [.agg cs] 0 0)) (σ.drop id) := by
  intro Ψ0 Ψ D a w hb le hr
  have hv := hr.env t
  rw [ht] at hv
  generalize hx : a.tmps.getD t undef = x at hv
  cases hv with
  | ptr _ _ b hβ hz =>
  obtain ⟨_, c, hbk, _⟩ := hr.sg.szok b 0 hz
  obtain ⟨_, _, hkp⟩ := hr.sg.block id _ b hs hβ
  obtain ⟨a4, a5⟩ := hkp.cells hbk
  obtain ⟨le2, hs2⟩ := hr.sg.freeze hs hβ hbk
  refine ⟨_, le.trans le2, hr.size, fun t' => ?_, hs2, fun d hd => le2.ds _ (hr.dsub d hd), ?_⟩
  · rw [get_put1]
    split
    · rename_i e
      subst e
      rw [hx]
      have hat : ∀ (k : Nat) (q : PV) (j : Nat) (p : PV), [PV.agg cs][k]? = some q → q.cells[j]? = some p → k = 0 ∧ cs[j]? = some p ∧ j < c.size := fun k q j p q1 q2 => by
        cases k with
        | zero =>
          simp at q1
          subst q1
          exact ⟨rfl, q2, Nat.lt_of_lt_of_le (List.getElem?_eq_some_iff.1 q2).1 a4⟩
        | succ k => simp at q1
      have := VR.eptr (Ψ := Ψ.addImm b 0 c.size c) cs.length [.agg cs] 0 0 b 0 (fun k j => c.getD j undef) (fun k q hk => by
        cases k with
        | zero => simp at hk; subst hk; rfl
        | succ k => simp at hk) (fun k q j p q1 q2 => by
        obtain ⟨rfl, _, hlt⟩ := hat k q j p q1 q2
        simp only [Ty.addImm]
        rw [if_pos ⟨trivial, Nat.zero_le _, by omega⟩]
        simp [Array.getD, hlt]) (fun k q j p q1 q2 => by
        obtain ⟨rfl, h1, hlt⟩ := hat k q j p q1 q2
        refine (a5 _ p _ h1 ?_).mono le2
        simp [Array.getD, hlt])
      simpa using this
    · exact (hr.env t').mono le2
  · obtain ⟨rs, r1, r2, r3⟩ := hr.defs
    exact ⟨rs, r1, r2, fun r hm => ⟨le2.ds _ (r3 r hm).1, (r3 r hm).2⟩⟩
theorem Weak.freezePX {N : Nat} {lo : Nat × Nat} {E : Env} {σ : Sg} {l : List (Option (List PV))} {rm : List Nat} {ys : List LState} {t j : Nat} {cs : List PV} (ht : E.get t = .ptr (σ.store.length + j) 0) (hs : l[j]? = some (some cs)) :
    Weak N lo E (σ.ext l rm ys) (E.put (some t) (.eptr cs.length [.agg cs] 0 0)) (σ.ext (l.set j none) rm ys) := by
  have h := Weak.freezeP (N := N) (lo := lo) (E := E) (σ := σ.ext l rm ys) ht (by rw [Sg.get_ext]; exact hs)
  rw [Sg.drop_ext] at h
  exact h
end Go.Proofs.YtgelnjmddabgpaaGreat
namespace Go.Proofs.YtgelnjmddabgpaaGreat
open Go Go.RowKit
set_option maxRecDepth 100000
section
variable {P : Program} {t e : TypeId} {d : TypeDesc} {id len es at' : Nat} {k : IntKind}
theorem sliceG_hi (h : P.underlying t = some (.slice e)) (he : P.underlying e = some d) (hat : at' ≤ len) : slicePV P t (.gsl id len es) none (some (.int k at')) none = some (.gsl id at' es) := by
  simp [slicePV, h, he, bnd, hat]
theorem sliceG_lo (h : P.underlying t = some (.slice e)) (he : P.underlying e = some d) (hat : at' ≤ len) : slicePV P t (.gsl id len es) (some (.int k at')) none none = some (if at' = 0 then .gsl id len es else if at' = len then .isl [] .ro else .msl id (at' * P.cellsOf e) (len - at')) := by
  simp only [slicePV, h, he, bnd, Int.natCast_nonneg, if_true, Int.toNat_natCast]
  rw [if_pos ⟨hat, Nat.le_refl _⟩]
  split
  · rfl
  · split <;> rfl
theorem sliceN_hi (h : P.underlying t = some (.slice e)) (he : P.underlying e = some d) : slicePV P t .gnil none (some (.int k 0)) none = some .gnil := by
  simp [slicePV, h, he, bnd]
theorem sliceN_lo (h : P.underlying t = some (.slice e)) (he : P.underlying e = some d) : slicePV P t .gnil (some (.int k 0)) none none = some .gnil := by
  simp [slicePV, h, he, bnd]
end
/-- The first ones of a row that grows; the others. -/
def gcS (n : Nat) (out : List Stand) (at' : Nat) : PV := match out with
  | [] => .gnil
  | _ :: t => .gsl (n + t.length) at' 3
def gtS (n : Nat) (out : List Stand) (at' : Nat) : PV := match out with
  | [] => .gnil
  | _ :: t => if at' = 0 then .gsl (n + t.length) (t.length + 1) 3 else if at' = t.length + 1 then .isl [] .ro else .msl (n + t.length) (at' * 3) (t.length + 1 - at')
theorem slC {n : Nat} {out : List Stand} {at' : Nat} (h : at' ≤ out.length) : slicePV Tryz.prog 41 (glS n out) none (some (I at')) none = some (gcS n out at') := by
  cases out with
  | nil =>
    have : at' = 0 := by simpa using h
    subst this
    exact sliceN_hi Tryz.underlying41 Tryz.underlying55
  | cons z zs => exact sliceG_hi Tryz.underlying41 Tryz.underlying55 (by simpa using h)
theorem slT {n : Nat} {out : List Stand} {at' : Nat} (h : at' ≤ out.length) : slicePV Tryz.prog 41 (glS n out) (some (I at')) none none = some (gtS n out at') := by
  cases out with
  | nil =>
    have : at' = 0 := by simpa using h
    subst this
    exact sliceN_lo Tryz.underlying41 Tryz.underlying55
  | cons z zs =>
    have := sliceG_lo (P := Tryz.prog) (id := n + zs.length) (es := 3) (k := .i64) Tryz.underlying41 Tryz.underlying55 (show at' ≤ zs.length + 1 by simpa using h)
    rw [cells55] at this
    exact this
theorem appendAny_gc {P : Program} {σ : Sg} {t t' : TypeId} {n at' : Nat} {out : List Stand} {m : List PV} {o : Own} : appendAny P σ t t' (gcS n out at') (.isl m o) = appendG P σ t t' (gcS n out at') (.isl m o) := by cases out <;> rfl
section
variable {σ : Sg} {A : List (Option (List PV))} {rm : List Nat} {ys : List LState} {out : List Stand} {at' : Nat}
theorem row3_drop (l : List Stand) (k : Nat) : (rowC (l.map sdPV)).drop (k * 3) = rowC ((l.drop k).map sdPV) := by
  induction k generalizing l with
  | zero => simp
  | succ k ih =>
    cases l with
    | nil => simp [rowC]
    | cons a l =>
      rw [row3_cons, show (k + 1) * 3 = k * 3 + 3 by omega]
      simp only [List.drop_succ_cons]
      exact ih l
theorem row3_take (l : List Stand) (k : Nat) : (rowC (l.map sdPV)).take (k * 3) = rowC ((l.take k).map sdPV) := by
  induction k generalizing l with
  | zero => simp [rowC]
  | succ k ih =>
    cases l with
    | nil => simp [rowC]
    | cons a l =>
      rw [row3_cons, show (k + 1) * 3 = k * 3 + 3 by omega]
      simp only [List.take_succ_cons, ih l]
      rw [row3_cons]
theorem row3_chunk (l : List Stand) : chunk 3 l.length (rowC (l.map sdPV)) = l.map sdPV := by
  have := chunk_row (es := 3) (by omega) (l.map sdPV) [] (fun q hq => by obtain ⟨x, _, rfl⟩ := List.mem_map.1 hq; exact ⟨rfl, rfl⟩)
  rw [List.append_nil, List.length_map] at this
  exact this
theorem row_gt (h : at' ≤ out.length) : rowPV (σ.ext (A ++ gsS out) rm ys) 3 (gtS (σ.store.length + A.length) out at') = .isl ((out.drop at').map sdPV) .ro := by
  cases out with
  | nil => simp [gtS, rowPV]
  | cons z zs =>
    have hg : (σ.ext (A ++ gsS (z :: zs)) rm ys).store[σ.store.length + A.length + zs.length]? = some (some (rowC ((z :: zs).map sdPV))) := by
      rw [Nat.add_assoc, Sg.get_ext]; exact gsS_get
    have hl := row3_len (z :: zs)
    simp only [List.length_cons] at h hl
    unfold gtS
    simp only
    split
    · rename_i h0
      subst h0
      unfold rowPV
      simp only [hg]
      rw [if_pos ⟨by omega, trivial⟩, show zs.length + 1 = (z :: zs).length from rfl, row3_chunk, List.drop_zero]
    · split
      · rename_i h1
        rw [List.drop_eq_nil_of_le (by simp; omega)]
        rfl
      · rename_i h0 h1
        unfold rowPV
        simp only [hg]
        rw [if_pos (by omega), row3_drop, show zs.length + 1 - at' = ((z :: zs).drop at').length by simp, row3_chunk]
theorem appT (p : PV) (o : Own) (h : at' ≤ out.length) : appendAny Tryz.prog (σ.ext (A ++ gsS out) rm ys) 41 41 (.isl [p] o) (gtS (σ.store.length + A.length) out at') = appendAny Tryz.prog (σ.ext (A ++ gsS out) rm ys) 41 41 (.isl [p] o) (.isl ((out.drop at').map sdPV) .ro) :=
  appendAny_row Tryz.underlying41 cells55 (row_gt h)
theorem glS_ne {n : Nat} {l : List Stand} (h : l ≠ []) : glS n l = .gsl (n + (l.length - 1)) l.length 3 := by
  cases l with
  | nil => exact absurd rfl h
  | cons a l => simp [glS]
theorem gsS_ne {l : List Stand} (h : l ≠ []) : gsS l = List.replicate (l.length - 1) none ++ [some (rowC (l.map sdPV))] := by
  cases l with
  | nil => exact absurd rfl h
  | cons a l => simp [gsS]
theorem appC (b : Nat) (x : Stand) (h : at' ≤ out.length) (hb : (out.length + 1) * b ≤ 2 ^ 47) : appG 3 b (σ.ext (A ++ gsS out) rm ys) (gcS (σ.store.length + A.length) out at') (sdPV x :: (out.drop at').map sdPV) =
    some (glS (σ.store.length + A.length) (out.take at' ++ x :: out.drop at'), σ.ext (A ++ gsS (out.take at' ++ x :: out.drop at')) rm ys) := by
  have hall : ∀ l : List Stand, (l.map sdPV).all (fun q => (q.cells.length == 3) && q.cells.all PV.scalar) = true := fun l => by
    rw [List.all_eq_true]
    intro q hq
    obtain ⟨y, _, rfl⟩ := List.mem_map.1 hq
    rfl
  have hm : sdPV x :: (out.drop at').map sdPV = (x :: out.drop at').map sdPV := rfl
  have hlen : (out.take at' ++ x :: out.drop at').length = out.length + 1 := by simp; omega
  have hne : out.take at' ++ x :: out.drop at' ≠ [] := by simp
  rw [hm, glS_ne hne, gsS_ne hne, hlen]
  cases out with
  | nil =>
    rw [gcS, appG_nil (hall _) (by simp) (by simpa using hb)]
    simp [gsS, Sg.push_ext, Sg.len_ext]
  | cons z zs =>
    have hg : (σ.ext (A ++ gsS (z :: zs)) rm ys).store[σ.store.length + A.length + zs.length]? = some (some (rowC ((z :: zs).map sdPV))) := by
      rw [Nat.add_assoc, Sg.get_ext]; exact gsS_get
    have hl := row3_len (z :: zs)
    have hlm : at' + (x :: (z :: zs).drop at').length = (z :: zs).length + 1 := by simp only [List.length_cons, List.length_drop]; simp only [List.length_cons] at h; omega
    rw [gcS, appG_cut hg (by simp only [List.length_cons] at h hl; omega) (hall _) (by simp) (by rw [List.length_map, hlm]; exact hb)]
    rw [List.length_map, hlm, row3_take, ← rowC_append, ← List.map_append]
    rw [Nat.add_assoc (Sg.store σ).length, Sg.drop_ext, gsS_set]
    simp only [Sg.push_ext, Sg.len_ext]
    have e : List.replicate (z :: zs).length (none : Option (List PV)) = List.replicate zs.length none ++ [none] := by simp [List.replicate_succ']
    simp only [Nat.add_sub_cancel, e]
    simp [Nat.add_assoc, gsS_len]
end
theorem getEnd {α : Type} {L : List α} {x : α} : (L ++ [x])[L.length]? = some x := by simp
theorem setEnd {α : Type} {L : List α} {x y : α} : (L ++ [x]).set L.length y = L ++ [y] := by simp
theorem elA3 {a b c : PV} : elA 3 [.agg [a, b, c]] 0 0 = some (.agg [a, b, c]) := rfl
attribute [go_sem] elA3
theorem lnS {n : Nat} {out : List Stand} : lenPV Tryz.prog 41 (glS n out) = some (.int .i64 out.length) := by
  cases out with
  | nil => exact lenN_of Tryz.underlying41
  | cons z zs => exact lenG_of Tryz.underlying41 _
theorem iaS {n a : Nat} {out : List Stand} (h : a < out.length) : indexAddrPV Tryz.prog 41 (glS n out) (I a) = some (.ptr (n + (out.length - 1)) (a * 3)) := by
  cases out with
  | nil => simp at h
  | cons z zs =>
    have := iaG_of (P := Tryz.prog) (id := n + zs.length) (es := 3) Tryz.underlying41 Tryz.underlying55 cells55 .i64 (zs.length + 1) (a : Int)
    rw [iaM_nat (by simpa using h)] at this
    simpa [glS] using this
theorem ldRow {σ : Sg} {A : List (Option (List PV))} {rm : List Nat} {ys : List LState} {out : List Stand} {a : Nat} {y : Stand} (h : out[a]? = some y) : ldA 3 (σ.ext (A ++ gsS out) rm ys) (σ.store.length + A.length + (out.length - 1)) (a * 3) = some (sdPV y) := by
  cases out with
  | nil => simp at h
  | cons z zs =>
    have hg : (σ.ext (A ++ gsS (z :: zs)) rm ys).store[σ.store.length + A.length + ((z :: zs).length - 1)]? = some (some (rowC ((z :: zs).map sdPV))) := by
      rw [Nat.add_assoc, Sg.get_ext]; exact gsS_get
    have hl := row3_len (z :: zs)
    have hlt := (List.getElem?_eq_some_iff.1 h).1
    rw [ldA_at hg, if_pos (by omega), row3_ld h]
    rfl
theorem Weak.popEnd {N : Nat} {lo : Nat × Nat} {E : Env} {σ : Sg} {L : List (Option (List PV))} {x : Option (List PV)} {rm : List Nat} {ys : List LState} (h1 : lo.1 ≤ σ.store.length + L.length) (h2 : lo.2 ≤ σ.rooms.length + rm.length) (hcl : CleanSg σ)
    (hc : CleanLs (σ.store.length + L.length) (σ.rooms.length + rm.length) (σ.ys.length + ys.length) L) (hE : CleanEs (σ.store.length + L.length) (σ.rooms.length + rm.length) (σ.ys.length + ys.length) E) : Weak N lo E (σ.ext (L ++ [x]) rm ys) E (σ.ext L rm ys) := by
  have := Weak.cutX (N := N) (lo := lo) (E := E) (σ := σ) (l := L ++ [x]) (rm := rm) (ys := ys) L.length rm.length h1 h2 hcl (by rw [List.take_left]; exact hc) hE
  rw [List.take_left, List.take_length] at this
  exact this
theorem Weak.popRooms {N : Nat} {lo : Nat × Nat} {E : Env} {σ : Sg} {L : List (Option (List PV))} {rm : List Nat} {ys : List LState} (h1 : lo.1 ≤ σ.store.length + L.length) (h2 : lo.2 ≤ σ.rooms.length) (hcl : CleanSg σ)
    (hc : CleanLs (σ.store.length + L.length) (σ.rooms.length + 0) (σ.ys.length + ys.length) L) (hE : CleanEs (σ.store.length + L.length) (σ.rooms.length + 0) (σ.ys.length + ys.length) E) : Weak N lo E (σ.ext L rm ys) E (σ.ext L [] ys) := by
  have := Weak.cutX (N := N) (lo := lo) (E := E) (σ := σ) (l := L) (rm := rm) (ys := ys) L.length 0 h1 (by omega) hcl (by rw [List.take_length]; exact hc) hE
  rw [List.take_length] at this
  exact this
/-- Does the search go on? -/
noncomputable def goesOn (ord : List Int) (out : List Stand) (x : Stand) (at' : Nat) : Bool := match out[at']? with
  | some y => open Classical in decide (Ahd ord y x)
  | none => false
theorem goesOn_true {ord : List Int} {out : List Stand} {x : Stand} {a : Nat} (h : goesOn ord out x a = true) : ∃ y, out[a]? = some y ∧ Ahd ord y x := by
  unfold goesOn at h
  split at h
  · rename_i y e; exact ⟨y, e, by simpa using h⟩
  · cases h
theorem goesOn_false {ord : List Int} {out : List Stand} {x : Stand} {a : Nat} (h : goesOn ord out x a = false) : ∀ y, out[a]? = some y → ¬ Ahd ord y x := by
  intro y e
  unfold goesOn at h
  rw [e] at h
  simpa using h
set_option maxHeartbeats 8000000 in
theorem rTable_pc (Y : YEnv) (σ : Sg) (s : Scale) (g : Night) (hs : s.Ok) (hg : g.Ok) :
    PC Tryz.prog Y 18 [scPV s, ngPV g] σ (.tuple [sds (tableP s g).1, I (tableP s g).2]) (σ) := by
  refine PC_of_W Tryz.func18 rfl (by kernel_rfl) Tryz.ntmps18 (by simp) fun hcl hca => ?_
  refine W_seq fun kz1 kq1 => ?_
  refine W_region [2, 3] fun R hR => ?_   -- r0
  simp only [go_sem]
  refine hR _ _ (kq1 _ _ ?_); clear hR R; try clear kq1 kz1
  try simp only [go_sem]
  refine W_seq fun kz2 kq2 => ?_
  refine W_seq fun kz3 kq3 => ?_
  refine W_region [2, 3, 6] fun R hR => ?_   -- r1
  simp only [go_sem]
  refine GCall_of (rCheckNight_pc Y _ s g hs hg) ?_   -- t13
  simp only [go_sem]
  refine hR _ _ (kq3 _ _ ?_); clear hR R; try clear kq3 kz3
  try simp only [go_sem]
  refine W_seq fun kz4 kq4 => ?_
  refine W_region [2, 3, 6, 15] fun R hR => ?_   -- r2
  simp only [go_sem]
  refine hR _ _ (kq4 _ _ ?_); clear hR R; try clear kq4 kz4
  try simp only [go_sem]
  refine W_cond rfl (fun c1 => ?_) (fun c1 => ?_)
  · -- c1 true
    try simp only [nrm] at c1
    refine W_seq fun kz5 kq5 => ?_
    refine W_region [4, 5] fun R hR => ?_   -- r3
    simp only [go_sem]
    refine hR _ _ (kq5 _ _ ?_); clear hR R; try clear kq5 kz5
    try simp only [go_sem]
    refine W_ret ?_
    simp only [go_sem]
    refine ⟨.inr (by trivial), ?_⟩
    first | (rw [hall]; refine Fin_same hcl rfl (Wk.ro (by simp only [go_sem]) ?_)) | refine Fin_same hcl rfl (Wk.ro (by simp only [go_sem]) ?_)
    try simp only [go_sem]
    all_goals
      simp only [tableP]; rw [if_pos c1]; first | rfl | simp only [go_sem]
  · -- c1 false
    try simp only [nrm] at c1
    have hN := nightV_iff.1 c1
    have hv := Scale.v hN.c
    have hV := known_V (nightV_iff.2 hN)
    have hol := hv.ol
    have q1 := hv.mt
    have q3 := hv.sc
    obtain ⟨N, hNN⟩ : ∃ z : Nat, s.schools = z := ⟨s.schools.toNat, by omega⟩
    have hNi : (s.schools : Int) = (N : Int) := hNN
    refine W_skip (kq2 _ _ ?_)
    refine W_seq fun kz6 kq6 => ?_
    refine W_seq fun kz7 kq7 => ?_
    refine W_region [2, 3, 21] fun R hR => ?_   -- r4
    simp only [go_sem]
    refine GCall_of (rmiss_pc Y _ s g hN) ?_   -- t19
    simp only [go_sem]
    refine hR _ _ (kq7 _ _ ?_); clear hR R; try clear kq7 kz7
    try simp only [go_sem]
    refine W_cond rfl (fun c2 => ?_) (fun c2 => ?_)
    · -- c2 true
      try simp only [nrm] at c2
      have hsn : sealedK s (knownK s g) ≠ [] := fun e => by rw [e] at c2; simp at c2
      refine W_seq fun kz8 kq8 => ?_
      refine W_region [4, 5] fun R hR => ?_   -- r5
      simp only [go_sem]
      refine hR _ _ (kq8 _ _ ?_); clear hR R; try clear kq8 kz8
      try simp only [go_sem]
      refine W_ret ?_
      simp only [go_sem]
      refine ⟨.inr (by trivial), ?_⟩
      first | (rw [hall]; refine Fin_same hcl rfl (Wk.ro (by simp only [go_sem]) ?_)) | refine Fin_same hcl rfl (Wk.ro (by simp only [go_sem]) ?_)
      try simp only [go_sem]
      all_goals
        simp only [tableP]; rw [if_neg (by simp [c1]), if_pos hsn]; first | rfl | simp only [go_sem]
    · -- c2 false
      try simp only [nrm] at c2
      have hse : sealedK s (knownK s g) = [] := by
        first
        | exact List.eq_nil_of_length_eq_zero (by omega)
        | exact List.eq_nil_of_length_eq_zero (by simp at c2; omega)
        | (simpa using c2)
      have hall : tableP s g = (rTab s (knownK s g) g N, 0) := by
        unfold tableP
        rw [if_neg (by simp [c1]), if_neg (by simp [hse]), rTab_all hNN]
      refine W_skip (kq6 _ _ ?_)
      refine W_seq fun kz9 kq9 => ?_
      refine W_region [2, 3, 7] fun R hR => ?_   -- r6
      simp only [go_sem]
      refine hR _ _ (kq9 _ _ ?_); clear hR R; try clear kq9 kz9
      try simp only [go_sem]
      refine W_seq fun kz10 kq10 => ?_
      refine W_seq fun kz11 kq11 => ?_
      refine W_region [2, 3, 7, 8] fun R hR => ?_   -- r7
      simp only [go_sem]
      refine hR _ _ (kq11 _ _ ?_); clear hR R; try clear kq11 kz11
      try simp only [go_sem]
      refine W_block ?_
      refine W_weak (Weak.gnil (t := 7) rfl) ?_
      refine W_weak (Weak.keep [2, 3, 7, 8]) ?_
      simp only [go_sem]
      refine W_loopT (α := Nat × (List Stand)) (fun ⟨i, out⟩ => [(7, glS (σ.store.length + 2) out), (8, I i)]) (fun ⟨i, out⟩ => σ.ext ([some (scCells s), some (ngCells g)] ++ gsS out) []) (fun ⟨i, out⟩ => i ≤ N ∧ out = rTab s (knownK s g) g i) (fun ⟨i, out⟩ => N - i) ((0, [])) rfl (by first | rfl | (simp only [go_sem]; done) | (simp only [go_sem]; rfl)) (⟨Nat.zero_le _, rfl⟩) ?_
      rintro ⟨i, out⟩ ⟨hi, ho⟩
      have hol2 : out.length = i := by rw [ho]; exact rTab_len ..
      refine W_seq fun kz12 kq12 => ?_
      refine W_seq fun kz13 kq13 => ?_
      refine W_region [2, 3, 7, 8, 25] fun R hR => ?_   -- r8
      simp only [go_sem]
      refine hR _ _ (kq13 _ _ ?_); clear hR R; try clear kq13 kz13
      try simp only [go_sem]
      refine W_cond rfl (fun c3 => ?_) (fun c3 => ?_)
      · -- c3 true
        try simp only [nrm] at c3
        have hiN : i < N := by first | omega | (simp at c3; omega)
        refine W_skip (kq12 _ _ ?_)
        refine W_seq fun kz14 kq14 => ?_
        refine W_block ?_
        refine W_seq fun kz15 kq15 => ?_
        refine W_region [2, 3, 7, 8, 9] fun R hR => ?_   -- r10
        simp only [go_sem, getEnd, setEnd]
        refine GCall_of (rStand_pc Y _ s g hN i (by omega) 0 (by omega)) ?_   -- t31
        simp only [go_sem, getEnd, setEnd]
        refine hR _ _ (kq15 _ _ ?_); clear hR R; try clear kq15 kz15
        try simp only [go_sem]
        refine W_seq fun kz16 kq16 => ?_
        refine W_weak (Weak.freezePX (t := 9) (j := (gsS out).length + 2) (cs := sdCells (standK s (knownK s g) g i 0)) (by first | rfl | (simp only [go_sem]; done) | (simp [go_sem]; omega)) (by simp [sdCells])) ?_
        refine W_weak (Weak.keep [2, 3, 7, 8, 9]) ?_
        simp only [go_sem]
        refine W_weak (Weak.eq rfl (show _ = σ.ext (([some (scCells s), some (ngCells g)] ++ gsS out) ++ [none]) [] from by simp [setEnd, scCells, ngCells])) ?_
        refine W_weak (Weak.popEnd (by omega) (by simp) hcl ?_ ?_) ?_
        · exact CleanLs_append (by simp only [go_sem]) (gsS_clean out)
        · simp only [go_sem, gsS_len, List.length_append]
          repeat' (first | exact trivial | exact glS_clean (by omega) | (simp; done) | refine ⟨?_, ?_⟩ | omega)
        simp only [go_sem, List.cons_append, List.nil_append]
        refine W_region [2, 3, 7, 8, 9, 10] fun R hR => ?_   -- r11
        simp only [go_sem]
        refine hR _ _ (kq16 _ _ ?_); clear hR R; try clear kq16 kz16
        try simp only [go_sem]
        refine W_seq fun kz17 kq17 => ?_
        refine W_block ?_
        refine W_loopS (α := Nat) (fun (a : Nat) => [(10, I a)]) (fun (a : Nat) => a ≤ out.length ∧ ∀ y, y ∈ out.take a → Ahd s.order y (standK s (knownK s g) g i 0)) (fun (a : Nat) => out.length - a) (0) rfl (⟨Nat.zero_le _, fun y hy => by simp at hy⟩) ?_
        rintro a ⟨ha, hta⟩
        refine W_seq fun kz18 kq18 => ?_
        refine W_seq fun kz19 kq19 => ?_
        refine W_drawJ [2, 3, 7, 8, 9, 10, 44] [(44, .bool (goesOn s.order out (standK s (knownK s g) g i 0) a))] [0, 1, 2, 3, 4, 5, 6, 7, 8, 9, 10, 11, 12] [] [[], [], [1], [0, 1, 2], [0, 1, 2, 3], [0, 1, 2, 3, 4], [0, 1, 2, 3, 4], [0, 1, 2, 3, 4], [0, 1, 2, 3, 4, 6, 7], [0, 1, 2, 3, 4, 6, 7, 8], [0, 1, 2, 3, 4], [0, 1, 2, 3, 4, 5, 6, 7, 8, 9, 10], [0, 1, 2, 3, 4, 5, 6, 7, 8, 9, 10, 11]] mixed (by kernel_rfl) ?_ fun R hR => ?_   -- r12
        · refine kq19 _ _ ?_
          simp only [go_sem, lnS]
          refine W_cond rfl (fun c4 => ?_) (fun c4 => ?_)
          · -- c4 true
            try simp only [nrm] at c4
            obtain ⟨y2, hy2, hA2⟩ := goesOn_true c4
            have ha2 : a < out.length := (List.getElem?_eq_some_iff.1 hy2).1
            have hta2 : ∀ y, y ∈ out.take (a + 1) → Ahd s.order y (standK s (knownK s g) g i 0) := fun y hy => by
              rw [List.take_add_one, hy2] at hy
              rcases List.mem_append.1 hy with h | h
              · exact hta y h
              · simp at h; subst h; exact hA2
            refine W_skip (kq18 _ _ ?_)
            refine W_block ?_
            refine W_region [2, 3, 7, 8, 9, 10] fun R hR => ?_   -- r13
            simp only [go_sem, lnS, lnS]
            try simp (disch := omega) only [wrapI, wrapU]
            refine hR _ _ ?_; clear hR R
            try simp only [go_sem, lnS, lnS]
            refine ⟨a + 1, ?_, by (try simp only []); omega, ?_⟩
            · first | exact Weak.refl | exact Weak.eq (by first | rfl | (simp only [go_sem]; done) | (simp only [go_sem]; rfl) | (simp [go_sem]; done) | (simp [go_sem]; omega)) (by first | rfl | (simp only [go_sem]; done) | (simp [go_sem]; done))
            · try dsimp only
              exact ⟨by omega, hta2⟩
          · -- c4 false
            try simp only [nrm] at c4
            have hins := insR_at ha hta (goesOn_false c4)
            have h1 := slC (n := σ.store.length + 2) (out := out) (at' := a) ha
            have h2 := slT (n := σ.store.length + 2) (out := out) (at' := a) ha
            have h3 := appT (σ := σ) (A := [some (scCells s), some (ngCells g)]) (rm := []) (ys := []) (out := out) (at' := a) (sdPV (standK s (knownK s g) g i 0)) .exact ha
            have h4 := fun rm => appC (σ := σ) (A := [some (scCells s), some (ngCells g)]) (rm := rm) (ys := []) (out := out) (at' := a) 40 (standK s (knownK s g) g i 0) ha (by omega)
            rw [← hins] at h4
            have hdl : (out.drop a).length ≤ 8 := by simp; omega
            simp only [go_sem, List.length_cons, List.length_nil, List.cons_append, List.nil_append] at h3 h4
            refine W_exit ?_
            simp only [go_sem, lnS, lnS]
            refine kq17 _ _ ?_
            refine W_draw [2, 3, 7, 8] [0, 1, 2, 3, 4, 5, 6, 7, 8, 9, 10] [(0, 9), (1, 9), (2, 9)] [[], [], [0, 1], [], [3], [], [], [5, 6], [3, 4, 5, 6, 7], [0, 1, 2, 3, 4, 5, 6, 7, 8], [0, 1, 2, 3, 4, 5, 6, 7, 8, 9]] mixed (by kernel_rfl) fun R hR => ?_   -- r14
            simp only [go_sem, lnS, lnS, h1, h2, h3, h4, appendAny_gc]
            try simp (disch := first | omega | (simp only [go_sem] <;> omega)) only [wrapI, wrapU, appX_exact, appX_tok]
            try simp only [go_sem, lnS, lnS, h1, h2, h3, h4, appendAny_gc]
            try simp (disch := first | omega | (simp only [go_sem] <;> omega)) only [wrapI, wrapU, appX_exact, appX_tok]
            try simp only [go_sem, lnS, lnS, h1, h2, h3, h4, appendAny_gc]
            try refine And.intro (by repeat' (first | refine And.intro ?_ ?_ | exact GOr_right (fun _ => by simp only [go_sem, lnS, lnS, h1, h2, h3, h4, appendAny_gc]))) ?_
            refine hR _ _ (kq14 _ _ ?_); clear hR R; try clear kq14 kz14
            try simp only [go_sem, lnS, lnS]
            refine W_region [2, 3, 7, 8] fun R hR => ?_   -- r9
            simp only [go_sem, lnS, lnS]
            try simp (disch := omega) only [wrapI, wrapU]
            refine hR _ _ ?_; clear hR R
            try simp only [go_sem, lnS, lnS]
            refine ⟨(i + 1, insR s.order (standK s (knownK s g) g i 0) out), ?_, by (try simp only []); omega, ?_⟩
            · have hil : (insR s.order (standK s (knownK s g) g i 0) out).length = out.length + 1 := (insR_perm _ _ _).length_eq
              refine Weak.trans (Weak.eq rfl (show _ = σ.ext ([some (scCells s), some (ngCells g)] ++ gsS (insR s.order (standK s (knownK s g) g i 0) out)) _ from by simp only [scCells, ngCells, List.cons_append, List.nil_append]; rfl)) ?_
              refine Weak.trans (Weak.popRooms (by omega) (by omega) hcl ?_ ?_) ?_
              · exact CleanLs_append (by simp only [go_sem]) (gsS_clean _)
              · simp only [go_sem, gsS_len, List.length_append]
                repeat' (first | exact trivial | exact glS_clean (by omega) | (simp; done) | refine ⟨?_, ?_⟩ | omega)
              · exact Weak.refl
            · try dsimp only
              exact ⟨by omega, by rw [ho]; rfl⟩
        · simp only [go_sem, lnS]
          refine GWant_split (fun g1 => ?_) (fun g1 => ?_)
          · try simp only [Bool.not_eq_true', Bool.not_eq_false'] at g1
            have n1 := g1; try simp only [nrm] at n1
            have hal : a < out.length := by first | omega | (simp at g1; omega)
            obtain ⟨y, hy⟩ : ∃ z, out[a]? = some z := ⟨out[a], by simp⟩
            obtain ⟨j, hj, hyj⟩ := rTab_of (show y ∈ rTab s (knownK s g) g i by rw [← ho]; exact List.mem_of_getElem? hy)
            have hia := iaS (n := σ.store.length + 2) hal
            have hld := ldRow (σ := σ) (A := [some (scCells s), some (ngCells g)]) (rm := []) (ys := []) hy
            simp only [go_sem, List.length_cons, List.length_nil, List.cons_append, List.nil_append] at hld
            simp only [go_sem, lnS, hia, hld, g1]
            refine GCall_of (rAhead_pc Y _ s y (standK s (knownK s g) g i 0) (by rw [hyj]; exact cmp_ok hV ⟨by omega, by omega⟩ ⟨by omega, by omega⟩ (by omega) (by omega)) (by omega)) ?_   -- t43
            simp only [go_sem, lnS, hia, hld, g1]
            try refine And.intro (by repeat' (first | refine And.intro ?_ ?_ | exact GOr_right (fun _ => by simp only [go_sem, lnS, hia, hld]))) ?_
            refine hR _ ?_
            all_goals try simp only [go_sem, lnS, hia, hld]
            all_goals
              first | rfl | (simp only [goesOn, hy]; congr 1; done) | (simp only [goesOn, hy]; rfl) | (simp only [goesOn, hyn]; done) | (simp [goesOn, hyn]; done) | (simp [goesOn, hy]; done)
          · try simp only [Bool.not_eq_true', Bool.not_eq_false'] at g1
            have n1 := g1; try simp only [nrm] at n1
            have hyn : out[a]? = none := List.getElem?_eq_none (by first | omega | (simp at g1; omega))
            simp only [go_sem, lnS, g1]
            try refine And.intro (by repeat' (first | refine And.intro ?_ ?_ | exact GOr_right (fun _ => by simp only [go_sem, lnS]))) ?_
            refine hR _ ?_
            all_goals try simp only [go_sem, lnS]
            all_goals
              first | rfl | (simp only [goesOn, hy]; congr 1; done) | (simp only [goesOn, hy]; rfl) | (simp only [goesOn, hyn]; done) | (simp [goesOn, hyn]; done) | (simp [goesOn, hy]; done)
      · -- c3 false
        try simp only [nrm] at c3
        have hie : N = i := by first | omega | (simp at c3; omega)
        subst hie
        rw [← ho] at hall
        refine W_exit ?_
        simp only [go_sem]
        refine kq10 _ _ ?_
        refine W_seq fun kz20 kq20 => ?_
        have hne3 : out ≠ [] := fun e => by rw [e] at hol2; simp at hol2; omega
        refine W_weak (Weak.freezeS (t := 7) (A := [some (scCells s), some (ngCells g)]) (out := out) rfl hne3) ?_
        refine W_weak (Weak.keep [7]) ?_
        simp only [go_sem]
        refine W_region [4, 5] fun R hR => ?_   -- r15
        simp only [go_sem]
        refine hR _ _ (kq20 _ _ ?_); clear hR R; try clear kq20 kz20
        try simp only [go_sem]
        refine W_ret ?_
        simp only [go_sem]
        refine ⟨.inr (by trivial), ?_⟩
        first | (rw [hall]; refine Fin_same hcl rfl (Wk.ro (by simp only [go_sem]) ?_)) | refine Fin_same hcl rfl (Wk.ro (by simp only [go_sem]) ?_)
        try simp only [go_sem]
        all_goals
          first | rfl | (simp only [go_sem]; done)
end Go.Proofs.YtgelnjmddabgpaaGreat
namespace Go.Proofs.YtgelnjmddabgpaaGreat
open Go Go.RowKit
set_option maxRecDepth 100000
def insI (x : Int) : List Int → List Int
  | [] => [x]
  | y :: l => if x ≤ y then x :: y :: l else y :: insI x l
def isortI : List Int → List Int
  | [] => []
  | x :: l => insI x (isortI l)
theorem sorted_sortI (l : List Int) : (sortI l).Pairwise (· ≤ ·) := by
  have h := List.pairwise_mergeSort (le := fun (a b : Int) => decide (a ≤ b)) (by intro a b c h1 h2; simp at *; omega) (by intro a b; simp; omega) l
  exact h.imp fun h => by simpa using h
theorem perm_sortI (l : List Int) : (sortI l).Perm l := List.mergeSort_perm l _
theorem insI_perm (x : Int) : ∀ l : List Int, (insI x l).Perm (x :: l) := by
  intro l
  induction l with
  | nil => exact .refl _
  | cons y l ih =>
    simp only [insI]
    split
    · exact .refl _
    · exact (ih.cons y).trans (.swap x y l)
theorem insI_sorted (x : Int) : ∀ {l : List Int}, l.Pairwise (· ≤ ·) → (insI x l).Pairwise (· ≤ ·) := by
  intro l
  induction l with
  | nil => intro _; simp [insI]
  | cons y l ih =>
    intro h
    obtain ⟨h1, h2⟩ := List.pairwise_cons.1 h
    simp only [insI]
    split
    · rename_i hxy
      exact List.pairwise_cons.2 ⟨fun z hz => by rcases List.mem_cons.1 hz with rfl | hz; exact hxy; exact Int.le_trans hxy (h1 z hz), h⟩
    · rename_i hxy
      refine List.pairwise_cons.2 ⟨fun z hz => ?_, ih h2⟩
      rcases List.mem_cons.1 ((insI_perm x l).mem_iff.1 hz) with rfl | hz
      · omega
      · exact h1 z hz
theorem isortI_perm : ∀ l : List Int, (isortI l).Perm l := by
  intro l
  induction l with
  | nil => exact .refl _
  | cons x l ih => exact (insI_perm x _).trans (ih.cons x)
theorem isortI_sorted : ∀ l : List Int, (isortI l).Pairwise (· ≤ ·) := by
  intro l
  induction l with
  | nil => exact .nil
  | cons x l ih => exact insI_sorted x ih
theorem sorted_unique : ∀ {l m : List Int}, l.Perm m → l.Pairwise (· ≤ ·) → m.Pairwise (· ≤ ·) → l = m := by
  intro l
  induction l with
  | nil => intro m h _ _; exact h.nil_eq
  | cons x l ih =>
    intro m h h1 h2
    obtain ⟨a1, a2⟩ := List.pairwise_cons.1 h1
    cases m with
    | nil => exact absurd h.length_eq (by simp)
    | cons y m =>
      obtain ⟨b1, b2⟩ := List.pairwise_cons.1 h2
      have e : x = y := by
        have hx : x ∈ y :: m := h.mem_iff.1 (by simp)
        have hy : y ∈ x :: l := h.mem_iff.2 (by simp)
        rcases List.mem_cons.1 hx with e | hx
        · exact e
        · rcases List.mem_cons.1 hy with e | hy
          · exact e.symm
          · have := b1 x hx; have := a1 y hy; omega
      subst e
      rw [ih ((List.perm_cons x).1 h) a2 b2]
theorem sortI_eq : sortI = isortI := by
  funext l
  exact sorted_unique ((perm_sortI l).trans (isortI_perm l).symm) (sorted_sortI l) (isortI_sorted l)
def exScale : Scale := ⟨3, 2, 3, 1, 50, 100, [1, 0]⟩
def exNight : Night := ⟨[⟨0, 0, [100, 90, 80], 633⟩, ⟨0, 1, [90, 100, 80], 655⟩, ⟨0, 2, [95, 95, 95], 707⟩, ⟨1, 0, [80, 90, 100], 774⟩, ⟨1, 1, [100, 70, 90], 736⟩], [(1, 2)], [(2, 5)]⟩
def exBefore : Night := ⟨[⟨0, 0, [100, 90, 80], 633⟩, ⟨0, 1, [90, 100, 80], 655⟩, ⟨0, 2, [95, 95, 95], 707⟩, ⟨1, 0, [80, 90, 100], 774⟩], [(1, 2)], [(2, 5)]⟩
theorem exTable : tableP exScale exNight = ([⟨0, 385, [195, 190]⟩, ⟨2, 365, [175, 195]⟩, ⟨1, 365, [195, 170]⟩], 0) := by
  simp only [tableP, tblP, sdUp, standK, pointsL, pointsK, sortI_eq]
  decide +kernel
theorem exTotals : totalsA exScale exBefore = ([(340, 385), (355, 390), (345, 370)], 0) := by
  simp only [totalsA, standK, pointsL, pointsK, sortI_eq]
  decide +kernel
theorem exPlace : placeA exScale exBefore 0 = ((1, 3), 0) := by
  simp only [placeA, placeK, standK, pointsL, pointsK, sortI_eq]
  decide +kernel
theorem exScale_ok : exScale.Ok := ⟨by decide⟩
theorem exNight_ok : exNight.Ok := ⟨by decide, by decide, by decide, by decide⟩
theorem exBefore_ok : exBefore.Ok := ⟨by decide, by decide, by decide, by decide⟩
set_option maxHeartbeats 2000000 in
theorem EqInts_pc (Y : YEnv) (σ : Sg) (xs ys : List Int) (o o2 : Own) (hx : xs.length < 2 ^ 50) :
    PC Tryz.prog Y 48 [.isl (xs.map I) o, .isl (ys.map I) o2] σ (.bool (decide (xs = ys))) (σ) := by
  refine PC_of_W Tryz.func48 rfl (by kernel_rfl) Tryz.ntmps48 (by simp) fun hcl hca => ?_
  refine W_seq fun kz1 kq1 => ?_
  refine W_region [0, 1] fun R hR => ?_   -- r0
  simp only [go_sem]
  refine hR _ _ (kq1 _ _ ?_); clear hR R; try clear kq1 kz1
  try simp only [go_sem]
  refine W_seq fun kz2 kq2 => ?_
  refine W_seq fun kz3 kq3 => ?_
  refine W_region [0, 1, 10] fun R hR => ?_   -- r1
  simp only [go_sem]
  refine hR _ _ (kq3 _ _ ?_); clear hR R; try clear kq3 kz3
  try simp only [go_sem]
  refine W_cond rfl (fun c1 => ?_) (fun c1 => ?_)
  · -- c1 true
    try simp only [nrm] at c1
    refine W_seq fun kz4 kq4 => ?_
    refine W_region [4] fun R hR => ?_   -- r2
    simp only [go_sem]
    refine hR _ _ (kq4 _ _ ?_); clear hR R; try clear kq4 kz4
    try simp only [go_sem]
    refine W_ret ?_
    simp only [go_sem]
    refine ⟨.inr (by trivial), ?_⟩
    first | refine Fin_same hcl rfl (Wk_eq ?_ (by simp only [go_sem])) | refine Fin_self hcl rfl (Wk_eq ?_ (by simp only [go_sem]))
    try simp only [go_sem]
    all_goals
      simp; intro h; subst h; exact c1 rfl
  · -- c1 false
    try simp only [nrm] at c1
    refine W_skip (kq2 _ _ ?_)
    refine W_seq fun kz5 kq5 => ?_
    refine W_seq fun kz6 kq6 => ?_
    refine W_region [0, 1, 5] fun R hR => ?_   -- r3
    simp only [go_sem]
    refine hR _ _ (kq6 _ _ ?_); clear hR R; try clear kq6 kz6
    try simp only [go_sem]
    refine W_block ?_
    refine W_loopS (α := Nat) (fun (i : Nat) => [(5, I i)]) (fun (i : Nat) => i ≤ xs.length ∧ xs.take i = ys.take i) (fun (i : Nat) => xs.length - i) (0) rfl (⟨Nat.zero_le _, rfl⟩) ?_
    rintro i ⟨hi, ht⟩
    refine W_seq fun kz7 kq7 => ?_
    refine W_seq fun kz8 kq8 => ?_
    refine W_region [0, 1, 5, 14] fun R hR => ?_   -- r4
    simp only [go_sem]
    refine hR _ _ (kq8 _ _ ?_); clear hR R; try clear kq8 kz8
    try simp only [go_sem]
    refine W_cond rfl (fun c2 => ?_) (fun c2 => ?_)
    · -- c2 true
      try simp only [nrm] at c2
      have hi' : i < xs.length := by first | assumption | omega
      obtain ⟨x, hxi⟩ : ∃ x, xs[i]? = some x := ⟨xs[i], by simp⟩
      obtain ⟨y, hyi⟩ : ∃ y, ys[i]? = some y := ⟨ys[i]'(by omega), by simp⟩
      refine W_skip (kq7 _ _ ?_)
      refine W_seq fun kz9 kq9 => ?_
      refine W_block ?_
      refine W_seq fun kz10 kq10 => ?_
      refine W_draw [0, 1, 5, 25] [0, 1, 2, 3, 4, 5, 6, 7, 8] [] [[], [], [0, 1], [0, 1, 2], [], [], [4, 5], [4, 5, 6], [0, 1, 2, 3, 4, 5, 6, 7]] mixed (by kernel_rfl) fun R hR => ?_   -- r6
      simp only [go_sem, hxi, hyi]
      try refine And.intro (by repeat' (first | refine And.intro ?_ ?_ | exact GOr_right (fun _ => by simp only [go_sem, hxi, hyi]))) ?_
      refine hR _ _ (kq10 _ _ ?_); clear hR R; try clear kq10 kz10
      try simp only [go_sem, hxi, hyi]
      refine W_cond rfl (fun c3 => ?_) (fun c3 => ?_)
      · -- c3 true
        try simp only [nrm] at c3
        refine W_seq fun kz11 kq11 => ?_
        refine W_region [4] fun R hR => ?_   -- r7
        simp only [go_sem, hxi, hyi]
        refine hR _ _ (kq11 _ _ ?_); clear hR R; try clear kq11 kz11
        try simp only [go_sem, hxi, hyi]
        refine W_ret ?_
        simp only [go_sem, hxi, hyi]
        refine ⟨.inr (by trivial), ?_⟩
        first | refine Fin_same hcl rfl (Wk_eq ?_ (by simp only [go_sem])) | refine Fin_self hcl rfl (Wk_eq ?_ (by simp only [go_sem]))
        try simp only [go_sem]
        all_goals
          simp; intro h; subst h; rw [hxi] at hyi; injection hyi with h; exact c3 h
      · -- c3 false
        try simp only [nrm] at c3
        refine W_skip (kq9 _ _ ?_)
        refine W_region [0, 1, 5] fun R hR => ?_   -- r5
        simp only [go_sem, hxi, hyi]
        try simp (disch := omega) only [wrapI, wrapU]
        refine hR _ _ ?_; clear hR R
        try simp only [go_sem, hxi, hyi]
        refine ⟨i + 1, ?_, by (try simp only []); omega, ?_⟩
        · first | exact Weak.refl | exact Weak.eq (by first | rfl | (simp only [go_sem]; done) | (simp only [go_sem]; rfl) | (simp [go_sem]; done) | (simp [go_sem]; omega)) (by first | rfl | (simp only [go_sem]; done) | (simp [go_sem]; done))
        · try dsimp only
          refine ⟨hi', ?_⟩
          rw [List.take_add_one, List.take_add_one, ht, hxi, hyi, c3]
    · -- c2 false
      try simp only [nrm] at c2
      have hie : i = xs.length := by omega
      subst hie
      have hxy : xs = ys := by rw [List.take_length] at ht; rw [c1, List.take_length] at ht; exact ht
      refine W_exit ?_
      simp only [go_sem]
      refine kq5 _ _ ?_
      refine W_seq fun kz12 kq12 => ?_
      refine W_region [4] fun R hR => ?_   -- r8
      simp only [go_sem]
      refine hR _ _ (kq12 _ _ ?_); clear hR R; try clear kq12 kz12
      try simp only [go_sem]
      refine W_ret ?_
      simp only [go_sem]
      refine ⟨.inr (by trivial), ?_⟩
      first | refine Fin_same hcl rfl (Wk_eq ?_ (by simp only [go_sem])) | refine Fin_self hcl rfl (Wk_eq ?_ (by simp only [go_sem]))
      try simp only [go_sem]
      all_goals
        simp [hxy]
theorem eqSp {a b c d : Int} : eqPV Tryz.prog 63 (.agg [.int .i64 a, .int .i64 b]) (.agg [.int .i64 c, .int .i64 d]) = some (decide ((a, b) = (c, d))) := by
  rw [eqs63]
  refine congrArg some ?_
  rw [Bool.eq_iff_iff]
  simp
attribute [go_sem high] eqSp
set_option maxHeartbeats 2000000 in
theorem EqSpans_pc (Y : YEnv) (σ : Sg) (xs ys : List (Int × Int)) (o o2 : Own) (hx : xs.length < 2 ^ 50) :
    PC Tryz.prog Y 32 [.isl (xs.map stPV) o, .isl (ys.map stPV) o2] σ (.bool (decide (xs = ys))) (σ) := by
  refine PC_of_W Tryz.func32 rfl (by kernel_rfl) Tryz.ntmps32 (by simp) fun hcl hca => ?_
  refine W_seq fun kz1 kq1 => ?_
  refine W_region [0, 1] fun R hR => ?_   -- r0
  simp only [go_sem]
  refine hR _ _ (kq1 _ _ ?_); clear hR R; try clear kq1 kz1
  try simp only [go_sem]
  refine W_seq fun kz2 kq2 => ?_
  refine W_seq fun kz3 kq3 => ?_
  refine W_region [0, 1, 10] fun R hR => ?_   -- r1
  simp only [go_sem]
  refine hR _ _ (kq3 _ _ ?_); clear hR R; try clear kq3 kz3
  try simp only [go_sem]
  refine W_cond rfl (fun c1 => ?_) (fun c1 => ?_)
  · -- c1 true
    try simp only [nrm] at c1
    refine W_seq fun kz4 kq4 => ?_
    refine W_region [4] fun R hR => ?_   -- r2
    simp only [go_sem]
    refine hR _ _ (kq4 _ _ ?_); clear hR R; try clear kq4 kz4
    try simp only [go_sem]
    refine W_ret ?_
    simp only [go_sem]
    refine ⟨.inr (by trivial), ?_⟩
    first | refine Fin_same hcl rfl (Wk_eq ?_ (by simp only [go_sem])) | refine Fin_self hcl rfl (Wk_eq ?_ (by simp only [go_sem]))
    try simp only [go_sem]
    all_goals
      simp; intro h; subst h; exact c1 rfl
  · -- c1 false
    try simp only [nrm] at c1
    refine W_skip (kq2 _ _ ?_)
    refine W_seq fun kz5 kq5 => ?_
    refine W_seq fun kz6 kq6 => ?_
    refine W_region [0, 1, 5] fun R hR => ?_   -- r3
    simp only [go_sem]
    refine hR _ _ (kq6 _ _ ?_); clear hR R; try clear kq6 kz6
    try simp only [go_sem]
    refine W_block ?_
    refine W_loopS (α := Nat) (fun (i : Nat) => [(5, I i)]) (fun (i : Nat) => i ≤ xs.length ∧ xs.take i = ys.take i) (fun (i : Nat) => xs.length - i) (0) rfl (⟨Nat.zero_le _, rfl⟩) ?_
    rintro i ⟨hi, ht⟩
    refine W_seq fun kz7 kq7 => ?_
    refine W_seq fun kz8 kq8 => ?_
    refine W_region [0, 1, 5, 14] fun R hR => ?_   -- r4
    simp only [go_sem]
    refine hR _ _ (kq8 _ _ ?_); clear hR R; try clear kq8 kz8
    try simp only [go_sem]
    refine W_cond rfl (fun c2 => ?_) (fun c2 => ?_)
    · -- c2 true
      try simp only [nrm] at c2
      have hi' : i < xs.length := by first | assumption | omega
      obtain ⟨x, hxi⟩ : ∃ x, xs[i]? = some x := ⟨xs[i], by simp⟩
      obtain ⟨y, hyi⟩ : ∃ y, ys[i]? = some y := ⟨ys[i]'(by omega), by simp⟩
      refine W_skip (kq7 _ _ ?_)
      refine W_seq fun kz9 kq9 => ?_
      refine W_block ?_
      refine W_seq fun kz10 kq10 => ?_
      refine W_draw [0, 1, 5, 25] [0, 1, 2, 3, 4, 5, 6, 7, 8] [] [[], [], [0, 1], [0, 1, 2], [], [], [4, 5], [4, 5, 6], [0, 1, 2, 3, 4, 5, 6, 7]] mixed (by kernel_rfl) fun R hR => ?_   -- r6
      simp only [go_sem, hxi, hyi]
      try refine And.intro (by repeat' (first | refine And.intro ?_ ?_ | exact GOr_right (fun _ => by simp only [go_sem, hxi, hyi]))) ?_
      refine hR _ _ (kq10 _ _ ?_); clear hR R; try clear kq10 kz10
      try simp only [go_sem, hxi, hyi]
      refine W_cond rfl (fun c3 => ?_) (fun c3 => ?_)
      · -- c3 true
        try simp only [nrm] at c3
        refine W_seq fun kz11 kq11 => ?_
        refine W_region [4] fun R hR => ?_   -- r7
        simp only [go_sem, hxi, hyi]
        refine hR _ _ (kq11 _ _ ?_); clear hR R; try clear kq11 kz11
        try simp only [go_sem, hxi, hyi]
        refine W_ret ?_
        simp only [go_sem, hxi, hyi]
        refine ⟨.inr (by trivial), ?_⟩
        first | refine Fin_same hcl rfl (Wk_eq ?_ (by simp only [go_sem])) | refine Fin_self hcl rfl (Wk_eq ?_ (by simp only [go_sem]))
        try simp only [go_sem]
        all_goals
          simp; intro h; subst h; rw [hxi] at hyi; injection hyi with h; subst h; simp at c3
      · -- c3 false
        try simp only [nrm] at c3
        refine W_skip (kq9 _ _ ?_)
        refine W_region [0, 1, 5] fun R hR => ?_   -- r5
        simp only [go_sem, hxi, hyi]
        try simp (disch := omega) only [wrapI, wrapU]
        refine hR _ _ ?_; clear hR R
        try simp only [go_sem, hxi, hyi]
        refine ⟨i + 1, ?_, by (try simp only []); omega, ?_⟩
        · first | exact Weak.refl | exact Weak.eq (by first | rfl | (simp only [go_sem]; done) | (simp only [go_sem]; rfl) | (simp [go_sem]; done) | (simp [go_sem]; omega)) (by first | rfl | (simp only [go_sem]; done) | (simp [go_sem]; done))
        · try dsimp only
          refine ⟨hi', ?_⟩
          rw [List.take_add_one, List.take_add_one, ht, hxi, hyi, show x = y by obtain ⟨a, b⟩ := x; obtain ⟨c, d⟩ := y; simpa using c3]
    · -- c2 false
      try simp only [nrm] at c2
      have hie : i = xs.length := by omega
      subst hie
      have hxy : xs = ys := by rw [List.take_length] at ht; rw [c1, List.take_length] at ht; exact ht
      refine W_exit ?_
      simp only [go_sem]
      refine kq5 _ _ ?_
      refine W_seq fun kz12 kq12 => ?_
      refine W_region [4] fun R hR => ?_   -- r8
      simp only [go_sem]
      refine hR _ _ (kq12 _ _ ?_); clear hR R; try clear kq12 kz12
      try simp only [go_sem]
      refine W_ret ?_
      simp only [go_sem]
      refine ⟨.inr (by trivial), ?_⟩
      first | refine Fin_same hcl rfl (Wk_eq ?_ (by simp only [go_sem])) | refine Fin_self hcl rfl (Wk_eq ?_ (by simp only [go_sem]))
      try simp only [go_sem]
      all_goals
        simp [hxy]
set_option maxHeartbeats 2000000 in
theorem EqTables_pc (Y : YEnv) (σ : Sg) (xs ys : List Stand) (o o2 : Own) (hx : xs.length < 2 ^ 50) (hy : ∀ x, x ∈ xs → x.points.length < 2 ^ 40) :
    PC Tryz.prog Y 19 [.isl (xs.map sdPV) o, .isl (ys.map sdPV) o2] σ (.bool (decide (xs = ys))) (σ) := by
  refine PC_of_W Tryz.func19 rfl (by kernel_rfl) Tryz.ntmps19 (by simp) fun hcl hca => ?_
  refine W_seq fun kz1 kq1 => ?_
  refine W_region [0, 1] fun R hR => ?_   -- r0
  simp only [go_sem]
  refine hR _ _ (kq1 _ _ ?_); clear hR R; try clear kq1 kz1
  try simp only [go_sem]
  refine W_seq fun kz2 kq2 => ?_
  refine W_seq fun kz3 kq3 => ?_
  refine W_region [0, 1, 10] fun R hR => ?_   -- r1
  simp only [go_sem]
  refine hR _ _ (kq3 _ _ ?_); clear hR R; try clear kq3 kz3
  try simp only [go_sem]
  refine W_cond rfl (fun c1 => ?_) (fun c1 => ?_)
  · -- c1 true
    try simp only [nrm] at c1
    refine W_seq fun kz4 kq4 => ?_
    refine W_region [4] fun R hR => ?_   -- r2
    simp only [go_sem]
    refine hR _ _ (kq4 _ _ ?_); clear hR R; try clear kq4 kz4
    try simp only [go_sem]
    refine W_ret ?_
    simp only [go_sem]
    refine ⟨.inr (by trivial), ?_⟩
    first | refine Fin_same hcl rfl (Wk_eq ?_ (by simp only [go_sem])) | refine Fin_self hcl rfl (Wk_eq ?_ (by simp only [go_sem]))
    try simp only [go_sem]
    all_goals
      simp; intro h; subst h; exact c1 rfl
  · -- c1 false
    try simp only [nrm] at c1
    refine W_skip (kq2 _ _ ?_)
    refine W_seq fun kz5 kq5 => ?_
    refine W_seq fun kz6 kq6 => ?_
    refine W_region [0, 1, 5] fun R hR => ?_   -- r3
    simp only [go_sem]
    refine hR _ _ (kq6 _ _ ?_); clear hR R; try clear kq6 kz6
    try simp only [go_sem]
    refine W_block ?_
    refine W_loopS (α := Nat) (fun (i : Nat) => [(5, I i)]) (fun (i : Nat) => i ≤ xs.length ∧ xs.take i = ys.take i) (fun (i : Nat) => xs.length - i) (0) rfl (⟨Nat.zero_le _, rfl⟩) ?_
    rintro i ⟨hi, ht⟩
    refine W_seq fun kz7 kq7 => ?_
    refine W_seq fun kz8 kq8 => ?_
    refine W_region [0, 1, 5, 14] fun R hR => ?_   -- r4
    simp only [go_sem]
    refine hR _ _ (kq8 _ _ ?_); clear hR R; try clear kq8 kz8
    try simp only [go_sem]
    refine W_cond rfl (fun c2 => ?_) (fun c2 => ?_)
    · -- c2 true
      try simp only [nrm] at c2
      have hi' : i < xs.length := by first | assumption | omega
      obtain ⟨x, hxi⟩ : ∃ x, xs[i]? = some x := ⟨xs[i], by simp⟩
      obtain ⟨y, hyi⟩ : ∃ y, ys[i]? = some y := ⟨ys[i]'(by omega), by simp⟩
      refine W_skip (kq7 _ _ ?_)
      refine W_seq fun kz9 kq9 => ?_
      refine W_block ?_
      refine W_seq fun kz10 kq10 => ?_
      refine W_draw [0, 1, 5, 54] [0, 1, 2, 3, 4, 5, 6, 7, 8, 9, 10, 11, 12, 13, 14, 15, 16, 17, 18, 19, 20, 21, 22, 23, 24, 25, 26, 27, 28, 29, 30, 31, 32, 33, 34, 35, 36, 37] [] [[], [], [0, 1], [0, 1, 2], [0, 1, 2, 3], [], [], [5, 6], [5, 6, 7], [5, 6, 7, 8], [0, 1, 2, 3, 4, 5, 6, 7, 8, 9], [0, 1, 2, 3, 4, 5, 6, 7, 8, 9, 10], [0, 1, 2, 3, 4, 5, 6, 7, 8, 9, 10, 11], [0, 1, 2, 3, 4, 5, 6, 7, 8, 9, 10, 11], [0, 1, 2, 3, 4, 5, 6, 7, 8, 9, 10, 11, 12, 13], [0, 1, 2, 3, 4, 5, 6, 7, 8, 9, 10, 11, 12, 13, 14], [0, 1, 2, 3, 4, 5, 6, 7, 8, 9, 10, 11, 12, 13, 14, 15], [0, 1, 2, 3, 4, 5, 6, 7, 8, 9, 10, 11], [0, 1, 2, 3, 4, 5, 6, 7, 8, 9, 10, 11], [0, 1, 2, 3, 4, 5, 6, 7, 8, 9, 10, 11, 17, 18], [0, 1, 2, 3, 4, 5, 6, 7, 8, 9, 10, 11, 17, 18, 19], [0, 1, 2, 3, 4, 5, 6, 7, 8, 9, 10, 11, 17, 18, 19, 20], [0, 1, 2, 3, 4, 5, 6, 7, 8, 9, 10, 11, 12, 13, 14, 15, 16, 17, 18, 19, 20, 21], [0, 1, 2, 3, 4, 5, 6, 7, 8, 9, 10, 11, 12, 13, 14, 15, 16, 17, 18, 19, 20, 21, 22], [0, 1, 2, 3, 4, 5, 6, 7, 8, 9, 10, 11, 12, 13, 14, 15, 16, 17, 18, 19, 20, 21, 22, 23], [0, 1, 2, 3, 4, 5, 6, 7, 8, 9, 10, 11, 12, 13, 14, 15, 16, 17, 18, 19, 20, 21, 22, 23, 24], [0, 1, 2, 3, 4, 5, 6, 7, 8, 9, 10, 11, 12, 13, 14, 15, 16, 17, 18, 19, 20, 21, 22, 23, 24], [0, 1, 2, 3, 4, 5, 6, 7, 8, 9, 10, 11, 12, 13, 14, 15, 16, 17, 18, 19, 20, 21, 22, 23, 24, 25, 26], [0, 1, 2, 3, 4, 5, 6, 7, 8, 9, 10, 11, 12, 13, 14, 15, 16, 17, 18, 19, 20, 21, 22, 23, 24, 25, 26, 27], [0, 1, 2, 3, 4, 5, 6, 7, 8, 9, 10, 11, 12, 13, 14, 15, 16, 17, 18, 19, 20, 21, 22, 23, 24, 25, 26, 27, 28], [0, 1, 2, 3, 4, 5, 6, 7, 8, 9, 10, 11, 12, 13, 14, 15, 16, 17, 18, 19, 20, 21, 22, 23, 24], [0, 1, 2, 3, 4, 5, 6, 7, 8, 9, 10, 11, 12, 13, 14, 15, 16, 17, 18, 19, 20, 21, 22, 23, 24], [0, 1, 2, 3, 4, 5, 6, 7, 8, 9, 10, 11, 12, 13, 14, 15, 16, 17, 18, 19, 20, 21, 22, 23, 24, 30, 31], [0, 1, 2, 3, 4, 5, 6, 7, 8, 9, 10, 11, 12, 13, 14, 15, 16, 17, 18, 19, 20, 21, 22, 23, 24, 30, 31, 32], [0, 1, 2, 3, 4, 5, 6, 7, 8, 9, 10, 11, 12, 13, 14, 15, 16, 17, 18, 19, 20, 21, 22, 23, 24, 30, 31, 32, 33], [0, 1, 2, 3, 4, 5, 6, 7, 8, 9, 10, 11, 12, 13, 14, 15, 16, 17, 18, 19, 20, 21, 22, 23, 24, 25, 26, 27, 28, 29, 30, 31, 32, 33, 34], [0, 1, 2, 3, 4, 5, 6, 7, 8, 9, 10, 11, 12, 13, 14, 15, 16, 17, 18, 19, 20, 21, 22, 23, 24, 25, 26, 27, 28, 29, 30, 31, 32, 33, 34, 35], [0, 1, 2, 3, 4, 5, 6, 7, 8, 9, 10, 11, 12, 13, 14, 15, 16, 17, 18, 19, 20, 21, 22, 23, 24, 25, 26, 27, 28, 29, 30, 31, 32, 33, 34, 35, 36]] mixed (by kernel_rfl) fun R hR => ?_   -- r6
      simp only [go_sem, hxi, hyi]
      refine GWant_split (fun g1 => ?_) (fun g1 => ?_)
      · try simp only [Bool.not_eq_true', Bool.not_eq_false'] at g1
        have n1 := g1; try simp only [nrm] at n1
        simp only [go_sem, hxi, hyi, g1]
        refine GWant_split (fun g2 => ?_) (fun g2 => ?_)
        · try simp only [Bool.not_eq_true', Bool.not_eq_false'] at g2
          have n2 := g2; try simp only [nrm] at n2
          simp only [go_sem, hxi, hyi, g1, g2]
          refine GCall_of (EqInts_pc Y _ x.points y.points .ro .ro (by have := hy x (List.mem_of_getElem? hxi); omega)) ?_   -- t52
          simp only [go_sem, hxi, hyi, g1, g2]
          try refine And.intro (by repeat' (first | refine And.intro ?_ ?_ | exact GOr_right (fun _ => by simp only [go_sem, hxi, hyi]))) ?_
          refine hR _ _ (kq10 _ _ ?_); clear hR R; try clear kq10 kz10
          try simp only [go_sem, hxi, hyi]
          refine W_cond rfl (fun c3 => ?_) (fun c3 => ?_)
          · -- c3 true
            try simp only [nrm] at c3
            refine W_seq fun kz11 kq11 => ?_
            refine W_region [4] fun R hR => ?_   -- r7
            simp only [go_sem, hxi, hyi]
            refine hR _ _ (kq11 _ _ ?_); clear hR R; try clear kq11 kz11
            try simp only [go_sem, hxi, hyi]
            refine W_ret ?_
            simp only [go_sem, hxi, hyi]
            refine ⟨.inr (by trivial), ?_⟩
            first | refine Fin_same hcl rfl (Wk_eq ?_ (by simp only [go_sem])) | refine Fin_self hcl rfl (Wk_eq ?_ (by simp only [go_sem]))
            try simp only [go_sem]
            all_goals
              simp; intro h; subst h; rw [hxi] at hyi; injection hyi with h; subst h; simp_all
          · -- c3 false
            try simp only [nrm] at c3
            refine W_skip (kq9 _ _ ?_)
            refine W_region [0, 1, 5] fun R hR => ?_   -- r5
            simp only [go_sem, hxi, hyi]
            try simp (disch := omega) only [wrapI, wrapU]
            refine hR _ _ ?_; clear hR R
            try simp only [go_sem, hxi, hyi]
            refine ⟨i + 1, ?_, by (try simp only []); omega, ?_⟩
            · first | exact Weak.refl | exact Weak.eq (by first | rfl | (simp only [go_sem]; done) | (simp only [go_sem]; rfl) | (simp [go_sem]; done) | (simp [go_sem]; omega)) (by first | rfl | (simp only [go_sem]; done) | (simp [go_sem]; done))
            · try dsimp only
              refine ⟨hi', ?_⟩
              rw [List.take_add_one, List.take_add_one, ht, hxi, hyi, show x = y by obtain ⟨a, b, c⟩ := x; obtain ⟨a2, b2, c2⟩ := y; simp_all]
        · try simp only [Bool.not_eq_true', Bool.not_eq_false'] at g2
          have n2 := g2; try simp only [nrm] at n2
          simp only [go_sem, hxi, hyi, g1, g2]
          try refine And.intro (by repeat' (first | refine And.intro ?_ ?_ | exact GOr_right (fun _ => by simp only [go_sem, hxi, hyi]))) ?_
          refine hR _ _ (kq10 _ _ ?_); clear hR R; try clear kq10 kz10
          try simp only [go_sem, hxi, hyi]
          refine W_cond_true rfl ?_
          refine W_seq fun kz12 kq12 => ?_
          refine W_region [4] fun R hR => ?_   -- r7
          simp only [go_sem, hxi, hyi]
          refine hR _ _ (kq12 _ _ ?_); clear hR R; try clear kq12 kz12
          try simp only [go_sem, hxi, hyi]
          refine W_ret ?_
          simp only [go_sem, hxi, hyi]
          refine ⟨.inr (by trivial), ?_⟩
          first | refine Fin_same hcl rfl (Wk_eq ?_ (by simp only [go_sem])) | refine Fin_self hcl rfl (Wk_eq ?_ (by simp only [go_sem]))
          try simp only [go_sem]
          all_goals
            simp; intro h; subst h; rw [hxi] at hyi; injection hyi with h; subst h; simp_all
      · try simp only [Bool.not_eq_true', Bool.not_eq_false'] at g1
        have n1 := g1; try simp only [nrm] at n1
        simp only [go_sem, hxi, hyi, g1]
        try refine And.intro (by repeat' (first | refine And.intro ?_ ?_ | exact GOr_right (fun _ => by simp only [go_sem, hxi, hyi]))) ?_
        refine hR _ _ (kq10 _ _ ?_); clear hR R; try clear kq10 kz10
        try simp only [go_sem, hxi, hyi]
        refine W_cond_true rfl ?_
        refine W_seq fun kz13 kq13 => ?_
        refine W_region [4] fun R hR => ?_   -- r7
        simp only [go_sem, hxi, hyi]
        refine hR _ _ (kq13 _ _ ?_); clear hR R; try clear kq13 kz13
        try simp only [go_sem, hxi, hyi]
        refine W_ret ?_
        simp only [go_sem, hxi, hyi]
        refine ⟨.inr (by trivial), ?_⟩
        first | refine Fin_same hcl rfl (Wk_eq ?_ (by simp only [go_sem])) | refine Fin_self hcl rfl (Wk_eq ?_ (by simp only [go_sem]))
        try simp only [go_sem]
        all_goals
          simp; intro h; subst h; rw [hxi] at hyi; injection hyi with h; subst h; simp_all
    · -- c2 false
      try simp only [nrm] at c2
      have hie : i = xs.length := by omega
      subst hie
      have hxy : xs = ys := by rw [List.take_length] at ht; rw [c1, List.take_length] at ht; exact ht
      refine W_exit ?_
      simp only [go_sem]
      refine kq5 _ _ ?_
      refine W_seq fun kz14 kq14 => ?_
      refine W_region [4] fun R hR => ?_   -- r8
      simp only [go_sem]
      refine hR _ _ (kq14 _ _ ?_); clear hR R; try clear kq14 kz14
      try simp only [go_sem]
      refine W_ret ?_
      simp only [go_sem]
      refine ⟨.inr (by trivial), ?_⟩
      first | refine Fin_same hcl rfl (Wk_eq ?_ (by simp only [go_sem])) | refine Fin_self hcl rfl (Wk_eq ?_ (by simp only [go_sem]))
      try simp only [go_sem]
      all_goals
        simp [hxy]
set_option maxHeartbeats 2000000 in
theorem span_pc (Y : YEnv) (σ : Sg) (a b : Int) :
    PC Tryz.prog Y 36 [I a, I b] σ (.agg [I a, I b]) (σ) := by
  refine PC_of_W Tryz.func36 rfl (by kernel_rfl) Tryz.ntmps36 (by simp) fun hcl hca => ?_
  refine W_seq fun kz1 kq1 => ?_
  refine W_region [0, 1, 4] fun R hR => ?_   -- r0
  simp only [go_sem]
  refine hR _ _ (kq1 _ _ ?_); clear hR R; try clear kq1 kz1
  try simp only [go_sem]
  refine W_seq fun kz2 kq2 => ?_
  refine W_region [4] fun R hR => ?_   -- r1
  simp only [go_sem]
  refine hR _ _ (kq2 _ _ ?_); clear hR R; try clear kq2 kz2
  try simp only [go_sem]
  refine W_ret ?_
  simp only [go_sem]
  refine ⟨.inr (by trivial), ?_⟩
  first | refine Fin_same hcl (by show resPV Tryz.prog _ _ [.cell 4 63] = some _; simp only [resPV, go_sem]; rfl) (Wk_eq ?_ (by simp only [go_sem])) | refine Fin_same hcl rfl (Wk_eq ?_ (by simp only [go_sem]))
  try simp only [go_sem]
  all_goals
    first | rfl | (simp_all; done) | (simp_all; omega)
set_option maxHeartbeats 2000000 in
theorem scale_pc (Y : YEnv) (σ : Sg)  :
    PC Tryz.prog Y 49 [] σ (scPV exScale) (σ) := by
  refine PC_of_W Tryz.func49 rfl (by kernel_rfl) Tryz.ntmps49 (by simp) fun hcl hca => ?_
  refine W_seq fun kz1 kq1 => ?_
  refine W_region [0] fun R hR => ?_   -- r0
  simp only [go_sem]
  refine hR _ _ (kq1 _ _ ?_); clear hR R; try clear kq1 kz1
  try simp only [go_sem]
  refine W_seq fun kz2 kq2 => ?_
  refine W_region [0] fun R hR => ?_   -- r1
  simp only [go_sem]
  refine hR _ _ (kq2 _ _ ?_); clear hR R; try clear kq2 kz2
  try simp only [go_sem]
  refine W_ret ?_
  simp only [go_sem]
  refine ⟨.inr (by trivial), ?_⟩
  refine Fin_same hcl (by show resPV Tryz.prog _ _ [.cell 0 24] = some _; simp only [resPV, go_sem]; rfl) (Wk.ro (by simp only [go_sem]) ?_)
  try simp only [go_sem]
  all_goals
    rfl
set_option maxHeartbeats 2000000 in
theorem night_pc (Y : YEnv) (σ : Sg)  :
    PC Tryz.prog Y 50 [] σ (ngPV exNight) (σ) := by
  refine PC_of_W Tryz.func50 rfl (by kernel_rfl) Tryz.ntmps50 (by simp) fun hcl hca => ?_
  refine W_seq fun kz1 kq1 => ?_
  refine W_region [0] fun R hR => ?_   -- r0
  simp only [go_sem]
  refine hR _ _ (kq1 _ _ ?_); clear hR R; try clear kq1 kz1
  try simp only [go_sem]
  refine W_seq fun kz2 kq2 => ?_
  refine W_region [0] fun R hR => ?_   -- r1
  simp only [go_sem]
  refine hR _ _ (kq2 _ _ ?_); clear hR R; try clear kq2 kz2
  try simp only [go_sem]
  refine W_ret ?_
  simp only [go_sem]
  refine ⟨.inr (by trivial), ?_⟩
  refine Fin_same hcl (by show resPV Tryz.prog _ _ [.cell 0 29] = some _; simp only [resPV, go_sem]; rfl) (Wk.ro (by simp only [go_sem]) ?_)
  try simp only [go_sem]
  all_goals
    rfl
set_option maxHeartbeats 2000000 in
theorem before_pc (Y : YEnv) (σ : Sg)  :
    PC Tryz.prog Y 51 [] σ (ngPV exBefore) (σ) := by
  refine PC_of_W Tryz.func51 rfl (by kernel_rfl) Tryz.ntmps51 (by simp) fun hcl hca => ?_
  refine W_seq fun kz1 kq1 => ?_
  refine W_region [0] fun R hR => ?_   -- r0
  simp only [go_sem]
  refine hR _ _ (kq1 _ _ ?_); clear hR R; try clear kq1 kz1
  try simp only [go_sem]
  refine W_seq fun kz2 kq2 => ?_
  refine W_region [0, 1] fun R hR => ?_   -- r1
  simp only [go_sem]
  refine GCall_of (night_pc Y _) ?_   -- t2
  simp only [go_sem]
  refine hR _ _ (kq2 _ _ ?_); clear hR R; try clear kq2 kz2
  try simp only [go_sem]
  refine W_seq fun kz3 kq3 => ?_
  have hz4 : ((0 : Int) ≤ 4) = True := by decide
  have hb4 : (Int.toNat 4 ≤ exNight.opened.length) = True := by decide
  refine W_region [0, 1] fun R hR => ?_   -- r2
  simp only [go_sem, hz4, hb4]
  refine hR _ _ (kq3 _ _ ?_); clear hR R; try clear kq3 kz3
  try simp only [go_sem]
  refine W_seq fun kz4 kq4 => ?_
  refine W_region [0] fun R hR => ?_   -- r3
  simp only [go_sem]
  refine hR _ _ (kq4 _ _ ?_); clear hR R; try clear kq4 kz4
  try simp only [go_sem]
  refine W_ret ?_
  simp only [go_sem]
  refine ⟨.inr (by trivial), ?_⟩
  refine Fin_same hcl (by show resPV Tryz.prog _ _ [.cell 0 29] = some _; simp only [resPV, go_sem]; rfl) (Wk.ro (by simp only [go_sem]) ?_)
  try simp only [go_sem]
  all_goals
    rfl
end Go.Proofs.YtgelnjmddabgpaaGreat
namespace Go.Proofs.YtgelnjmddabgpaaGreat
open Go Go.RowKit
set_option maxRecDepth 100000
def wideB (s : Scale) (n : Night) : Bool := (n.opened.take 70).any (fun x => decide (20 < (x.marks.length : Int))) || (decide (20 < (s.order.length : Int)) || (decide (70 < (n.opened.length : Int)) || (decide (70 < (n.absent.length : Int)) || decide (20 < (n.fines.length : Int)))))
structure Few (s : Scale) (n : Night) : Prop where
  od : s.order.length ≤ 20
  op : n.opened.length ≤ 70
  ab : n.absent.length ≤ 70
  fi : n.fines.length ≤ 20
  mm : ∀ x, x ∈ n.opened → x.marks.length ≤ 20
theorem wide_not {s : Scale} {n : Night} (h : wideB s n = false) : Few s n := by
  unfold wideB at h
  simp only [Bool.or_eq_false_iff, decide_eq_false_iff_not, List.any_eq_false, decide_eq_true_eq] at h
  obtain ⟨h1, h2, h3, h4, h5⟩ := h
  refine ⟨by omega, by omega, by omega, by omega, fun x hx => ?_⟩
  rw [List.take_of_length_le (by omega)] at h1
  have := h1 x hx
  omega
theorem Few.okS {s : Scale} {n : Night} (h : Few s n) : s.Ok := ⟨by have := h.od; omega⟩
theorem Few.okN {s : Scale} {n : Night} (h : Few s n) : n.Ok := ⟨by have := h.op; omega, by have := h.ab; omega, by have := h.fi; omega, fun x hx => by have := h.mm x hx; omega⟩
theorem eqAb {a b c d : Int} : eqPV Tryz.prog 94 (.agg [.int .i64 a, .int .i64 b]) (.agg [.int .i64 c, .int .i64 d]) = some (decide ((a, b) = (c, d))) := by
  rw [eqs94]
  refine congrArg some ?_
  rw [Bool.eq_iff_iff]
  simp
theorem eqFi {a b c d : Int} : eqPV Tryz.prog 97 (.agg [.int .i64 a, .int .i64 b]) (.agg [.int .i64 c, .int .i64 d]) = some (decide ((a, b) = (c, d))) := by
  rw [eqs97]
  refine congrArg some ?_
  rw [Bool.eq_iff_iff]
  simp
attribute [go_sem high] eqAb eqFi
set_option maxHeartbeats 2000000 in
theorem EqAbsent_pc (Y : YEnv) (σ : Sg) (xs ys : List (Int × Int)) (o o2 : Own) (hx : xs.length < 2 ^ 50) :
    PC Tryz.prog Y 47 [.isl (xs.map stPV) o, .isl (ys.map stPV) o2] σ (.bool (decide (xs = ys))) (σ) := by
  refine PC_of_W Tryz.func47 rfl (by kernel_rfl) Tryz.ntmps47 (by simp) fun hcl hca => ?_
  refine W_seq fun kz1 kq1 => ?_
  refine W_region [0, 1] fun R hR => ?_   -- r0
  simp only [go_sem]
  refine hR _ _ (kq1 _ _ ?_); clear hR R; try clear kq1 kz1
  try simp only [go_sem]
  refine W_seq fun kz2 kq2 => ?_
  refine W_seq fun kz3 kq3 => ?_
  refine W_region [0, 1, 10] fun R hR => ?_   -- r1
  simp only [go_sem]
  refine hR _ _ (kq3 _ _ ?_); clear hR R; try clear kq3 kz3
  try simp only [go_sem]
  refine W_cond rfl (fun c1 => ?_) (fun c1 => ?_)
  · -- c1 true
    try simp only [nrm] at c1
    refine W_seq fun kz4 kq4 => ?_
    refine W_region [4] fun R hR => ?_   -- r2
    simp only [go_sem]
    refine hR _ _ (kq4 _ _ ?_); clear hR R; try clear kq4 kz4
    try simp only [go_sem]
    refine W_ret ?_
    simp only [go_sem]
    refine ⟨.inr (by trivial), ?_⟩
    first | refine Fin_same hcl rfl (Wk_eq ?_ (by simp only [go_sem])) | refine Fin_self hcl rfl (Wk_eq ?_ (by simp only [go_sem]))
    try simp only [go_sem]
    all_goals
      simp; intro h; subst h; exact c1 rfl
  · -- c1 false
    try simp only [nrm] at c1
    refine W_skip (kq2 _ _ ?_)
    refine W_seq fun kz5 kq5 => ?_
    refine W_seq fun kz6 kq6 => ?_
    refine W_region [0, 1, 5] fun R hR => ?_   -- r3
    simp only [go_sem]
    refine hR _ _ (kq6 _ _ ?_); clear hR R; try clear kq6 kz6
    try simp only [go_sem]
    refine W_block ?_
    refine W_loopS (α := Nat) (fun (i : Nat) => [(5, I i)]) (fun (i : Nat) => i ≤ xs.length ∧ xs.take i = ys.take i) (fun (i : Nat) => xs.length - i) (0) rfl (⟨Nat.zero_le _, rfl⟩) ?_
    rintro i ⟨hi, ht⟩
    refine W_seq fun kz7 kq7 => ?_
    refine W_seq fun kz8 kq8 => ?_
    refine W_region [0, 1, 5, 14] fun R hR => ?_   -- r4
    simp only [go_sem]
    refine hR _ _ (kq8 _ _ ?_); clear hR R; try clear kq8 kz8
    try simp only [go_sem]
    refine W_cond rfl (fun c2 => ?_) (fun c2 => ?_)
    · -- c2 true
      try simp only [nrm] at c2
      have hi' : i < xs.length := by first | assumption | omega
      obtain ⟨x, hxi⟩ : ∃ x, xs[i]? = some x := ⟨xs[i], by simp⟩
      obtain ⟨y, hyi⟩ : ∃ y, ys[i]? = some y := ⟨ys[i]'(by omega), by simp⟩
      refine W_skip (kq7 _ _ ?_)
      refine W_seq fun kz9 kq9 => ?_
      refine W_block ?_
      refine W_seq fun kz10 kq10 => ?_
      refine W_draw [0, 1, 5, 25] [0, 1, 2, 3, 4, 5, 6, 7, 8] [] [[], [], [0, 1], [0, 1, 2], [], [], [4, 5], [4, 5, 6], [0, 1, 2, 3, 4, 5, 6, 7]] mixed (by kernel_rfl) fun R hR => ?_   -- r6
      simp only [go_sem, hxi, hyi]
      try refine And.intro (by repeat' (first | refine And.intro ?_ ?_ | exact GOr_right (fun _ => by simp only [go_sem, hxi, hyi]))) ?_
      refine hR _ _ (kq10 _ _ ?_); clear hR R; try clear kq10 kz10
      try simp only [go_sem, hxi, hyi]
      refine W_cond rfl (fun c3 => ?_) (fun c3 => ?_)
      · -- c3 true
        try simp only [nrm] at c3
        refine W_seq fun kz11 kq11 => ?_
        refine W_region [4] fun R hR => ?_   -- r7
        simp only [go_sem, hxi, hyi]
        refine hR _ _ (kq11 _ _ ?_); clear hR R; try clear kq11 kz11
        try simp only [go_sem, hxi, hyi]
        refine W_ret ?_
        simp only [go_sem, hxi, hyi]
        refine ⟨.inr (by trivial), ?_⟩
        first | refine Fin_same hcl rfl (Wk_eq ?_ (by simp only [go_sem])) | refine Fin_self hcl rfl (Wk_eq ?_ (by simp only [go_sem]))
        try simp only [go_sem]
        all_goals
          simp; intro h; subst h; rw [hxi] at hyi; injection hyi with h; subst h; simp at c3
      · -- c3 false
        try simp only [nrm] at c3
        refine W_skip (kq9 _ _ ?_)
        refine W_region [0, 1, 5] fun R hR => ?_   -- r5
        simp only [go_sem, hxi, hyi]
        try simp (disch := omega) only [wrapI, wrapU]
        refine hR _ _ ?_; clear hR R
        try simp only [go_sem, hxi, hyi]
        refine ⟨i + 1, ?_, by (try simp only []); omega, ?_⟩
        · first | exact Weak.refl | exact Weak.eq (by first | rfl | (simp only [go_sem]; done) | (simp only [go_sem]; rfl) | (simp [go_sem]; done) | (simp [go_sem]; omega)) (by first | rfl | (simp only [go_sem]; done) | (simp [go_sem]; done))
        · try dsimp only
          refine ⟨hi', ?_⟩
          rw [List.take_add_one, List.take_add_one, ht, hxi, hyi, show x = y by obtain ⟨a, b⟩ := x; obtain ⟨c, d⟩ := y; simpa using c3]
    · -- c2 false
      try simp only [nrm] at c2
      have hie : i = xs.length := by omega
      subst hie
      have hxy : xs = ys := by rw [List.take_length] at ht; rw [c1, List.take_length] at ht; exact ht
      refine W_exit ?_
      simp only [go_sem]
      refine kq5 _ _ ?_
      refine W_seq fun kz12 kq12 => ?_
      refine W_region [4] fun R hR => ?_   -- r8
      simp only [go_sem]
      refine hR _ _ (kq12 _ _ ?_); clear hR R; try clear kq12 kz12
      try simp only [go_sem]
      refine W_ret ?_
      simp only [go_sem]
      refine ⟨.inr (by trivial), ?_⟩
      first | refine Fin_same hcl rfl (Wk_eq ?_ (by simp only [go_sem])) | refine Fin_self hcl rfl (Wk_eq ?_ (by simp only [go_sem]))
      try simp only [go_sem]
      all_goals
        simp [hxy]
set_option maxHeartbeats 2000000 in
theorem OwnScale_pc (Y : YEnv) (σ : Sg) (s : Scale) (hs : s.Ok) :
    PC Tryz.prog Y 15 [scPV s] σ (scPV s) (σ) := by
  refine PC_of_W Tryz.func15 rfl (by kernel_rfl) Tryz.ntmps15 (by simp) fun hcl hca => ?_
  refine W_seq fun kz1 kq1 => ?_
  refine W_region [1, 2] fun R hR => ?_   -- r0
  simp only [go_sem]
  refine hR _ _ (kq1 _ _ ?_); clear hR R; try clear kq1 kz1
  try simp only [go_sem]
  refine W_seq fun kz2 kq2 => ?_
  refine W_region [1, 2] fun R hR => ?_   -- r1
  simp only [go_sem]
  refine GCall_of (Ints_pc Y _ s.order .ro hs.ho) ?_   -- t5
  simp only [go_sem]
  refine hR _ _ (kq2 _ _ ?_); clear hR R; try clear kq2 kz2
  try simp only [go_sem]
  refine W_seq fun kz3 kq3 => ?_
  refine W_region [2] fun R hR => ?_   -- r2
  simp only [go_sem]
  refine hR _ _ (kq3 _ _ ?_); clear hR R; try clear kq3 kz3
  try simp only [go_sem]
  refine W_ret ?_
  simp only [go_sem]
  refine ⟨.inr (by trivial), ?_⟩
  refine Fin_same hcl (by show resPV Tryz.prog _ _ [.cell 2 24] = some _; simp only [resPV, go_sem]; rfl) (Wk.ro (by simp only [go_sem]) ?_)
  try simp only [go_sem]
  all_goals
    first | rfl | simp only [go_sem]
set_option maxHeartbeats 4000000 in
theorem OwnNight_pc (Y : YEnv) (σ : Sg) (n : Night) (hn : n.Ok) :
    PC Tryz.prog Y 16 [ngPV n] σ (ngPV n) (σ) := by
  refine PC_of_W Tryz.func16 rfl (by kernel_rfl) Tryz.ntmps16 (by simp) fun hcl hca => ?_
  have ho := hn.ho
  have ha := hn.ha
  have hf := hn.hf
  have hm := hn.hm
  refine W_seq fun kz1 kq1 => ?_
  refine W_region [1, 2] fun R hR => ?_   -- r0
  simp only [go_sem]
  refine hR _ _ (kq1 _ _ ?_); clear hR R; try clear kq1 kz1
  try simp only [go_sem]
  refine W_seq fun kz2 kq2 => ?_
  refine W_region [1, 2, 3] fun R hR => ?_   -- r1
  simp only [go_sem]
  refine hR _ _ (kq2 _ _ ?_); clear hR R; try clear kq2 kz2
  try simp only [go_sem]
  refine W_seq fun kz3 kq3 => ?_
  refine W_draw [1, 2, 3] [0, 1, 2, 3, 4, 5, 6, 7, 8, 9, 10, 11, 12, 13] [(4, 3), (5, 3), (6, 3), (8, 3), (8, 7)] [[], [], [1], [0, 1, 2], [], [], [5], [0, 1, 2, 3, 4, 5, 6], [1, 2, 5, 6], [0, 1, 2, 3, 4, 5, 6, 7, 8], [0, 1, 2, 3, 4, 5, 6, 7, 8, 9], [0, 1, 2, 3, 4, 5, 6, 7, 8, 9, 10], [0, 1, 2, 3, 4, 5, 6, 7, 8, 9, 10, 11], [0, 1, 2, 3, 4, 5, 6, 7, 8, 9, 10, 11, 12]] mixed (by kernel_rfl) fun R hR => ?_   -- r2
  simp only [go_sem]
  try simp (disch := first | omega | (simp only [go_sem] <;> omega)) only [wrapI, wrapU, appX_exact, appX_tok]
  try simp only [go_sem]
  try simp (disch := first | omega | (simp only [go_sem] <;> omega)) only [wrapI, wrapU, appX_exact, appX_tok]
  try simp only [go_sem]
  try refine And.intro (by repeat' (first | refine And.intro ?_ ?_ | exact GOr_right (fun _ => by simp only [go_sem]))) ?_
  refine hR _ _ (kq3 _ _ ?_); clear hR R; try clear kq3 kz3
  try simp only [go_sem]
  refine W_seq fun kz4 kq4 => ?_
  refine W_seq fun kz5 kq5 => ?_
  refine W_region [1, 2, 3, 4] fun R hR => ?_   -- r3
  simp only [go_sem]
  refine hR _ _ (kq5 _ _ ?_); clear hR R; try clear kq5 kz5
  try simp only [go_sem]
  refine W_block ?_
  refine W_weak (Weak.roomX (j := 0) (off := 0) (es := 4) rfl rfl (by simp)) ?_
  simp only [go_sem]
  refine W_loopT (α := Nat) (fun (i : Nat) => [(4, I i)]) (fun (i : Nat) => σ.ext [some [.isl ((n.opened.take i).map evPV) (.tok (σ.rooms.length + 2) i 4), .isl (n.absent.map stPV) (.tok σ.rooms.length n.absent.length 2), .isl (n.fines.map stPV) (.tok (σ.rooms.length + 1) n.fines.length 2)], some [.isl [] .exact, .isl [] .exact, .isl [] .exact]] [n.absent.length, n.fines.length, i]) (fun (i : Nat) => i ≤ n.opened.length) (fun (i : Nat) => n.opened.length - i) (0) rfl (by first | rfl | (simp only [go_sem]; done) | (simp only [go_sem]; rfl)) (Nat.zero_le _) ?_
  rintro i hi
  refine W_seq fun kz6 kq6 => ?_
  refine W_seq fun kz7 kq7 => ?_
  refine W_region [1, 2, 3, 4, 22] fun R hR => ?_   -- r4
  simp only [go_sem]
  refine hR _ _ (kq7 _ _ ?_); clear hR R; try clear kq7 kz7
  try simp only [go_sem]
  refine W_cond rfl (fun c1 => ?_) (fun c1 => ?_)
  · -- c1 true
    try simp only [nrm] at c1
    have hi' : i < n.opened.length := by first | assumption | omega
    obtain ⟨x, hx⟩ : ∃ x, n.opened[i]? = some x := ⟨n.opened[i], by simp [hi']⟩
    have hdrop : n.opened.drop i = x :: n.opened.drop (i + 1) := by
      rw [List.drop_eq_getElem_cons hi']; congr 1; exact (List.getElem?_eq_some_iff.1 hx).2
    have htl : (n.opened.take i).length = i := by rw [List.length_take]; omega
    have hsn : (n.opened.take (i + 1)).map evPV = (n.opened.take i).map evPV ++ [evPV x] := by rw [List.take_add_one, hx]; simp
    refine W_skip (kq6 _ _ ?_)
    refine W_seq fun kz8 kq8 => ?_
    refine W_block ?_
    refine W_seq fun kz9 kq9 => ?_
    refine W_region [1, 2, 3, 4, 5] fun R hR => ?_   -- r6
    simp only [go_sem, hx, htl]
    refine hR _ _ (kq9 _ _ ?_); clear hR R; try clear kq9 kz9
    try simp only [go_sem, hx, htl]
    refine W_seq fun kz10 kq10 => ?_
    refine W_region [1, 2, 3, 4, 5] fun R hR => ?_   -- r7
    simp only [go_sem, hx, htl]
    refine GCall_of (Ints_pc Y _ x.marks .ro (hm x (List.mem_of_getElem? hx))) ?_   -- t31
    simp only [go_sem, hx, htl]
    refine hR _ _ (kq10 _ _ ?_); clear hR R; try clear kq10 kz10
    try simp only [go_sem, hx, htl]
    refine W_region [1, 2, 3, 4] fun R hR => ?_   -- r8
    simp only [go_sem, hx, htl]
    try simp (disch := first | omega | (simp only [go_sem] <;> omega)) only [wrapI, wrapU, appX_exact, appX_tok]
    try simp only [go_sem, hx, htl]
    refine hR _ _ (kq8 _ _ ?_); clear hR R; try clear kq8 kz8
    try simp only [go_sem, hx, htl]
    refine W_region [1, 2, 3, 4] fun R hR => ?_   -- r5
    simp only [go_sem, hx, htl]
    try simp (disch := omega) only [wrapI, wrapU]
    refine hR _ _ ?_; clear hR R
    try simp only [go_sem, hx, htl]
    refine ⟨i + 1, ?_, by (try simp only []); omega, ?_⟩
    · refine Weak.trans (Weak.cutX 2 3 (by omega) (by omega) hcl (by simp only [go_sem] <;> omega) (by simp only [go_sem] <;> omega)) ?_
      simp only [go_sem]
      refine Weak.eq (by first | rfl | (simp only [go_sem]; done) | (simp [go_sem]; done)) ?_
      simp only [go_sem, hsn]
      first | done | rfl | simp [evPV, evCells]
    · try dsimp only
      omega
  · -- c1 false
    try simp only [nrm] at c1
    have hdrop : n.opened.drop i = [] := List.drop_eq_nil_of_le (by omega)
    have hie : n.opened.length = i := by omega
    rw [← hie, List.take_length]
    refine W_exit ?_
    simp only [go_sem]
    refine kq4 _ _ ?_
    refine W_seq fun kz11 kq11 => ?_
    refine W_region [2] fun R hR => ?_   -- r9
    simp only [go_sem]
    refine hR _ _ (kq11 _ _ ?_); clear hR R; try clear kq11 kz11
    try simp only [go_sem]
    refine W_ret ?_
    simp only [go_sem]
    refine ⟨.inr (by trivial), ?_⟩
    refine Fin_same hcl (by show resPV Tryz.prog _ _ [.cell 2 29] = some _; simp only [resPV, go_sem]; rfl) (Wk.ro (by simp only [go_sem]) ?_)
    try simp only [go_sem]
    all_goals
      first | rfl | simp only [go_sem]
set_option maxHeartbeats 2000000 in
theorem EqScales_pc (Y : YEnv) (σ : Sg) (s : Scale) (hs : s.Ok) :
    PC Tryz.prog Y 20 [scPV s, scPV s] σ (.bool true) (σ) := by
  refine PC_of_W Tryz.func20 rfl (by kernel_rfl) Tryz.ntmps20 (by simp) fun hcl hca => ?_
  refine W_seq fun kz1 kq1 => ?_
  refine W_region [2, 3] fun R hR => ?_   -- r0
  simp only [go_sem]
  refine hR _ _ (kq1 _ _ ?_); clear hR R; try clear kq1 kz1
  try simp only [go_sem]
  refine W_seq fun kz2 kq2 => ?_
  refine W_region [4] fun R hR => ?_   -- r1
  simp only [go_sem]
  refine GCall_of (PC.val (v' := .bool true) (EqInts_pc Y _ s.order s.order .ro .ro (by have := hs.ho; omega)) (by simp)) ?_   -- t50
  simp only [go_sem]
  refine hR _ _ (kq2 _ _ ?_); clear hR R; try clear kq2 kz2
  try simp only [go_sem]
  refine W_ret ?_
  simp only [go_sem]
  refine ⟨.inr (by trivial), ?_⟩
  first | refine Fin_same hcl rfl (Wk_eq ?_ (by simp only [go_sem])) | refine Fin_self hcl rfl (Wk_eq ?_ (by simp only [go_sem]))
  try simp only [go_sem]
  all_goals
    first | rfl | (simp_all; done) | (simp_all; omega)
set_option maxHeartbeats 2000000 in
theorem EqNights_pc (Y : YEnv) (σ : Sg) (n : Night) (hn : n.Ok) :
    PC Tryz.prog Y 21 [ngPV n, ngPV n] σ (.bool true) (σ) := by
  refine PC_of_W Tryz.func21 rfl (by kernel_rfl) Tryz.ntmps21 (by simp) fun hcl hca => ?_
  have ho := hn.ho
  have ha := hn.ha
  have hf := hn.hf
  have hm := hn.hm
  refine W_seq fun kz1 kq1 => ?_
  refine W_region [2, 3] fun R hR => ?_   -- r0
  simp only [go_sem]
  refine hR _ _ (kq1 _ _ ?_); clear hR R; try clear kq1 kz1
  try simp only [go_sem]
  refine W_seq fun kz2 kq2 => ?_
  refine W_seq fun kz3 kq3 => ?_
  refine W_regionJ [2, 3, 32] [(32, .bool false)] ?_ fun R hR => ?_   -- r1
  · refine kq3 _ _ ?_
    simp only [go_sem]
    refine W_cond rfl (fun c1 => ?_) (fun c1 => ?_)
    · -- c1 true
      try simp only [nrm] at c1
      exfalso
      simp at c1
    · -- c1 false
      try simp only [nrm] at c1
      refine W_skip (kq2 _ _ ?_)
      refine W_seq fun kz4 kq4 => ?_
      refine W_seq fun kz5 kq5 => ?_
      refine W_region [2, 3, 5] fun R hR => ?_   -- r3
      simp only [go_sem]
      refine hR _ _ (kq5 _ _ ?_); clear hR R; try clear kq5 kz5
      try simp only [go_sem]
      refine W_block ?_
      refine W_loopS (α := Nat) (fun (i : Nat) => [(5, I i)]) (fun (i : Nat) => i ≤ n.opened.length) (fun (i : Nat) => n.opened.length - i) (0) rfl (Nat.zero_le _) ?_
      rintro i hi
      refine W_seq fun kz6 kq6 => ?_
      refine W_seq fun kz7 kq7 => ?_
      refine W_region [2, 3, 5, 37] fun R hR => ?_   -- r4
      simp only [go_sem]
      refine hR _ _ (kq7 _ _ ?_); clear hR R; try clear kq7 kz7
      try simp only [go_sem]
      refine W_cond rfl (fun c2 => ?_) (fun c2 => ?_)
      · -- c2 true
        try simp only [nrm] at c2
        have hi' : i < n.opened.length := by first | assumption | omega
        obtain ⟨x, hx⟩ : ∃ x, n.opened[i]? = some x := ⟨n.opened[i], by simp [hi']⟩
        have hdrop : n.opened.drop i = x :: n.opened.drop (i + 1) := by
          rw [List.drop_eq_getElem_cons hi']; congr 1; exact (List.getElem?_eq_some_iff.1 hx).2
        refine W_skip (kq6 _ _ ?_)
        refine W_seq fun kz8 kq8 => ?_
        refine W_block ?_
        refine W_seq fun kz9 kq9 => ?_
        refine W_draw [2, 3, 5, 6, 7] [0, 1, 2, 3, 4, 5, 6, 7, 8, 9, 10, 11, 12, 13] [(0, 11), (0, 12), (1, 11), (1, 12), (2, 11), (2, 12), (3, 11), (3, 12), (4, 11), (4, 12), (5, 11), (5, 12), (5, 13), (6, 11), (6, 12), (6, 13), (7, 11), (7, 12), (7, 13), (8, 11), (8, 12), (8, 13), (9, 11), (9, 12), (9, 13)] [[], [0], [], [0, 1, 2], [0, 1, 2, 3], [], [5], [], [5, 6, 7], [5, 6, 7, 8], [], [], [0, 1, 2, 3, 4, 10, 11], [0, 1, 2, 3, 4, 5, 6, 7, 8, 9, 10, 11, 12]] mixed (by kernel_rfl) fun R hR => ?_   -- r6
        simp only [go_sem, hx]
        try refine And.intro (by repeat' (first | refine And.intro ?_ ?_ | exact GOr_right (fun _ => by simp only [go_sem, hx]))) ?_
        refine hR _ _ (kq9 _ _ ?_); clear hR R; try clear kq9 kz9
        try simp only [go_sem, hx]
        refine W_seq fun kz10 kq10 => ?_
        refine W_regionJ [2, 3, 5, 76] [(76, .bool false)] ?_ fun R hR => ?_   -- r7
        · refine kq10 _ _ ?_
          simp only [go_sem, hx]
          refine W_cond rfl (fun c3 => ?_) (fun c3 => ?_)
          · -- c3 true
            try simp only [nrm] at c3
            exfalso
            simp at c3
          · -- c3 false
            try simp only [nrm] at c3
            refine W_skip (kq8 _ _ ?_)
            refine W_region [2, 3, 5] fun R hR => ?_   -- r5
            simp only [go_sem, hx]
            try simp (disch := omega) only [wrapI, wrapU]
            refine hR _ _ ?_; clear hR R
            try simp only [go_sem, hx]
            refine ⟨i + 1, ?_, by (try simp only []); omega, ?_⟩
            · refine Weak.trans (Weak.cutX 2 0 (by omega) (by omega) hcl (by simp only [go_sem] <;> omega) (by simp only [go_sem] <;> omega)) ?_
              simp only [go_sem]
              exact Weak.eq (by first | rfl | (simp only [go_sem]; done) | (simp only [go_sem]; rfl) | (simp [go_sem]; done) | (simp [go_sem]; omega)) (by first | rfl | (simp only [go_sem]; done) | (simp [go_sem]; done))
            · try dsimp only
              omega
        · simp only [go_sem, hx]
          refine GCall_of (PC.val (v' := .bool true) (EqInts_pc Y _ x.marks x.marks .ro .ro (by have := hm x (List.mem_of_getElem? hx); omega)) (by simp)) ?_   -- t74
          simp only [go_sem, hx]
          refine hR _ ?_
          all_goals try simp only [go_sem, hx]
          all_goals
            first | rfl | (simp_all; done)
      · -- c2 false
        try simp only [nrm] at c2
        have hdrop : n.opened.drop i = [] := List.drop_eq_nil_of_le (by omega)
        refine W_exit ?_
        simp only [go_sem]
        refine kq4 _ _ ?_
        refine W_seq fun kz11 kq11 => ?_
        refine W_seq fun kz12 kq12 => ?_
        refine W_region [2, 3, 8] fun R hR => ?_   -- r9
        simp only [go_sem]
        refine hR _ _ (kq12 _ _ ?_); clear hR R; try clear kq12 kz12
        try simp only [go_sem]
        refine W_block ?_
        refine W_loopS (α := Nat) (fun (i : Nat) => [(8, I i)]) (fun (i : Nat) => i ≤ n.fines.length) (fun (i : Nat) => n.fines.length - i) (0) rfl (Nat.zero_le _) ?_
        rintro i hi
        refine W_seq fun kz13 kq13 => ?_
        refine W_seq fun kz14 kq14 => ?_
        refine W_region [2, 3, 8, 81] fun R hR => ?_   -- r10
        simp only [go_sem]
        refine hR _ _ (kq14 _ _ ?_); clear hR R; try clear kq14 kz14
        try simp only [go_sem]
        refine W_cond rfl (fun c4 => ?_) (fun c4 => ?_)
        · -- c4 true
          try simp only [nrm] at c4
          have hi' : i < n.fines.length := by first | assumption | omega
          obtain ⟨x, hx⟩ : ∃ x, n.fines[i]? = some x := ⟨n.fines[i], by simp [hi']⟩
          have hdrop : n.fines.drop i = x :: n.fines.drop (i + 1) := by
            rw [List.drop_eq_getElem_cons hi']; congr 1; exact (List.getElem?_eq_some_iff.1 hx).2
          refine W_skip (kq13 _ _ ?_)
          refine W_seq fun kz15 kq15 => ?_
          refine W_block ?_
          refine W_seq fun kz16 kq16 => ?_
          refine W_draw [2, 3, 8, 94] [0, 1, 2, 3, 4, 5, 6, 7, 8, 9, 10] [] [[], [0], [], [0, 1, 2], [0, 1, 2, 3], [], [5], [], [5, 6, 7], [5, 6, 7, 8], [0, 1, 2, 3, 4, 5, 6, 7, 8, 9]] mixed (by kernel_rfl) fun R hR => ?_   -- r12
          simp only [go_sem, hx]
          try refine And.intro (by repeat' (first | refine And.intro ?_ ?_ | exact GOr_right (fun _ => by simp only [go_sem, hx]))) ?_
          refine hR _ _ (kq16 _ _ ?_); clear hR R; try clear kq16 kz16
          try simp only [go_sem, hx]
          refine W_cond rfl (fun c5 => ?_) (fun c5 => ?_)
          · -- c5 true
            try simp only [nrm] at c5
            exfalso
            simp at c5
          · -- c5 false
            try simp only [nrm] at c5
            refine W_skip (kq15 _ _ ?_)
            refine W_region [2, 3, 8] fun R hR => ?_   -- r11
            simp only [go_sem, hx]
            try simp (disch := omega) only [wrapI, wrapU]
            refine hR _ _ ?_; clear hR R
            try simp only [go_sem, hx]
            refine ⟨i + 1, ?_, by (try simp only []); omega, ?_⟩
            · first | exact Weak.refl | exact Weak.eq (by first | rfl | (simp only [go_sem]; done) | (simp only [go_sem]; rfl) | (simp [go_sem]; done) | (simp [go_sem]; omega)) (by first | rfl | (simp only [go_sem]; done) | (simp [go_sem]; done))
            · try dsimp only
              omega
        · -- c4 false
          try simp only [nrm] at c4
          have hdrop : n.fines.drop i = [] := List.drop_eq_nil_of_le (by omega)
          refine W_exit ?_
          simp only [go_sem]
          refine kq11 _ _ ?_
          refine W_seq fun kz17 kq17 => ?_
          refine W_region [4] fun R hR => ?_   -- r14
          simp only [go_sem]
          refine hR _ _ (kq17 _ _ ?_); clear hR R; try clear kq17 kz17
          try simp only [go_sem]
          refine W_ret ?_
          simp only [go_sem]
          refine ⟨.inr (by trivial), ?_⟩
          first | refine Fin_same hcl rfl (Wk_eq ?_ (by simp only [go_sem])) | refine Fin_self hcl rfl (Wk_eq ?_ (by simp only [go_sem]))
          try simp only [go_sem]
          all_goals
            first | rfl | (simp_all; done) | (simp_all; omega)
  · simp only [go_sem]
    refine GCall_of (PC.val (v' := .bool true) (EqAbsent_pc Y _ n.absent n.absent .ro .ro (by omega)) (by simp)) ?_   -- t30
    simp only [go_sem]
    refine hR _ ?_
    all_goals try simp only [go_sem]
    all_goals
      first | rfl | (simp_all; done)
set_option maxHeartbeats 2000000 in
theorem wide_pc (Y : YEnv) (σ : Sg) (s : Scale) (n : Night) (hs : s.order.length < 2 ^ 50) (ho : n.opened.length < 2 ^ 50) (ha : n.absent.length < 2 ^ 50) (hf : n.fines.length < 2 ^ 50) (hm : ∀ x, x ∈ n.opened → x.marks.length < 2 ^ 50) :
    PC Tryz.prog Y 9 [scPV s, ngPV n] σ (.bool (wideB s n)) (σ) := by
  refine PC_of_W Tryz.func9 rfl (by kernel_rfl) Tryz.ntmps9 (by simp) fun hcl hca => ?_
  obtain ⟨res, hres⟩ : ∃ r, wideB s n = r := ⟨_, rfl⟩
  rw [hres]
  refine W_seq fun kz1 kq1 => ?_
  refine W_region [2, 3] fun R hR => ?_   -- r0
  simp only [go_sem]
  refine hR _ _ (kq1 _ _ ?_); clear hR R; try clear kq1 kz1
  try simp only [go_sem]
  refine W_seq fun kz2 kq2 => ?_
  refine W_seq fun kz3 kq3 => ?_
  refine W_region [2, 3, 5] fun R hR => ?_   -- r1
  simp only [go_sem]
  refine hR _ _ (kq3 _ _ ?_); clear hR R; try clear kq3 kz3
  try simp only [go_sem]
  refine W_block ?_
  refine W_loopS (α := Nat) (fun (i : Nat) => [(5, I i)]) (fun (i : Nat) => i ≤ n.opened.length ∧ i ≤ 70 ∧ ∀ x, x ∈ n.opened.take i → ¬ (20 < (x.marks.length : Int))) (fun (i : Nat) => n.opened.length - i) (0) rfl (⟨Nat.zero_le _, by omega, fun x hx => by simp at hx⟩) ?_
  rintro i ⟨hi, hi7, hal⟩
  refine W_seq fun kz4 kq4 => ?_
  refine W_seq fun kz5 kq5 => ?_
  refine W_regionJ [2, 3, 5, 14] [(14, .bool (decide (i < n.opened.length) && decide (i < 70)))] ?_ fun R hR => ?_   -- r2
  · refine kq5 _ _ ?_
    simp only [go_sem]
    refine W_cond rfl (fun c1 => ?_) (fun c1 => ?_)
    · -- c1 true
      try simp only [nrm] at c1
      have hb' : i < n.opened.length ∧ i < 70 := by simpa using c1
      have hi' := hb'.1
      have hi70 := hb'.2
      obtain ⟨x, hx⟩ : ∃ x, n.opened[i]? = some x := ⟨n.opened[i], by simp⟩
      have hxl := hm x (List.mem_of_getElem? hx)
      refine W_skip (kq4 _ _ ?_)
      refine W_seq fun kz6 kq6 => ?_
      refine W_block ?_
      refine W_seq fun kz7 kq7 => ?_
      refine W_region [2, 3, 5, 24] fun R hR => ?_   -- r4
      simp only [go_sem, hx]
      refine hR _ _ (kq7 _ _ ?_); clear hR R; try clear kq7 kz7
      try simp only [go_sem, hx]
      refine W_cond rfl (fun c2 => ?_) (fun c2 => ?_)
      · -- c2 true
        try simp only [nrm] at c2
        refine W_seq fun kz8 kq8 => ?_
        refine W_region [4] fun R hR => ?_   -- r5
        simp only [go_sem, hx]
        refine hR _ _ (kq8 _ _ ?_); clear hR R; try clear kq8 kz8
        try simp only [go_sem, hx]
        refine W_ret ?_
        simp only [go_sem, hx]
        refine ⟨.inr (by trivial), ?_⟩
        first | refine Fin_same hcl rfl (Wk_eq ?_ (by simp only [go_sem])) | refine Fin_self hcl rfl (Wk_eq ?_ (by simp only [go_sem]))
        try simp only [go_sem]
        all_goals
          have hany : (n.opened.take 70).any (fun x => decide (20 < (x.marks.length : Int))) = true := by
            rw [List.any_eq_true]
            refine ⟨x, List.mem_of_getElem? (i := i) (by rw [List.getElem?_take_of_lt hi70]; exact hx), ?_⟩
            rw [decide_eq_true_eq]; first | exact c2 | omega
          rw [← hres]; unfold wideB; rw [hany]; rfl
      · -- c2 false
        try simp only [nrm] at c2
        refine W_skip (kq6 _ _ ?_)
        refine W_region [2, 3, 5] fun R hR => ?_   -- r3
        simp only [go_sem, hx]
        try simp (disch := omega) only [wrapI, wrapU]
        refine hR _ _ ?_; clear hR R
        try simp only [go_sem, hx]
        refine ⟨i + 1, ?_, by (try simp only []); omega, ?_⟩
        · first | exact Weak.refl | exact Weak.eq (by first | rfl | (simp only [go_sem]; done) | (simp only [go_sem]; rfl) | (simp [go_sem]; done) | (simp [go_sem]; omega)) (by first | rfl | (simp only [go_sem]; done) | (simp [go_sem]; done))
        · try dsimp only
          refine ⟨by omega, by omega, fun y hy => ?_⟩
          rw [List.take_add_one, hx] at hy
          rcases List.mem_append.1 hy with h | h
          · exact hal y h
          · simp at h; subst h; first | exact c2 | omega | (simp at c2; omega)
    · -- c1 false
      try simp only [nrm] at c1
      have hb' : ¬ (i < n.opened.length ∧ i < 70) := by simpa using c1
      have htk : n.opened.take 70 = n.opened.take i := by
        by_cases e : i = n.opened.length
        · rw [e, List.take_length, List.take_of_length_le (by omega)]
        · have : i = 70 := by omega
          rw [this]
      have hany : (n.opened.take 70).any (fun x => decide (20 < (x.marks.length : Int))) = false := by
        rw [List.any_eq_false, htk]
        intro x hx
        simpa using hal x hx
      unfold wideB at hres
      rw [hany, Bool.false_or] at hres
      refine W_exit ?_
      simp only [go_sem]
      refine kq2 _ _ ?_
      refine W_seq fun kz9 kq9 => ?_
      refine W_region [4] fun R hR => ?_   -- r6
      simp only [go_sem]
      refine GWant_split (fun g1 => ?_) (fun g1 => ?_)
      · try simp only [Bool.not_eq_true', Bool.not_eq_false'] at g1
        have n1 := g1; try simp only [nrm] at n1
        simp only [go_sem, g1]
        refine GWant_split (fun g2 => ?_) (fun g2 => ?_)
        · try simp only [Bool.not_eq_true', Bool.not_eq_false'] at g2
          have n2 := g2; try simp only [nrm] at n2
          simp only [go_sem, g1, g2]
          refine GWant_split (fun g3 => ?_) (fun g3 => ?_)
          · try simp only [Bool.not_eq_true', Bool.not_eq_false'] at g3
            have n3 := g3; try simp only [nrm] at n3
            simp only [go_sem, g1, g2, g3]
            refine hR _ _ (kq9 _ _ ?_); clear hR R; try clear kq9 kz9
            try simp only [go_sem]
            refine W_ret ?_
            simp only [go_sem]
            refine ⟨.inr (by trivial), ?_⟩
            first | refine Fin_same hcl rfl (Wk_eq ?_ (by simp only [go_sem])) | refine Fin_self hcl rfl (Wk_eq ?_ (by simp only [go_sem]))
            try simp only [go_sem]
            all_goals
              rw [← hres]; first | rfl | (simp [*]; done) | (simp_all; done)
          · try simp only [Bool.not_eq_true', Bool.not_eq_false'] at g3
            have n3 := g3; try simp only [nrm] at n3
            simp only [go_sem, g1, g2, g3]
            refine hR _ _ (kq9 _ _ ?_); clear hR R; try clear kq9 kz9
            try simp only [go_sem]
            refine W_ret ?_
            simp only [go_sem]
            refine ⟨.inr (by trivial), ?_⟩
            first | refine Fin_same hcl rfl (Wk_eq ?_ (by simp only [go_sem])) | refine Fin_self hcl rfl (Wk_eq ?_ (by simp only [go_sem]))
            try simp only [go_sem]
            all_goals
              rw [← hres]; first | rfl | (simp [*]; done) | (simp_all; done)
        · try simp only [Bool.not_eq_true', Bool.not_eq_false'] at g2
          have n2 := g2; try simp only [nrm] at n2
          simp only [go_sem, g1, g2]
          refine hR _ _ (kq9 _ _ ?_); clear hR R; try clear kq9 kz9
          try simp only [go_sem]
          refine W_ret ?_
          simp only [go_sem]
          refine ⟨.inr (by trivial), ?_⟩
          first | refine Fin_same hcl rfl (Wk_eq ?_ (by simp only [go_sem])) | refine Fin_self hcl rfl (Wk_eq ?_ (by simp only [go_sem]))
          try simp only [go_sem]
          all_goals
            rw [← hres]; first | rfl | (simp [*]; done) | (simp_all; done)
      · try simp only [Bool.not_eq_true', Bool.not_eq_false'] at g1
        have n1 := g1; try simp only [nrm] at n1
        simp only [go_sem, g1]
        refine hR _ _ (kq9 _ _ ?_); clear hR R; try clear kq9 kz9
        try simp only [go_sem]
        refine W_ret ?_
        simp only [go_sem]
        refine ⟨.inr (by trivial), ?_⟩
        first | refine Fin_same hcl rfl (Wk_eq ?_ (by simp only [go_sem])) | refine Fin_self hcl rfl (Wk_eq ?_ (by simp only [go_sem]))
        try simp only [go_sem]
        all_goals
          rw [← hres]; first | rfl | (simp [*]; done) | (simp_all; done)
  · simp only [go_sem]
    refine GWant_split (fun g4 => ?_) (fun g4 => ?_)
    · try simp only [Bool.not_eq_true', Bool.not_eq_false'] at g4
      have n4 := g4; try simp only [nrm] at n4
      simp only [go_sem, g4]
      refine hR _ ?_
      all_goals try simp only [go_sem]
      all_goals
        first | (simp [*]; done) | (simp_all; done) | (simp_all; omega)
    · try simp only [Bool.not_eq_true', Bool.not_eq_false'] at g4
      have n4 := g4; try simp only [nrm] at n4
      simp only [go_sem, g4]
      refine hR _ ?_
      all_goals try simp only [go_sem]
      all_goals
        first | (simp [*]; done) | (simp_all; done) | (simp_all; omega)
end Go.Proofs.YtgelnjmddabgpaaGreat
namespace Go.Proofs.YtgelnjmddabgpaaGreat
open Go Go.RowKit
set_option maxRecDepth 100000
/-- What depends on the drum's beat, and the beat behind it. -/
abbrev D (α : Type) := Int → α × Int
def dret {α : Type} (a : α) : D α := fun b => (a, b)
def dbind {α β : Type} (m : D α) (f : α → D β) : D β := fun b => f (m b).1 (m b).2
def Holds {α : Type} (m : D α) (R : α → Prop) : Prop := ∀ b, R (m b).1
theorem Holds.ret {α : Type} {a : α} {R : α → Prop} (h : R a) : Holds (dret a) R := fun _ => h
theorem Holds.bind {α β : Type} {m : D α} {f : α → D β} {R : α → Prop} {S : β → Prop} (h : Holds m R) (k : ∀ a, R a → Holds (f a) S) : Holds (dbind m f) S := fun b => k _ (h b) _
theorem Holds.mono {α : Type} {m : D α} {R S : α → Prop} (h : Holds m R) (k : ∀ a, R a → S a) : Holds m S := fun b => k _ (h b)
def xorU (a b : Int) : Int := match arith .xor .u64 a b with | some (.int _ n) => n | _ => 0
def hitB (b : Int) : Int := IntKind.u64.wrap (IntKind.u64.wrap (b * 15074714826142052245) + 11400714819323198485)
def hitM (x : Int) : Int := IntKind.u64.wrap (xorU x (x.fdiv 4294967296) * 15760922415973212899)
def hitX (b : Int) : Int := xorU (hitM (hitM (hitB b))) ((hitM (hitM (hitB b))).fdiv 4294967296)
theorem wrapU_bd (n : Int) : 0 ≤ IntKind.u64.wrap n ∧ IntKind.u64.wrap n ≤ 18446744073709551615 := by
  have h : IntKind.u64.wrap n = n % 18446744073709551616 := rfl
  rw [h]; omega
theorem hitX_bd (b : Int) : 0 ≤ hitX b ∧ hitX b ≤ 18446744073709551615 := wrapU_bd _
def roll0 (n : Int) : D Int := fun b => if n < 2 then (0, b) else ((hitX b / 2) % n, hitB b)
/-- A number drawn: sealed, so that nobody computes with it. -/
noncomputable def roll : Int → D Int := Classical.choose (⟨roll0, rfl⟩ : ∃ f, f = roll0)
theorem roll_eq : roll = fun n b => if n < 2 then (0, b) else ((hitX b / 2) % n, hitB b) := Classical.choose_spec (⟨roll0, rfl⟩ : ∃ f, f = roll0)
noncomputable def mid (lo hi : Int) : D Int := fun b => (lo + (roll (hi - lo + 1) b).1, (roll (hi - lo + 1) b).2)
noncomputable def anyOf (l : List Int) : D Int := fun b => ((l[(roll l.length b).1.toNat]?).getD 0, (roll l.length b).2)
theorem roll_bd (n : Int) : Holds (roll n) fun r => 0 ≤ r ∧ r < max n 1 := by
  intro b
  rw [roll_eq]
  dsimp only
  have := hitX_bd b
  by_cases h : n < 2
  · rw [if_pos h]; simp only []; omega
  · rw [if_neg h]
    have h1 := Int.emod_nonneg (hitX b / 2) (show n ≠ 0 by omega)
    have h2 := Int.emod_lt_of_pos (hitX b / 2) (show 0 < n by omega)
    simp only []; omega
theorem mid_bd (lo hi : Int) (h : lo ≤ hi) : Holds (mid lo hi) fun r => lo ≤ r ∧ r ≤ hi := by
  intro b
  have := roll_bd (hi - lo + 1) b
  simp only [mid] at *
  omega
theorem anyOf_mem (l : List Int) (h : l ≠ []) : Holds (anyOf l) fun r => r ∈ l := by
  intro b
  have := roll_bd l.length b
  simp only [anyOf] at *
  have hl : 0 < l.length := by cases l with | nil => exact absurd rfl h | cons => simp
  have hlt : (roll (l.length : Int) b).1.toNat < l.length := by omega
  rw [List.getElem?_eq_getElem hlt]
  exact List.getElem_mem hlt
set_option maxHeartbeats 2000000 in
theorem hit_pc (Y : YEnv) (σ : Sg) (d : Nat) (b : Int) (hd : σ.store[d]? = some (some [.int .u64 b])) :
    PC Tryz.prog Y 52 [.ptr d 0] σ (.int .u64 (hitX b)) (σ.setVar d [.int .u64 (hitB b)]) := by
  refine PC_of_W Tryz.func52 rfl (by kernel_rfl) Tryz.ntmps52 (by simp) fun hcl hca => ?_
  have hlt := lt_of_get hd
  refine W_seq fun kz1 kq1 => ?_
  refine W_region [0] fun R hR => ?_   -- r0
  simp only [go_sem, ldS_at hd, stX_at hd, ldS_sv hlt, stX_sv hlt, sv_ext hlt, sv_ext_sv hlt]
  refine hR _ _ (kq1 _ _ ?_); clear hR R; try clear kq1 kz1
  try simp only [go_sem, ldS_at hd, stX_at hd, ldS_sv hlt, stX_sv hlt, sv_ext hlt, sv_ext_sv hlt]
  refine W_seq fun kz2 kq2 => ?_
  refine W_region [0] fun R hR => ?_   -- r1
  simp only [go_sem, ldS_at hd, stX_at hd, ldS_sv hlt, stX_sv hlt, sv_ext hlt, sv_ext_sv hlt]
  try simp (disch := omega) only [wrapI, wrapU]
  refine hR _ _ (kq2 _ _ ?_); clear hR R; try clear kq2 kz2
  try simp only [go_sem, ldS_at hd, stX_at hd, ldS_sv hlt, stX_sv hlt, sv_ext hlt, sv_ext_sv hlt]
  refine W_seq fun kz3 kq3 => ?_
  refine W_region [3] fun R hR => ?_   -- r2
  simp only [go_sem, ldS_at hd, stX_at hd, ldS_sv hlt, stX_sv hlt, sv_ext hlt, sv_ext_sv hlt]
  refine hR _ _ (kq3 _ _ ?_); clear hR R; try clear kq3 kz3
  try simp only [go_sem, ldS_at hd, stX_at hd, ldS_sv hlt, stX_sv hlt, sv_ext hlt, sv_ext_sv hlt]
  refine W_seq fun kz4 kq4 => ?_
  refine W_region [3] fun R hR => ?_   -- r3
  simp only [go_sem, ldS_at hd, stX_at hd, ldS_sv hlt, stX_sv hlt, sv_ext hlt, sv_ext_sv hlt]
  try simp (disch := omega) only [wrapI, wrapU]
  refine hR _ _ (kq4 _ _ ?_); clear hR R; try clear kq4 kz4
  try simp only [go_sem, ldS_at hd, stX_at hd, ldS_sv hlt, stX_sv hlt, sv_ext hlt, sv_ext_sv hlt]
  refine W_seq fun kz5 kq5 => ?_
  refine W_region [3] fun R hR => ?_   -- r4
  simp only [go_sem, ldS_at hd, stX_at hd, ldS_sv hlt, stX_sv hlt, sv_ext hlt, sv_ext_sv hlt]
  try simp (disch := omega) only [wrapI, wrapU]
  refine hR _ _ (kq5 _ _ ?_); clear hR R; try clear kq5 kz5
  try simp only [go_sem, ldS_at hd, stX_at hd, ldS_sv hlt, stX_sv hlt, sv_ext hlt, sv_ext_sv hlt]
  refine W_seq fun kz6 kq6 => ?_
  refine W_region [2] fun R hR => ?_   -- r5
  simp only [go_sem, ldS_at hd, stX_at hd, ldS_sv hlt, stX_sv hlt, sv_ext hlt, sv_ext_sv hlt]
  refine hR _ _ (kq6 _ _ ?_); clear hR R; try clear kq6 kz6
  try simp only [go_sem, ldS_at hd, stX_at hd, ldS_sv hlt, stX_sv hlt, sv_ext hlt, sv_ext_sv hlt]
  refine W_ret ?_
  simp only [go_sem, ldS_at hd, stX_at hd, ldS_sv hlt, stX_sv hlt, sv_ext hlt, sv_ext_sv hlt]
  refine ⟨.inr (by trivial), ?_⟩
  first | refine Fin_set hcl (by simp only [go_sem]) rfl (Wk_eq ?_ (by simp only [go_sem])) | refine Fin_set0 hcl (by simp only [go_sem]) rfl (Wk_eq ?_ (by simp only [go_sem]))
  try simp only [go_sem]
  all_goals
    simp only [hitX, hitM, hitB, xorU, go_sem]; simp (disch := omega) only [wrapU]
set_option maxHeartbeats 2000000 in
theorem Roll_lo (Y : YEnv) (σ : Sg) (d : Nat) (n : Int) (hn : n < 2) :
    PC Tryz.prog Y 22 [.ptr d 0, I n] σ (I 0) (σ) := by
  refine PC_of_W Tryz.func22 rfl (by kernel_rfl) Tryz.ntmps22 (by simp) fun hcl hca => ?_
  refine W_seq fun kz1 kq1 => ?_
  refine W_region [0, 1] fun R hR => ?_   -- r0
  simp only [go_sem]
  refine hR _ _ (kq1 _ _ ?_); clear hR R; try clear kq1 kz1
  try simp only [go_sem]
  refine W_seq fun kz2 kq2 => ?_
  refine W_seq fun kz3 kq3 => ?_
  refine W_region [0, 1, 6] fun R hR => ?_   -- r1
  simp only [go_sem]
  refine hR _ _ (kq3 _ _ ?_); clear hR R; try clear kq3 kz3
  try simp only [go_sem]
  refine W_cond rfl (fun c1 => ?_) (fun c1 => ?_)
  · -- c1 true
    try simp only [nrm] at c1
    refine W_seq fun kz4 kq4 => ?_
    refine W_region [4] fun R hR => ?_   -- r2
    simp only [go_sem]
    refine hR _ _ (kq4 _ _ ?_); clear hR R; try clear kq4 kz4
    try simp only [go_sem]
    refine W_ret ?_
    simp only [go_sem]
    refine ⟨.inr (by trivial), ?_⟩
    first | refine Fin_same hcl rfl (Wk_eq ?_ (by simp only [go_sem])) | refine Fin_self hcl rfl (Wk_eq ?_ (by simp only [go_sem]))
    try simp only [go_sem]
    all_goals
      first | rfl | (simp_all; done) | (simp_all; omega)
  · -- c1 false
    try simp only [nrm] at c1
    exfalso
    omega
set_option maxHeartbeats 2000000 in
theorem Roll_hi (Y : YEnv) (σ : Sg) (d : Nat) (b : Int) (hd : σ.store[d]? = some (some [.int .u64 b])) (n : Int) (hn : 2 ≤ n) (hn2 : n < 2 ^ 62) :
    PC Tryz.prog Y 22 [.ptr d 0, I n] σ (I ((hitX b / 2) % n)) (σ.setVar d [.int .u64 (hitB b)]) := by
  refine PC_of_W Tryz.func22 rfl (by kernel_rfl) Tryz.ntmps22 (by simp) fun hcl hca => ?_
  have hlt := lt_of_get hd
  have hb := hitX_bd b
  have e1 : (hitX b).fdiv 2 = hitX b / 2 := Int.fdiv_eq_ediv_of_nonneg _ (by omega)
  have e2 : (hitX b / 2).tmod n = (hitX b / 2) % n := Int.tmod_eq_emod_of_nonneg (by omega)
  have h1 := Int.emod_nonneg (hitX b / 2) (show n ≠ 0 by omega)
  have h2 := Int.emod_lt_of_pos (hitX b / 2) (show 0 < n by omega)
  have e3 : ¬ n = 0 := by omega
  have e4 : IntKind.u64.wrap n = n := wrapU (by omega) (by omega)
  refine W_seq fun kz1 kq1 => ?_
  refine W_region [0, 1] fun R hR => ?_   -- r0
  simp only [go_sem, ldS_at hd, stX_at hd, ldS_sv hlt, stX_sv hlt, sv_ext hlt, sv_ext_sv hlt]
  refine hR _ _ (kq1 _ _ ?_); clear hR R; try clear kq1 kz1
  try simp only [go_sem, ldS_at hd, stX_at hd, ldS_sv hlt, stX_sv hlt, sv_ext hlt, sv_ext_sv hlt]
  refine W_seq fun kz2 kq2 => ?_
  refine W_seq fun kz3 kq3 => ?_
  refine W_region [0, 1, 6] fun R hR => ?_   -- r1
  simp only [go_sem, ldS_at hd, stX_at hd, ldS_sv hlt, stX_sv hlt, sv_ext hlt, sv_ext_sv hlt]
  refine hR _ _ (kq3 _ _ ?_); clear hR R; try clear kq3 kz3
  try simp only [go_sem, ldS_at hd, stX_at hd, ldS_sv hlt, stX_sv hlt, sv_ext hlt, sv_ext_sv hlt]
  refine W_cond rfl (fun c1 => ?_) (fun c1 => ?_)
  · -- c1 true
    try simp only [nrm] at c1
    exfalso
    omega
  · -- c1 false
    try simp only [nrm] at c1
    refine W_skip (kq2 _ _ ?_)
    refine W_seq fun kz4 kq4 => ?_
    refine W_region [4] fun R hR => ?_   -- r3
    simp only [go_sem, ldS_at hd, stX_at hd, ldS_sv hlt, stX_sv hlt, sv_ext hlt, sv_ext_sv hlt, e4, e1, e2, e3]
    refine GCall_of (hit_pc Y _ d b hd) ?_   -- t8
    simp only [go_sem, ldS_at hd, stX_at hd, ldS_sv hlt, stX_sv hlt, sv_ext hlt, sv_ext_sv hlt, e4, e1, e2, e3]
    try simp (disch := omega) only [wrapI, wrapU]
    refine hR _ _ (kq4 _ _ ?_); clear hR R; try clear kq4 kz4
    try simp only [go_sem, ldS_at hd, stX_at hd, ldS_sv hlt, stX_sv hlt, sv_ext hlt, sv_ext_sv hlt]
    refine W_ret ?_
    simp only [go_sem, ldS_at hd, stX_at hd, ldS_sv hlt, stX_sv hlt, sv_ext hlt, sv_ext_sv hlt]
    refine ⟨.inr (by trivial), ?_⟩
    first | refine Fin_set hcl (by simp only [go_sem]) rfl (Wk_eq ?_ (by simp only [go_sem])) | refine Fin_set0 hcl (by simp only [go_sem]) rfl (Wk_eq ?_ (by simp only [go_sem]))
    try simp only [go_sem]
    all_goals
      first | rfl | (simp_all; done) | (simp_all; omega)
theorem Roll_pc (Y : YEnv) (σ : Sg) (d : Nat) (b : Int) (hd : σ.store[d]? = some (some [.int .u64 b])) (n : Int) (hn2 : n < 2 ^ 62) : PC Tryz.prog Y 22 [.ptr d 0, I n] σ (I (roll n b).1) (σ.setVar d [.int .u64 (roll n b).2]) := by
  rw [roll_eq]
  dsimp only
  by_cases h : n < 2
  · rw [if_pos h]; simp only []; rw [sv_self hd]; exact Roll_lo Y σ d n h
  · rw [if_neg h]; exact Roll_hi Y σ d b hd n (by omega) hn2
set_option maxHeartbeats 2000000 in
theorem Mid_pc (Y : YEnv) (σ : Sg) (d : Nat) (b : Int) (hd : σ.store[d]? = some (some [.int .u64 b])) (lo hi : Int) (h1 : -2 ^ 60 ≤ lo) (h2 : lo ≤ 2 ^ 60) (h3 : -2 ^ 60 ≤ hi) (h4 : hi ≤ 2 ^ 60) :
    PC Tryz.prog Y 24 [.ptr d 0, I lo, I hi] σ (I (mid lo hi b).1) (σ.setVar d [.int .u64 (mid lo hi b).2]) := by
  refine PC_of_W Tryz.func24 rfl (by kernel_rfl) Tryz.ntmps24 (by simp) fun hcl hca => ?_
  have hlt := lt_of_get hd
  have hr := roll_bd (hi - lo + 1) b
  simp only [] at hr
  refine W_seq fun kz1 kq1 => ?_
  refine W_region [0, 1, 2] fun R hR => ?_   -- r0
  simp only [go_sem, ldS_at hd, stX_at hd, ldS_sv hlt, stX_sv hlt, sv_ext hlt, sv_ext_sv hlt]
  refine hR _ _ (kq1 _ _ ?_); clear hR R; try clear kq1 kz1
  try simp only [go_sem, ldS_at hd, stX_at hd, ldS_sv hlt, stX_sv hlt, sv_ext hlt, sv_ext_sv hlt]
  refine W_seq fun kz2 kq2 => ?_
  refine W_region [6] fun R hR => ?_   -- r1
  simp only [go_sem, ldS_at hd, stX_at hd, ldS_sv hlt, stX_sv hlt, sv_ext hlt, sv_ext_sv hlt]
  try simp (disch := omega) only [wrapI, wrapU]
  refine GCall_of (Roll_pc Y _ d b (by first | exact hd | exact sv_get hlt | exact get_svx hlt | exact get_extx hd) _ (by omega)) ?_   -- t13
  simp only [go_sem, ldS_at hd, stX_at hd, ldS_sv hlt, stX_sv hlt, sv_ext hlt, sv_ext_sv hlt]
  try simp (disch := omega) only [wrapI, wrapU]
  refine hR _ _ (kq2 _ _ ?_); clear hR R; try clear kq2 kz2
  try simp only [go_sem, ldS_at hd, stX_at hd, ldS_sv hlt, stX_sv hlt, sv_ext hlt, sv_ext_sv hlt]
  refine W_ret ?_
  simp only [go_sem, ldS_at hd, stX_at hd, ldS_sv hlt, stX_sv hlt, sv_ext hlt, sv_ext_sv hlt]
  refine ⟨.inr (by trivial), ?_⟩
  first | refine Fin_set hcl (by simp only [go_sem]) rfl (Wk_eq ?_ (by simp only [go_sem])) | refine Fin_set0 hcl (by simp only [go_sem]) rfl (Wk_eq ?_ (by simp only [go_sem]))
  try simp only [go_sem]
  all_goals
    first | rfl | (simp_all; done) | (simp_all; omega)
set_option maxHeartbeats 2000000 in
theorem Any_pc (Y : YEnv) (σ : Sg) (d : Nat) (b : Int) (hd : σ.store[d]? = some (some [.int .u64 b])) (l : List Int) (hl : l ≠ []) (hl2 : l.length < 2 ^ 50) :
    PC Tryz.prog Y 53 [.ptr d 0, .isl (l.map I) .exact] σ (I (anyOf l b).1) (σ.setVar d [.int .u64 (anyOf l b).2]) := by
  refine PC_of_W Tryz.func53 rfl (by kernel_rfl) Tryz.ntmps53 (by simp) fun hcl hca => ?_
  have hlt := lt_of_get hd
  have hr := roll_bd l.length b
  simp only [] at hr
  have hl0 : 0 < l.length := by cases l with | nil => exact absurd rfl hl | cons => simp
  have hlt2 : (roll (l.length : Int) b).1.toNat < l.length := by omega
  obtain ⟨x, hx⟩ : ∃ x, l[(roll (l.length : Int) b).1.toNat]? = some x := ⟨_, List.getElem?_eq_getElem hlt2⟩
  have hnn := hr.1
  refine W_seq fun kz1 kq1 => ?_
  refine W_region [0, 1] fun R hR => ?_   -- r0
  simp only [go_sem, ldS_at hd, stX_at hd, ldS_sv hlt, stX_sv hlt, sv_ext hlt, sv_ext_sv hlt]
  refine hR _ _ (kq1 _ _ ?_); clear hR R; try clear kq1 kz1
  try simp only [go_sem, ldS_at hd, stX_at hd, ldS_sv hlt, stX_sv hlt, sv_ext hlt, sv_ext_sv hlt]
  refine W_seq fun kz2 kq2 => ?_
  refine W_seq fun kz3 kq3 => ?_
  refine W_region [0, 1, 7] fun R hR => ?_   -- r1
  simp only [go_sem, ldS_at hd, stX_at hd, ldS_sv hlt, stX_sv hlt, sv_ext hlt, sv_ext_sv hlt]
  refine hR _ _ (kq3 _ _ ?_); clear hR R; try clear kq3 kz3
  try simp only [go_sem, ldS_at hd, stX_at hd, ldS_sv hlt, stX_sv hlt, sv_ext hlt, sv_ext_sv hlt]
  refine W_cond rfl (fun c1 => ?_) (fun c1 => ?_)
  · -- c1 true
    try simp only [nrm] at c1
    exfalso
    omega
  · -- c1 false
    try simp only [nrm] at c1
    refine W_skip (kq2 _ _ ?_)
    refine W_seq fun kz4 kq4 => ?_
    refine W_region [4] fun R hR => ?_   -- r3
    simp only [go_sem, ldS_at hd, stX_at hd, ldS_sv hlt, stX_sv hlt, sv_ext hlt, sv_ext_sv hlt, hnn, hx]
    refine GCall_of (Roll_pc Y _ d b (by first | exact hd | exact sv_get hlt | exact get_svx hlt | exact get_extx hd) _ (by omega)) ?_   -- t12
    simp only [go_sem, ldS_at hd, stX_at hd, ldS_sv hlt, stX_sv hlt, sv_ext hlt, sv_ext_sv hlt, hnn, hx]
    refine hR _ _ (kq4 _ _ ?_); clear hR R; try clear kq4 kz4
    try simp only [go_sem, ldS_at hd, stX_at hd, ldS_sv hlt, stX_sv hlt, sv_ext hlt, sv_ext_sv hlt]
    refine W_ret ?_
    simp only [go_sem, ldS_at hd, stX_at hd, ldS_sv hlt, stX_sv hlt, sv_ext hlt, sv_ext_sv hlt]
    refine ⟨.inr (by trivial), ?_⟩
    first | refine Fin_set hcl (by simp only [go_sem]) rfl (Wk_eq ?_ (by simp only [go_sem])) | refine Fin_set0 hcl (by simp only [go_sem]) rfl (Wk_eq ?_ (by simp only [go_sem]))
    try simp only [go_sem]
    all_goals
      simp only [anyOf, hx, Option.getD_some]
end Go.Proofs.YtgelnjmddabgpaaGreat
