/-
  Walks: totals, places, who wins, who is missing (marks).
  Walks: standings sorted, as the library does it with few of them (marks).
  Walks: places, who wins, the table (marks).
  Standings sorted: each school once, nobody behind one that it is ahead of. The plain law.
  A decided night: places are places in the table.
  Regions in which what is known may be weakened after some operations.
  Numbers that follow from numbers (bateriakit): the drum.
  Walks: drums made of numbers, spans (bateriakit).
  Walks: an order made of numbers (bateriakit).
  Walks: scales and seals, as the document has them.
  Walks: scales, marks, envelopes made of numbers (bateriakit).
  Walks: nights made of numbers (bateriakit).
-/
import Derived.Test.YtgelnjmddabgpaaGreatPd
import Derived.CallsIn
import Derived.RangeFuncLeaves
import Derived.RangeFuncRecord
import Derived.OrdersIn
import Derived.Below
import Derived.Laws.World
import Derived.Laws.StructEq
import Derived.Laws.Append
import Derived.MapKept
import Derived.ProofKit
import Derived.Carry
import Derived.Handed
import Derived.ChangeCalls
import Derived.RangeFuncIn
import Derived.RangeFuncNested
import Derived.Test.YtgelnjmddabgpaaGreatProg
import Derived.KernelRfl
import Derived.IntWalk
import Derived.Test.YtgelnjmddabgpaaGreatRows
import Derived.Sort.OwnSortedInts
import Derived.Lib.SlicesCompact
import Derived.Shelf.Sort.Plain
import Derived.Shelf.Slices.In.SortNone
import Derived.Shelf.Small.Bits
import Derived.JoinedOf
set_option linter.unusedSimpArgs false
set_option linter.unusedVariables false
namespace Go.Proofs.YtgelnjmddabgpaaGreat
open Go Go.RowKit
set_option maxRecDepth 100000
theorem aput_ok {s : Scale} {k : Kn} (hk : KnOk s k) {j : Int × Int} {l : List Int} (hl : l = [] ∨ ((l.length : Int) = s.schools ∧ ∀ x, x ∈ l → s.low ≤ x ∧ x ≤ s.high)) : KnOk s (aput j l k) := fun e he => by
  rcases aput_mem he with rfl | he
  · exact hl
  · exact hk e he
theorem openK_ok {s : Scale} : ∀ {l : List Envl} {k : Kn}, KnOk s k → KnOk s (openK s l k).2 := by
  intro l
  induction l with
  | nil => intro k h; exact h
  | cons x l ih =>
    intro k h
    simp only [openK]
    split
    · exact h
    · rename_i h1
      split
      · exact h
      · obtain ⟨_, q2, q3⟩ := marked_ok (s := s) (j := (x.matter, x.judge)) (l := x.marks) (by omega)
        have hn := ih (aput_ok (j := (x.matter, x.judge)) h (.inr ⟨q2, q3⟩))
        repeat' split
        all_goals first | exact h | exact hn
theorem missK_ok {s : Scale} : ∀ {l : List (Int × Int)} {k : Kn}, KnOk s k → KnOk s (missK s l k).2 := by
  intro l
  induction l with
  | nil => intro k h; exact h
  | cons x l ih =>
    intro k h
    simp only [missK]
    split
    · exact h
    · split
      · exact h
      · exact ih (aput_ok h (.inl rfl))
theorem finesR_ok {s : Scale} : ∀ {l : List (Int × Int)}, finesR s l = 0 → ∀ f, f ∈ l → (0 ≤ f.1 ∧ f.1 ≤ s.schools - 1) ∧ 0 ≤ f.2 ∧ f.2 ≤ 1000 := by
  intro l
  induction l with
  | nil => intro _ f hf; cases hf
  | cons x l ih =>
    intro h f hf
    simp only [finesR] at h
    split at h
    · cases h
    · rename_i h1
      split at h
      · cases h
      · rename_i h2
        rcases List.mem_cons.1 hf with rfl | hf
        · simp only [Bool.not_eq_true, Bool.not_eq_false', inR_true] at h1 h2
          exact ⟨h1, h2⟩
        · exact ih h f hf
theorem known_V {s : Scale} {g : Night} (h : knownE s g = 0) : KnV s (knownK s g) g := by
  obtain ⟨hv, h1, h2, h3, h4, h5, h6⟩ := known_ok h
  unfold finesE at h6
  split at h6
  · cases h6
  · rename_i hf
    exact ⟨hv, missK_ok (openK_ok fun e he => by cases he), h5, by omega, finesR_ok h6⟩
theorem chkOrd_ok {m : Int} : ∀ {l p : List Int}, chkOrd m p l = 0 → (∀ x, x ∈ l → 0 ≤ x ∧ x ≤ m - 1) ∧ l.Nodup ∧ ∀ x, x ∈ l → x ∉ p := by
  intro l
  induction l with
  | nil => intro p _; exact ⟨fun x hx => (by cases hx), List.nodup_nil, fun x hx => (by cases hx)⟩
  | cons n l ih =>
    intro p h
    simp only [chkOrd] at h
    split at h
    · cases h
    · rename_i h1
      split at h
      · cases h
      · rename_i h2
        obtain ⟨a1, a2, a3⟩ := ih h
        simp only [Bool.not_eq_true, Bool.not_eq_false', inR_true] at h1
        refine ⟨fun x hx => ?_, List.nodup_cons.2 ⟨fun hm => a3 n hm (by simp), a2⟩, fun x hx hp => ?_⟩
        · rcases List.mem_cons.1 hx with rfl | hx
          · exact h1
          · exact a1 x hx
        · rcases List.mem_cons.1 hx with rfl | hx
          · exact h2 (has_iff.2 hp)
          · exact a3 x hx (List.mem_append.2 (.inl hp))
theorem ptsL_get {s : Scale} {M i : Nat} (hM : s.matters = M) (hi : i < M) (k : Kn) (sc u : Int) : (pointsL s k sc u)[i]? = some (pointsK s k sc i u) := by
  simp [pointsL, toI, hM, hi]
theorem fines_bd {s : Scale} {k : Kn} {g : Night} (hV : KnV s k g) (sc : Int) : 0 ≤ finesOf g.fines sc ∧ finesOf g.fines sc ≤ 10000 := by
  have := sumI_bd (b := 1000) (l := g.fines.map fun f => if f.1 = sc then f.2 else 0) fun x hx => by
    obtain ⟨f, hf, rfl⟩ := List.mem_map.1 hx
    have := hV.fi f hf
    split <;> omega
  have hl := hV.fl
  unfold finesOf
  simp only [List.length_map] at this
  omega
theorem stand_bd {s : Scale} {k : Kn} {g : Night} (hV : KnV s k g) {u : Int} (hu : 0 ≤ u ∧ u ≤ 100) (sc : Int) : -10000 ≤ (standK s k g sc u).total ∧ (standK s k g sc u).total ≤ 3000 := by
  have h1 := sumI_bd (b := 500) (l := pointsL s k sc u) fun x hx => by
    obtain ⟨m, _, rfl⟩ := List.mem_map.1 hx
    exact points_bd hV.v hV.ok hu sc m
  have h2 := fines_bd hV sc
  have q := hV.v.mt
  have hl : (pointsL s k sc u).length = s.matters.toNat := by simp [pointsL, toI]
  simp only [standK]
  rw [hl] at h1
  omega
theorem cmp_ok {s : Scale} {k : Kn} {g : Night} (hV : KnV s k g) {u v : Int} (hu : 0 ≤ u ∧ u ≤ 100) (hv : 0 ≤ v ∧ v ≤ 100) {a b : Int} (ha : 0 ≤ a ∧ a < s.schools) (hb : 0 ≤ b ∧ b < s.schools) : CmpOk s.order (standK s k g a u) (standK s k g b v) := by
  have q1 := hV.v.mt
  have q3 := hV.v.sc
  have h1 := stand_bd hV hu a
  have h2 := stand_bd hV hv b
  obtain ⟨M, hM⟩ : ∃ z : Nat, s.matters = z := ⟨s.matters.toNat, by omega⟩
  refine ⟨by omega, by omega, by simp only [standK]; omega, by simp only [standK]; omega, fun m hm => ?_⟩
  have := (chkOrd_ok hV.v.od).1 m hm
  obtain ⟨i, rfl⟩ : ∃ i : Nat, m = i := ⟨m.toNat, by omega⟩
  have p1 := points_bd hV.v hV.ok hu a i
  have p2 := points_bd hV.v hV.ok hv b i
  exact ⟨i, _, _, rfl, ptsL_get hM (by omega) k a u, ptsL_get hM (by omega) k b v, by omega, by omega⟩
def spUp (s : Scale) (k : Kn) (g : Night) (i : Nat) : List (Int × Int) := (List.range i).map fun (j : Nat) => ((standK s k g j s.low).total, (standK s k g j s.high).total)
theorem spUp_succ (s : Scale) (k : Kn) (g : Night) (i : Nat) : spUp s k g (i + 1) = spUp s k g i ++ [((standK s k g i s.low).total, (standK s k g i s.high).total)] := by simp [spUp, List.range_succ]
def plUp (s : Scale) (k : Kn) (g : Night) (sc own oth : Int) (i : Nat) : Nat := (((List.range i).map fun (j : Nat) => (j : Int)).filter fun j => decide (j ≠ sc) && decide (cmpSt s.order (standK s k g j oth) (standK s k g sc own) < 0)).length
theorem plUp_succ (s : Scale) (k : Kn) (g : Night) (sc own oth : Int) (i : Nat) : plUp s k g sc own oth (i + 1) = plUp s k g sc own oth i + (if (decide ((i : Int) ≠ sc) && decide (cmpSt s.order (standK s k g i oth) (standK s k g sc own) < 0)) = true then 1 else 0) := by
  unfold plUp
  rw [List.range_succ, List.map_append, List.filter_append, List.length_append]
  congr 1
  simp only [List.map_cons, List.map_nil, List.filter_cons, List.filter_nil]
  split <;> rfl
theorem plUp_le (s : Scale) (k : Kn) (g : Night) (sc own oth : Int) (i : Nat) : plUp s k g sc own oth i ≤ i := by
  unfold plUp
  refine Nat.le_trans (List.length_filter_le _ _) (by simp)
theorem plUp_all {s : Scale} {N : Nat} (hN : s.schools = N) (k : Kn) (g : Night) (sc own oth : Int) : placeK s k g sc own oth = 1 + (plUp s k g sc own oth N : Int) := by
  simp only [placeK, plUp, toI, hN, Int.toNat_natCast]
set_option maxHeartbeats 2000000 in
theorem totE_pc (Y : YEnv) (σ : Sg) (s : Scale) (g : Night) (hs : s.Ok) (hg : g.Ok) (hE : knownE s g ≠ 0) :
    PC Tryz.prog Y 26 [scPV s, ngPV g] σ (.tuple [sts [], I (knownE s g)]) (σ) := by
  refine PC_of_W Tryz.func26 rfl (by kernel_rfl) Tryz.ntmps26 (by simp) fun hcl hca => ?_
  refine W_seq fun kz1 kq1 => ?_
  refine W_region [2, 3] fun R hR => ?_   -- r0
  simp only [go_sem]
  refine hR _ _ (kq1 _ _ ?_); clear hR R; try clear kq1 kz1
  try simp only [go_sem]
  refine W_seq fun kz2 kq2 => ?_
  refine W_region [2, 3, 6, 7] fun R hR => ?_   -- r1
  simp only [go_sem]
  refine GCall_of (knownOf_err Y _ s g hs hg hE) ?_   -- t13
  simp only [go_sem]
  refine hR _ _ (kq2 _ _ ?_); clear hR R; try clear kq2 kz2
  try simp only [go_sem]
  refine W_seq fun kz3 kq3 => ?_
  refine W_seq fun kz4 kq4 => ?_
  refine W_region [2, 3, 6, 7, 17] fun R hR => ?_   -- r2
  simp only [go_sem]
  refine hR _ _ (kq4 _ _ ?_); clear hR R; try clear kq4 kz4
  try simp only [go_sem]
  refine W_cond rfl (fun c1 => ?_) (fun c1 => ?_)
  · -- c1 true
    try simp only [nrm] at c1
    refine W_seq fun kz5 kq5 => ?_
    refine W_region [4, 5] fun R hR => ?_   -- r3
    simp only [go_sem]
    refine hR _ _ (kq5 _ _ ?_); clear hR R; try clear kq5 kz5
    try simp only [go_sem]
    refine W_ret ?_
    simp only [go_sem]
    refine ⟨.inr (by trivial), ?_⟩
    refine Fin_same hcl rfl (Wk.ro (by simp only [go_sem]) ?_)
    try simp only [go_sem]
    all_goals
      first | rfl | (simp [PV.ro, PV.roL]; done)
  · -- c1 false
    try simp only [nrm] at c1
    exfalso
    first | exact hE (by omega) | (simp at c1; exact hE (by omega))
set_option maxHeartbeats 2000000 in
theorem totO_pc (Y : YEnv) (σ : Sg) (s : Scale) (g : Night) (hs : s.Ok) (hg : g.Ok) (hE : knownE s g = 0) :
    PC Tryz.prog Y 26 [scPV s, ngPV g] σ (.tuple [sts ((toI s.schools).map fun i => ((standK s (knownK s g) g i s.low).total, (standK s (knownK s g) g i s.high).total)), I 0]) (σ) := by
  refine PC_of_W Tryz.func26 rfl (by kernel_rfl) Tryz.ntmps26 (by simp) fun hcl hca => ?_
  have hV := known_V hE
  obtain ⟨K, hK⟩ : ∃ z, knownK s g = z := ⟨_, rfl⟩
  rw [hK] at hV
  have hv := hV.v
  have q3 := hv.sc
  have q4 := hv.lo
  have q5 := hv.hi
  obtain ⟨N, hN⟩ : ∃ z : Nat, s.schools = z := ⟨s.schools.toNat, by omega⟩
  have hNi : (s.schools : Int) = (N : Int) := hN
  have hkn := fun Y σ => knownOf_ok Y σ s g hs hg hE
  rw [hK] at hkn
  rw [hK]
  have hall : ((toI s.schools).map fun i => ((standK s K g i s.low).total, (standK s K g i s.high).total)) = spUp s K g N := by simp only [toI, hN, Int.toNat_natCast, spUp, List.map_map]; rfl
  rw [hall]
  refine W_seq fun kz1 kq1 => ?_
  refine W_region [2, 3] fun R hR => ?_   -- r0
  simp only [go_sem]
  refine hR _ _ (kq1 _ _ ?_); clear hR R; try clear kq1 kz1
  try simp only [go_sem]
  refine W_seq fun kz2 kq2 => ?_
  refine W_region [2, 3, 6, 7] fun R hR => ?_   -- r1
  simp only [go_sem]
  refine GCall_of (hkn Y _) ?_   -- t13
  simp only [go_sem]
  refine hR _ _ (kq2 _ _ ?_); clear hR R; try clear kq2 kz2
  try simp only [go_sem]
  refine W_seq fun kz3 kq3 => ?_
  refine W_seq fun kz4 kq4 => ?_
  refine W_region [2, 3, 6, 7, 17] fun R hR => ?_   -- r2
  simp only [go_sem]
  refine hR _ _ (kq4 _ _ ?_); clear hR R; try clear kq4 kz4
  try simp only [go_sem]
  refine W_cond_false rfl ?_
  refine W_skip (kq3 _ _ ?_)
  refine W_seq fun kz5 kq5 => ?_
  refine W_region [2, 3, 6, 8] fun R hR => ?_   -- r4
  simp only [go_sem]
  refine hR _ _ (kq5 _ _ ?_); clear hR R; try clear kq5 kz5
  try simp only [go_sem]
  refine W_seq fun kz6 kq6 => ?_
  refine W_seq fun kz7 kq7 => ?_
  refine W_region [2, 3, 6, 8, 20, 21] fun R hR => ?_   -- r5
  simp only [go_sem]
  refine hR _ _ (kq7 _ _ ?_); clear hR R; try clear kq7 kz7
  try simp only [go_sem]
  refine W_block ?_
  refine W_weak (Weak.room (t := 8) (es := 2) rfl (by simp)) ?_
  refine W_weak (Weak.keep [2, 3, 6, 8, 20, 21]) ?_
  simp only [go_sem]
  refine W_loopT (α := Nat) (fun (i : Nat) => [(8, .isl ((spUp s K g i).map stPV) (.tok σ.rooms.length i 2)), (21, I i)]) (fun (i : Nat) => σ.ext [some (scCells s), some (ngCells g), some (scCells s), some (ngCells g), some (.mark :: knE K)] [i]) (fun (i : Nat) => i ≤ N) (fun (i : Nat) => N - i) (0) rfl (by first | rfl | (simp only [go_sem]; done) | (simp only [go_sem]; rfl)) (Nat.zero_le _) ?_
  rintro i hi
  have hsl : (spUp s K g i).length = i := by simp [spUp]
  refine W_seq fun kz8 kq8 => ?_
  refine W_region [2, 3, 6, 8, 20, 21, 22] fun R hR => ?_   -- r6
  simp only [go_sem]
  refine hR _ _ (kq8 _ _ ?_); clear hR R; try clear kq8 kz8
  try simp only [go_sem]
  refine W_seq fun kz9 kq9 => ?_
  refine W_cond rfl (fun c1 => ?_) (fun c1 => ?_)
  · -- c1 true
    try simp only [nrm] at c1
    have hiN : i < N := by first | omega | (simp at c1; omega)
    have hsu := spUp_succ s K g i
    refine W_skip (kq9 _ _ ?_)
    refine W_seq fun kz10 kq10 => ?_
    refine W_block ?_
    refine W_seq fun kz11 kq11 => ?_
    refine W_region [2, 3, 6, 8, 9, 20, 21] fun R hR => ?_   -- r7
    simp only [go_sem]
    refine hR _ _ (kq11 _ _ ?_); clear hR R; try clear kq11 kz11
    try simp only [go_sem]
    refine W_draw [2, 3, 6, 8, 20, 21] [0, 1, 2, 3, 4, 5, 6, 7, 8, 9, 10, 11, 12, 13, 14, 15, 16, 17, 18, 19, 20] [(0, 15), (0, 19), (8, 19), (9, 7), (10, 7), (11, 7), (12, 7), (13, 7), (14, 7)] [[], [], [], [], [], [], [5], [1, 2, 3, 4, 5, 6], [1, 2, 3, 4, 5, 6, 7], [], [], [], [], [], [13], [1, 2, 3, 4, 5, 6, 7, 9, 10, 11, 12, 13, 14], [1, 2, 3, 4, 5, 6, 7, 9, 10, 11, 12, 13, 14, 15], [1, 2, 3, 4, 5, 6, 7, 8, 9, 10, 11, 12, 13, 14, 15, 16], [1, 2, 3, 4, 5, 6, 7, 8, 9, 10, 11, 12, 13, 14, 15, 16, 17], [0, 1, 2, 3, 4, 5, 6, 7, 8, 9, 10, 11, 12, 13, 14, 15, 16, 17, 18], [0, 1, 2, 3, 4, 5, 6, 7, 8, 9, 10, 11, 12, 13, 14, 15, 16, 17, 18, 19]] mixed (by kernel_rfl) fun R hR => ?_   -- r8
    simp only [go_sem]
    refine GCall_of (standing_pc Y _ (σ.store.length + 4) K (Sg.get_ext ..) s g hV i (by omega) s.low (by omega)) ?_   -- t31
    simp only [go_sem]
    refine GCall_of (standing_pc Y _ (σ.store.length + 4) K (Sg.get_ext ..) s g hV i (by omega) s.high (by omega)) ?_   -- t39
    simp only [go_sem]
    try simp (disch := first | omega | (simp only [go_sem] <;> omega)) only [wrapI, wrapU, appX_exact, appX_tok]
    try simp only [go_sem]
    try refine And.intro (by repeat' (first | refine And.intro ?_ ?_ | exact GOr_right (fun _ => by simp only [go_sem]))) ?_
    refine hR _ _ (kq10 _ _ ?_); clear hR R; try clear kq10 kz10
    try simp only [go_sem]
    refine W_region [2, 3, 6, 8, 20, 21] fun R hR => ?_   -- r9
    simp only [go_sem]
    try simp (disch := omega) only [wrapI, wrapU]
    refine hR _ _ ?_; clear hR R
    try simp only [go_sem]
    refine ⟨i + 1, ?_, by (try simp only []); omega, ?_⟩
    · refine Weak.eq ?_ (by simp only [go_sem])
      simp only [go_sem, hsu, List.map_append]
      rfl
    · try dsimp only
      omega
  · -- c1 false
    try simp only [nrm] at c1
    have hie : N = i := by first | omega | (simp at c1; omega)
    subst hie
    refine W_exit ?_
    simp only [go_sem]
    refine kq6 _ _ ?_
    refine W_seq fun kz12 kq12 => ?_
    refine W_region [4, 5] fun R hR => ?_   -- r10
    simp only [go_sem]
    refine hR _ _ (kq12 _ _ ?_); clear hR R; try clear kq12 kz12
    try simp only [go_sem]
    refine W_ret ?_
    simp only [go_sem]
    refine ⟨.inr (by trivial), ?_⟩
    refine Fin_same hcl rfl (Wk.ro (by simp only [go_sem]) ?_)
    try simp only [go_sem]
    all_goals
      simp only [go_sem]
theorem Totals_pc (Y : YEnv) (σ : Sg) (s : Scale) (g : Night) (hs : s.Ok) (hg : g.Ok) : PC Tryz.prog Y 26 [scPV s, ngPV g] σ (.tuple [sts (totalsA s g).1, I (totalsA s g).2]) σ := by
  unfold totalsA
  by_cases h : knownE s g = 0
  · rw [if_neg (by simpa using h)]; exact totO_pc Y σ s g hs hg h
  · rw [if_pos h]; exact totE_pc Y σ s g hs hg h
set_option maxHeartbeats 4000000 in
theorem place1_pc (Y : YEnv) (σ : Sg) (ik id ib ic ie : Nat) (s : Scale) (k : Kn) (g : Night) (hV : KnV s k g) (sc : Nat) (hsc : (sc : Int) < s.schools) (own oth : Int) (ho : 0 ≤ own ∧ own ≤ 100) (ht : 0 ≤ oth ∧ oth ≤ 100) (h0 : σ.store[ik]? = some (some [.map id])) (hd : σ.store[id]? = some (some (.mark :: knE k))) (hb : σ.store[ib]? = some (some (scCells s))) (hc : σ.store[ic]? = some (some (ngCells g))) (he : σ.store[ie]? = some (some [I sc])) :
    PC Tryz.prog Y 65 [I own, I oth, .ptr ik 0, .ptr ib 0, .ptr ic 0, .ptr ie 0] σ (I (placeK s k g sc own oth)) (σ) := by
  refine PC_of_W Tryz.func65 rfl (by kernel_rfl) Tryz.ntmps65 (by simp) fun hcl hca => ?_
  have q3 := hV.v.sc
  have hol := hV.v.ol
  have q1 := hV.v.mt
  obtain ⟨N, hN⟩ : ∃ z : Nat, s.schools = z := ⟨s.schools.toNat, by omega⟩
  have hNi : (s.schools : Int) = (N : Int) := hN
  have hpl := plUp_all hN k g sc own oth
  refine W_seq fun kz1 kq1 => ?_
  refine W_region [0, 1, 2, 3, 4, 5] fun R hR => ?_   -- r0
  simp only [go_sem, ldS_at h0, ldA_at hb, ldA_at hc, ldS_at he, ldS_at hb, ldS_at (get_extx h0), ldA_at (get_extx hb), ldA_at (get_extx hc), ldS_at (get_extx he), ldS_at (get_extx hb)]
  refine hR _ _ (kq1 _ _ ?_); clear hR R; try clear kq1 kz1
  try simp only [go_sem, ldS_at h0, ldA_at hb, ldA_at hc, ldS_at he, ldS_at hb, ldS_at (get_extx h0), ldA_at (get_extx hb), ldA_at (get_extx hc), ldS_at (get_extx he), ldS_at (get_extx hb)]
  refine W_seq fun kz2 kq2 => ?_
  refine W_region [1, 2, 3, 4, 5, 9, 10] fun R hR => ?_   -- r1
  simp only [go_sem, ldS_at h0, ldA_at hb, ldA_at hc, ldS_at he, ldS_at hb, ldS_at (get_extx h0), ldA_at (get_extx hb), ldA_at (get_extx hc), ldS_at (get_extx he), ldS_at (get_extx hb)]
  refine GCall_of (standing_pc Y _ id k hd s g hV sc hsc own ho) ?_   -- t17
  simp only [go_sem, ldS_at h0, ldA_at hb, ldA_at hc, ldS_at he, ldS_at hb, ldS_at (get_extx h0), ldA_at (get_extx hb), ldA_at (get_extx hc), ldS_at (get_extx he), ldS_at (get_extx hb)]
  refine hR _ _ (kq2 _ _ ?_); clear hR R; try clear kq2 kz2
  try simp only [go_sem, ldS_at h0, ldA_at hb, ldA_at hc, ldS_at he, ldS_at hb, ldS_at (get_extx h0), ldA_at (get_extx hb), ldA_at (get_extx hc), ldS_at (get_extx he), ldS_at (get_extx hb)]
  refine W_seq fun kz3 kq3 => ?_
  refine W_seq fun kz4 kq4 => ?_
  refine W_region [1, 2, 3, 4, 5, 9, 10, 19, 20] fun R hR => ?_   -- r2
  simp only [go_sem, ldS_at h0, ldA_at hb, ldA_at hc, ldS_at he, ldS_at hb, ldS_at (get_extx h0), ldA_at (get_extx hb), ldA_at (get_extx hc), ldS_at (get_extx he), ldS_at (get_extx hb)]
  refine hR _ _ (kq4 _ _ ?_); clear hR R; try clear kq4 kz4
  try simp only [go_sem, ldS_at h0, ldA_at hb, ldA_at hc, ldS_at he, ldS_at hb, ldS_at (get_extx h0), ldA_at (get_extx hb), ldA_at (get_extx hc), ldS_at (get_extx he), ldS_at (get_extx hb)]
  refine W_block ?_
  refine W_loopS (α := Nat) (fun (i : Nat) => [(10, I (1 + (plUp s k g sc own oth i : Int))), (20, I i)]) (fun (i : Nat) => i ≤ N) (fun (i : Nat) => N - i) (0) rfl (Nat.zero_le _) ?_
  rintro i hi
  have hple := plUp_le s k g sc own oth i
  refine W_seq fun kz5 kq5 => ?_
  refine W_region [1, 2, 3, 4, 5, 9, 10, 19, 20, 21] fun R hR => ?_   -- r3
  simp only [go_sem, ldS_at h0, ldA_at hb, ldA_at hc, ldS_at he, ldS_at hb, ldS_at (get_extx h0), ldA_at (get_extx hb), ldA_at (get_extx hc), ldS_at (get_extx he), ldS_at (get_extx hb)]
  refine hR _ _ (kq5 _ _ ?_); clear hR R; try clear kq5 kz5
  try simp only [go_sem, ldS_at h0, ldA_at hb, ldA_at hc, ldS_at he, ldS_at hb, ldS_at (get_extx h0), ldA_at (get_extx hb), ldA_at (get_extx hc), ldS_at (get_extx he), ldS_at (get_extx hb)]
  refine W_seq fun kz6 kq6 => ?_
  refine W_cond rfl (fun c1 => ?_) (fun c1 => ?_)
  · -- c1 true
    try simp only [nrm] at c1
    have hiN : i < N := by first | omega | (simp at c1; omega)
    have hsu := plUp_succ s k g sc own oth i
    refine W_skip (kq6 _ _ ?_)
    refine W_seq fun kz7 kq7 => ?_
    refine W_block ?_
    refine W_seq fun kz8 kq8 => ?_
    refine W_region [1, 2, 3, 4, 5, 9, 10, 11, 19, 20] fun R hR => ?_   -- r4
    simp only [go_sem, ldS_at h0, ldA_at hb, ldA_at hc, ldS_at he, ldS_at hb, ldS_at (get_extx h0), ldA_at (get_extx hb), ldA_at (get_extx hc), ldS_at (get_extx he), ldS_at (get_extx hb)]
    refine hR _ _ (kq8 _ _ ?_); clear hR R; try clear kq8 kz8
    try simp only [go_sem, ldS_at h0, ldA_at hb, ldA_at hc, ldS_at he, ldS_at hb, ldS_at (get_extx h0), ldA_at (get_extx hb), ldA_at (get_extx hc), ldS_at (get_extx he), ldS_at (get_extx hb)]
    refine W_seq fun kz9 kq9 => ?_
    refine W_draw [1, 2, 3, 4, 5, 9, 10, 19, 20, 39] [0, 1, 2, 3, 4, 5, 6, 7, 8, 9, 10, 11, 12, 13, 14, 15, 16] [(4, 14), (5, 14), (6, 14), (13, 12)] [[], [], [0, 1], [0, 1, 2], [0, 1, 2, 3], [0, 1, 2, 3, 4], [0, 1, 2, 3, 4, 5], [0, 1, 2, 3], [0, 1, 2, 3], [0, 1, 2, 3], [0, 1, 2, 3], [0, 1, 2, 3], [0, 1, 2, 3, 7, 8, 9, 10, 11], [0, 1, 2, 3], [0, 1, 2, 3, 4, 5, 6, 7, 8, 9, 10, 11, 12, 13], [0, 1, 2, 3, 4, 5, 6, 7, 8, 9, 10, 11, 12, 13, 14], [0, 1, 2, 3, 4, 5, 6, 7, 8, 9, 10, 11, 12, 13, 14, 15]] mixed (by kernel_rfl) fun R hR => ?_   -- r5
    simp only [go_sem, ldS_at h0, ldA_at hb, ldA_at hc, ldS_at he, ldS_at hb, ldS_at (get_extx h0), ldA_at (get_extx hb), ldA_at (get_extx hc), ldS_at (get_extx he), ldS_at (get_extx hb)]
    refine GWant_split (fun g1 => ?_) (fun g1 => ?_)
    · try simp only [Bool.not_eq_true', Bool.not_eq_false'] at g1
      have n1 := g1; try simp only [nrm] at n1
      have hci : (i : Int) ≠ (sc : Int) := by intro e; rw [e] at g1; simp at g1
      simp only [go_sem, ldS_at h0, ldA_at hb, ldA_at hc, ldS_at he, ldS_at hb, ldS_at (get_extx h0), ldA_at (get_extx hb), ldA_at (get_extx hc), ldS_at (get_extx he), ldS_at (get_extx hb), g1]
      refine GCall_of (standing_pc Y _ id k (get_extx hd) s g hV i (by omega) oth ht) ?_   -- t35
      simp only [go_sem, ldS_at h0, ldA_at hb, ldA_at hc, ldS_at he, ldS_at hb, ldS_at (get_extx h0), ldA_at (get_extx hb), ldA_at (get_extx hc), ldS_at (get_extx he), ldS_at (get_extx hb), g1]
      refine GCall_of (compare_pc Y _ s.order (standK s k g i oth) (standK s k g sc own) (cmp_ok hV ht ho (by omega) (by omega)) (by omega)) ?_   -- t37
      simp only [go_sem, ldS_at h0, ldA_at hb, ldA_at hc, ldS_at he, ldS_at hb, ldS_at (get_extx h0), ldA_at (get_extx hb), ldA_at (get_extx hc), ldS_at (get_extx he), ldS_at (get_extx hb), g1]
      try refine And.intro (by repeat' (first | refine And.intro ?_ ?_ | exact GOr_right (fun _ => by simp only [go_sem, ldS_at h0, ldA_at hb, ldA_at hc, ldS_at he, ldS_at hb, ldS_at (get_extx h0), ldA_at (get_extx hb), ldA_at (get_extx hc), ldS_at (get_extx he), ldS_at (get_extx hb)]))) ?_
      refine hR _ _ (kq9 _ _ ?_); clear hR R; try clear kq9 kz9
      try simp only [go_sem, ldS_at h0, ldA_at hb, ldA_at hc, ldS_at he, ldS_at hb, ldS_at (get_extx h0), ldA_at (get_extx hb), ldA_at (get_extx hc), ldS_at (get_extx he), ldS_at (get_extx hb)]
      refine W_cond rfl (fun c2 => ?_) (fun c2 => ?_)
      · -- c2 true
        try simp only [nrm] at c2
        rw [if_pos (by rw [decide_eq_true hci, decide_eq_true (show cmpSt s.order (standK s k g i oth) (standK s k g sc own) < 0 by omega)]; rfl)] at hsu
        refine W_region [1, 2, 3, 4, 5, 9, 10, 19, 20] fun R hR => ?_   -- r6
        simp only [go_sem, ldS_at h0, ldA_at hb, ldA_at hc, ldS_at he, ldS_at hb, ldS_at (get_extx h0), ldA_at (get_extx hb), ldA_at (get_extx hc), ldS_at (get_extx he), ldS_at (get_extx hb)]
        try simp (disch := omega) only [wrapI, wrapU]
        refine hR _ _ (kq7 _ _ ?_); clear hR R; try clear kq7 kz7
        try simp only [go_sem, ldS_at h0, ldA_at hb, ldA_at hc, ldS_at he, ldS_at hb, ldS_at (get_extx h0), ldA_at (get_extx hb), ldA_at (get_extx hc), ldS_at (get_extx he), ldS_at (get_extx hb)]
        refine W_region [1, 2, 3, 4, 5, 9, 10, 19, 20] fun R hR => ?_   -- r7
        simp only [go_sem, ldS_at h0, ldA_at hb, ldA_at hc, ldS_at he, ldS_at hb, ldS_at (get_extx h0), ldA_at (get_extx hb), ldA_at (get_extx hc), ldS_at (get_extx he), ldS_at (get_extx hb)]
        try simp (disch := omega) only [wrapI, wrapU]
        refine hR _ _ ?_; clear hR R
        try simp only [go_sem, ldS_at h0, ldA_at hb, ldA_at hc, ldS_at he, ldS_at hb, ldS_at (get_extx h0), ldA_at (get_extx hb), ldA_at (get_extx hc), ldS_at (get_extx he), ldS_at (get_extx hb)]
        refine ⟨i + 1, ?_, by (try simp only []); omega, ?_⟩
        · refine Weak.eq ?_ rfl
          rw [hsu]
          try simp only [go_sem]
          first | done | rfl | (simp; done) | (simp; omega)
        · try dsimp only
          omega
      · -- c2 false
        try simp only [nrm] at c2
        rw [if_neg (by rw [decide_eq_false (show ¬ (cmpSt s.order (standK s k g i oth) (standK s k g sc own) < 0) by omega)]; simp)] at hsu
        refine W_skip (kq7 _ _ ?_)
        refine W_region [1, 2, 3, 4, 5, 9, 10, 19, 20] fun R hR => ?_   -- r7
        simp only [go_sem, ldS_at h0, ldA_at hb, ldA_at hc, ldS_at he, ldS_at hb, ldS_at (get_extx h0), ldA_at (get_extx hb), ldA_at (get_extx hc), ldS_at (get_extx he), ldS_at (get_extx hb)]
        try simp (disch := omega) only [wrapI, wrapU]
        refine hR _ _ ?_; clear hR R
        try simp only [go_sem, ldS_at h0, ldA_at hb, ldA_at hc, ldS_at he, ldS_at hb, ldS_at (get_extx h0), ldA_at (get_extx hb), ldA_at (get_extx hc), ldS_at (get_extx he), ldS_at (get_extx hb)]
        refine ⟨i + 1, ?_, by (try simp only []); omega, ?_⟩
        · refine Weak.eq ?_ rfl
          rw [hsu]
          try simp only [go_sem]
          first | done | rfl | (simp; done) | (simp; omega)
        · try dsimp only
          omega
    · try simp only [Bool.not_eq_true', Bool.not_eq_false'] at g1
      have n1 := g1; try simp only [nrm] at n1
      have hci : ¬ ((i : Int) ≠ (sc : Int)) := by intro e; apply e; simpa using g1
      rw [if_neg (by rw [decide_eq_false hci]; simp)] at hsu
      simp only [go_sem, ldS_at h0, ldA_at hb, ldA_at hc, ldS_at he, ldS_at hb, ldS_at (get_extx h0), ldA_at (get_extx hb), ldA_at (get_extx hc), ldS_at (get_extx he), ldS_at (get_extx hb), g1]
      try refine And.intro (by repeat' (first | refine And.intro ?_ ?_ | exact GOr_right (fun _ => by simp only [go_sem, ldS_at h0, ldA_at hb, ldA_at hc, ldS_at he, ldS_at hb, ldS_at (get_extx h0), ldA_at (get_extx hb), ldA_at (get_extx hc), ldS_at (get_extx he), ldS_at (get_extx hb)]))) ?_
      refine hR _ _ (kq9 _ _ ?_); clear hR R; try clear kq9 kz9
      try simp only [go_sem, ldS_at h0, ldA_at hb, ldA_at hc, ldS_at he, ldS_at hb, ldS_at (get_extx h0), ldA_at (get_extx hb), ldA_at (get_extx hc), ldS_at (get_extx he), ldS_at (get_extx hb)]
      refine W_cond_false rfl ?_
      refine W_skip (kq7 _ _ ?_)
      refine W_region [1, 2, 3, 4, 5, 9, 10, 19, 20] fun R hR => ?_   -- r7
      simp only [go_sem, ldS_at h0, ldA_at hb, ldA_at hc, ldS_at he, ldS_at hb, ldS_at (get_extx h0), ldA_at (get_extx hb), ldA_at (get_extx hc), ldS_at (get_extx he), ldS_at (get_extx hb)]
      try simp (disch := omega) only [wrapI, wrapU]
      refine hR _ _ ?_; clear hR R
      try simp only [go_sem, ldS_at h0, ldA_at hb, ldA_at hc, ldS_at he, ldS_at hb, ldS_at (get_extx h0), ldA_at (get_extx hb), ldA_at (get_extx hc), ldS_at (get_extx he), ldS_at (get_extx hb)]
      refine ⟨i + 1, ?_, by (try simp only []); omega, ?_⟩
      · refine Weak.eq ?_ rfl
        rw [hsu]
        try simp only [go_sem]
        first | done | rfl | (simp; done) | (simp; omega)
      · try dsimp only
        omega
  · -- c1 false
    try simp only [nrm] at c1
    have hie : N = i := by first | omega | (simp at c1; omega)
    subst hie
    refine W_exit ?_
    simp only [go_sem, ldS_at h0, ldA_at hb, ldA_at hc, ldS_at he, ldS_at hb, ldS_at (get_extx h0), ldA_at (get_extx hb), ldA_at (get_extx hc), ldS_at (get_extx he), ldS_at (get_extx hb)]
    refine kq3 _ _ ?_
    refine W_seq fun kz10 kq10 => ?_
    refine W_region [8] fun R hR => ?_   -- r8
    simp only [go_sem, ldS_at h0, ldA_at hb, ldA_at hc, ldS_at he, ldS_at hb, ldS_at (get_extx h0), ldA_at (get_extx hb), ldA_at (get_extx hc), ldS_at (get_extx he), ldS_at (get_extx hb)]
    refine hR _ _ (kq10 _ _ ?_); clear hR R; try clear kq10 kz10
    try simp only [go_sem, ldS_at h0, ldA_at hb, ldA_at hc, ldS_at he, ldS_at hb, ldS_at (get_extx h0), ldA_at (get_extx hb), ldA_at (get_extx hc), ldS_at (get_extx he), ldS_at (get_extx hb)]
    refine W_ret ?_
    simp only [go_sem, ldS_at h0, ldA_at hb, ldA_at hc, ldS_at he, ldS_at hb, ldS_at (get_extx h0), ldA_at (get_extx hb), ldA_at (get_extx hc), ldS_at (get_extx he), ldS_at (get_extx hb)]
    refine ⟨.inr (by trivial), ?_⟩
    first | refine Fin_same hcl rfl (Wk_eq ?_ (by simp only [go_sem])) | refine Fin_self hcl rfl (Wk_eq ?_ (by simp only [go_sem]))
    try simp only [go_sem]
    all_goals
      rw [hpl]
end Go.Proofs.YtgelnjmddabgpaaGreat
namespace Go.Proofs.YtgelnjmddabgpaaGreat
open Go Go.RowKit
set_option maxRecDepth 100000
theorem row3_cons (x : Stand) (l : List Stand) : rowC ((x :: l).map sdPV) = I x.school :: I x.total :: ints x.points :: rowC (l.map sdPV) := by simp [rowC, sdPV, sdCells]
theorem row3_len : ∀ l : List Stand, (rowC (l.map sdPV)).length = l.length * 3 := by
  intro l
  induction l with
  | nil => rfl
  | cons x l ih => rw [row3_cons]; simp only [List.length_cons, ih]; omega
theorem row3_ld : ∀ {l : List Stand} {j : Nat} {x : Stand}, l[j]? = some x → ((rowC (l.map sdPV)).drop (j * 3)).take 3 = [I x.school, I x.total, ints x.points] := by
  intro l
  induction l with
  | nil => intro j x h; simp at h
  | cons y l ih =>
    intro j x h
    rw [row3_cons]
    cases j with
    | zero =>
      simp only [List.getElem?_cons_zero, Option.some.injEq] at h
      subst h
      simp
    | succ j =>
      simp only [List.getElem?_cons_succ] at h
      rw [show (j + 1) * 3 = j * 3 + 1 + 1 + 1 by omega]
      simp only [List.drop_succ_cons]
      exact ih h
theorem row3_put (x : Stand) : ∀ {l : List Stand} {j : Nat}, j < l.length → (((rowC (l.map sdPV)).set (j * 3) (I x.school)).set (j * 3 + 1) (I x.total)).set (j * 3 + 1 + 1) (ints x.points) = rowC ((l.set j x).map sdPV) := by
  intro l
  induction l with
  | nil => intro j h; simp at h
  | cons y l ih =>
    intro j h
    rw [row3_cons]
    cases j with
    | zero =>
      have e : (y :: l).set 0 x = x :: l := rfl
      rw [e, row3_cons]; simp
    | succ j =>
      rw [List.set_cons_succ, row3_cons, show (j + 1) * 3 = j * 3 + 1 + 1 + 1 by omega]
      simp only [List.set_cons_succ]
      rw [ih (by simpa using h)]
theorem cA_row3 {a b c : Nat} {l : List Stand} : CleanAll a b c (rowC (l.map sdPV)) = True := eq_true fun p hp => by
  simp only [rowC, List.mem_flatMap, List.mem_map] at hp
  obtain ⟨q, ⟨x, _, rfl⟩, hp⟩ := hp
  exact cleans_sd x p hp
attribute [go_sem] cA_row3
theorem ld3 {σ : Sg} {id : Nat} (hlt : id < σ.store.length) {l : List Stand} {j : Nat} {x : Stand} (h : l[j]? = some x) : ldA 3 (σ.setVar id (rowC (l.map sdPV))) id (j * 3) = some (.agg [I x.school, I x.total, ints x.points]) := by
  have hj := (List.getElem?_eq_some_iff.1 h).1
  rw [ldA_at (sv_get hlt), if_pos (by rw [row3_len]; omega), row3_ld h]
/-- One standing sinks to its place. -/
def sink (ord : List Int) : Nat → List Stand → List Stand
  | 0, l => l
  | j + 1, l => match l[j + 1]?, l[j]? with
    | some x, some y => if cmpSt ord x y < 0 then sink ord j ((l.set (j + 1) y).set j x) else l
    | _, _ => l
def sinkAll (ord : List Int) : Nat → Nat → List Stand → List Stand
  | 0, _, l => l
  | k + 1, i, l => sinkAll ord k (i + 1) (sink ord i l)
def sortSd (ord : List Int) (l : List Stand) : List Stand := sinkAll ord (l.length - 1) 1 l
theorem mem_set2 {α : Type} {l : List α} {i j : Nat} {x y z : α} (hx : l[i]? = some x) (hy : l[j]? = some y) (h : z ∈ (l.set i y).set j x) : z ∈ l := by
  rcases List.mem_or_eq_of_mem_set h with h | h
  · rcases List.mem_or_eq_of_mem_set h with h | h
    · exact h
    · exact h ▸ List.mem_of_getElem? hy
  · exact h ▸ List.mem_of_getElem? hx
set_option maxHeartbeats 4000000 in
theorem insSort_pc (Y : YEnv) (σ : Sg) (id : Nat) (ord : List Int) (l : List Stand) (hd : σ.store[id]? = some (some (rowC (l.map sdPV)))) (hC : ∀ a b, a ∈ l → b ∈ l → CmpOk ord a b) (hol : ord.length < 2 ^ 40) (hl : 0 < l.length ∧ l.length ≤ 12) :
    PC Tryz.prog Y 102 [.gsl id l.length 3, I 0, I l.length, .func (.func 59) [.agg [ints ord]] []] σ (.tuple []) (σ.setVar id (rowC ((sortSd ord l).map sdPV))) := by
  refine PC_of_W Tryz.func102 rfl (by kernel_rfl) Tryz.ntmps102 (by simp) fun hcl hca => ?_
  have hlt := lt_of_get hd
  obtain ⟨res, hres⟩ : ∃ r, sortSd ord l = r := ⟨_, rfl⟩
  rw [hres]
  obtain ⟨n, hn⟩ : ∃ z, l.length = z := ⟨_, rfl⟩
  rw [hn] at hl ⊢
  refine W_seq fun kz1 kq1 => ?_
  refine W_region [0, 1, 2, 3, 8] fun R hR => ?_   -- r0
  simp only [go_sem, ldS_at hd, stX_at hd, ldS_sv hlt, stX_sv hlt, sv_ext hlt, sv_ext_sv hlt]
  try simp (disch := omega) only [wrapI, wrapU]
  refine hR _ _ (kq1 _ _ ?_); clear hR R; try clear kq1 kz1
  try simp only [go_sem, ldS_at hd, stX_at hd, ldS_sv hlt, stX_sv hlt, sv_ext hlt, sv_ext_sv hlt]
  refine W_block ?_
  refine W_loopT (α := Nat × (List Stand)) (fun ⟨i, m⟩ => [(8, I i)]) (fun ⟨i, m⟩ => σ.setVar id (rowC (m.map sdPV))) (fun ⟨i, m⟩ => 1 ≤ i ∧ i ≤ n ∧ m.length = n ∧ (∀ x, x ∈ m → x ∈ l) ∧ res = sinkAll ord (n - i) i m) (fun ⟨i, m⟩ => n - i) ((1, l)) rfl (by show σ.setVar id _ = σ; exact sv_self hd) (⟨Nat.le_refl _, by omega, hn, fun x hx => hx, by rw [← hres, sortSd, hn]⟩) ?_
  rintro ⟨i, m⟩ ⟨hi1, hi, hml, hmm, hinv⟩
  refine W_seq fun kz2 kq2 => ?_
  refine W_seq fun kz3 kq3 => ?_
  refine W_region [0, 1, 2, 3, 8, 14] fun R hR => ?_   -- r1
  simp only [go_sem, ldS_at hd, stX_at hd, ldS_sv hlt, stX_sv hlt, sv_ext hlt, sv_ext_sv hlt]
  refine hR _ _ (kq3 _ _ ?_); clear hR R; try clear kq3 kz3
  try simp only [go_sem, ldS_at hd, stX_at hd, ldS_sv hlt, stX_sv hlt, sv_ext hlt, sv_ext_sv hlt]
  refine W_cond rfl (fun c1 => ?_) (fun c1 => ?_)
  · -- c1 true
    try simp only [nrm] at c1
    have hin : i < n := by first | omega | (simp at c1; omega)
    rw [show n - i = (n - (i + 1)) + 1 by omega] at hinv
    simp only [sinkAll] at hinv
    refine W_skip (kq2 _ _ ?_)
    refine W_seq fun kz4 kq4 => ?_
    refine W_block ?_
    refine W_seq fun kz5 kq5 => ?_
    refine W_region [0, 1, 2, 3, 8, 9] fun R hR => ?_   -- r3
    simp only [go_sem, ldS_at hd, stX_at hd, ldS_sv hlt, stX_sv hlt, sv_ext hlt, sv_ext_sv hlt]
    refine hR _ _ (kq5 _ _ ?_); clear hR R; try clear kq5 kz5
    try simp only [go_sem, ldS_at hd, stX_at hd, ldS_sv hlt, stX_sv hlt, sv_ext hlt, sv_ext_sv hlt]
    refine W_block ?_
    refine W_loopT (α := Nat × (List Stand)) (fun ⟨j, m2⟩ => [(9, I j)]) (fun ⟨j, m2⟩ => σ.setVar id (rowC (m2.map sdPV))) (fun ⟨j, m2⟩ => j ≤ i ∧ m2.length = n ∧ (∀ x, x ∈ m2 → x ∈ l) ∧ sink ord i m = sink ord j m2) (fun ⟨j, m2⟩ => j) ((i, m)) rfl (by first | rfl | (simp only [go_sem]; done) | (simp only [go_sem]; rfl)) (⟨Nat.le_refl _, hml, hmm, rfl⟩) ?_
    rintro ⟨j, m2⟩ ⟨hj, hm2l, hm2, hsk⟩
    refine W_seq fun kz6 kq6 => ?_
    refine W_seq fun kz7 kq7 => ?_
    refine W_draw [0, 1, 2, 3, 8, 9, 34] [0, 1, 2, 3, 4, 5, 6, 7, 8, 9, 10, 11, 12, 13, 14, 15, 16] [] [[], [], [0, 1], [0, 1, 2], [0, 1, 2, 3], [0, 1, 2, 3], [0, 1, 2, 3], [0, 1, 2, 3, 5, 6], [0, 1, 2, 3, 5, 6, 7], [0, 1, 2, 3], [0, 1, 2, 3], [0, 1, 2, 3, 10], [0, 1, 2, 3, 9, 10, 11], [0, 1, 2, 3, 9, 10, 11, 12], [0, 1, 2, 3, 4, 5, 6, 7, 8, 9, 10, 11, 12, 13], [0, 1, 2, 3, 4, 5, 6, 7, 8, 9, 10, 11, 12, 13, 14], [0, 1, 2, 3, 4, 5, 6, 7, 8, 9, 10, 11, 12, 13, 14, 15]] mixed (by kernel_rfl) fun R hR => ?_   -- r4
    simp only [go_sem, ldS_at hd, stX_at hd, ldS_sv hlt, stX_sv hlt, sv_ext hlt, sv_ext_sv hlt]
    refine GWant_split (fun g1 => ?_) (fun g1 => ?_)
    · try simp only [Bool.not_eq_true', Bool.not_eq_false'] at g1
      have n1 := g1; try simp only [nrm] at n1
      obtain ⟨q, rfl⟩ : ∃ q, j = q + 1 := ⟨j - 1, by first | omega | (simp at g1; omega)⟩
      obtain ⟨x, hx⟩ : ∃ z, m2[q + 1]? = some z := ⟨m2[q + 1]'(by omega), by simp⟩
      obtain ⟨y, hy⟩ : ∃ z, m2[q]? = some z := ⟨m2[q]'(by omega), by simp⟩
      have hsk2 : sink ord (q + 1) m2 = if cmpSt ord x y < 0 then sink ord q ((m2.set (q + 1) y).set q x) else m2 := by simp only [sink, hx, hy]
      have hq1 : ((q + 1 : Nat) : Int) < (n : Int) := by omega
      have hq0 : ((q : Nat) : Int) < (n : Int) := by omega
      have hz1 : (0 : Int) ≤ ((q + 1 : Nat) : Int) := by omega
      have hqw : IntKind.i64.wrap (((q + 1 : Nat) : Int) - 1) = (q : Int) := by rw [wrapI (by omega) (by omega)]; omega
      have l1 := ld3 hlt hx
      have l2 := ld3 hlt hy
      have s1 : decide ((q + 1) * 3 + 3 ≤ (rowC (List.map sdPV m2)).length) = true := by rw [row3_len]; simp; omega
      have s2 : decide (q * 3 + 3 ≤ (rowC (List.map sdPV (m2.set (q + 1) y))).length) = true := by rw [row3_len]; simp; omega
      have s3 := row3_put y (l := m2) (j := q + 1) (by omega)
      have s4 := row3_put x (l := m2.set (q + 1) y) (j := q) (by simp; omega)
      simp only [go_sem, ldS_at hd, stX_at hd, ldS_sv hlt, stX_sv hlt, sv_ext hlt, sv_ext_sv hlt, hqw, hq1, hq0, iaM_nat (Int.ofNat_lt.1 hq1), iaM_nat (Int.ofNat_lt.1 hq0), Nat.zero_add, l1, l2, s1, s2, s3, s4, g1]
      try simp (disch := omega) only [wrapI, wrapU]
      refine GCall_of (compare_pc Y _ ord x y (hC x y (hm2 x (List.mem_of_getElem? hx)) (hm2 y (List.mem_of_getElem? hy))) hol) ?_   -- t32
      simp only [go_sem, ldS_at hd, stX_at hd, ldS_sv hlt, stX_sv hlt, sv_ext hlt, sv_ext_sv hlt, hqw, hq1, hq0, iaM_nat (Int.ofNat_lt.1 hq1), iaM_nat (Int.ofNat_lt.1 hq0), Nat.zero_add, l1, l2, s1, s2, s3, s4, g1]
      try simp (disch := omega) only [wrapI, wrapU]
      try refine And.intro (by repeat' (first | refine And.intro ?_ ?_ | exact GOr_right (fun _ => by simp only [go_sem, ldS_at hd, stX_at hd, ldS_sv hlt, stX_sv hlt, sv_ext hlt, sv_ext_sv hlt, hqw, hq1, hq0, iaM_nat (Int.ofNat_lt.1 hq1), iaM_nat (Int.ofNat_lt.1 hq0), Nat.zero_add, l1, l2, s1, s2, s3, s4]))) ?_
      refine hR _ _ (kq7 _ _ ?_); clear hR R; try clear kq7 kz7
      try simp only [go_sem, ldS_at hd, stX_at hd, ldS_sv hlt, stX_sv hlt, sv_ext hlt, sv_ext_sv hlt, hqw, hq1, hq0, iaM_nat (Int.ofNat_lt.1 hq1), iaM_nat (Int.ofNat_lt.1 hq0), Nat.zero_add, l1, l2, s1, s2, s3, s4]
      refine W_cond rfl (fun c2 => ?_) (fun c2 => ?_)
      · -- c2 true
        try simp only [nrm] at c2
        skip
        refine W_skip (kq6 _ _ ?_)
        refine W_seq fun kz8 kq8 => ?_
        refine W_block ?_
        refine W_draw [0, 1, 2, 3, 8, 9] [0, 1, 2, 3, 4, 5, 6, 7, 8, 9, 10, 11, 12, 13, 14, 15, 16, 17] [(2, 17), (3, 17), (4, 17)] [[], [], [], [], [3], [], [], [6], [5, 6, 7], [5, 6, 7, 8], [], [], [10, 11], [10, 11, 12], [0, 1, 5, 6, 7, 8, 9, 10, 11, 12, 13], [0, 1, 5, 6, 7, 8, 9, 10, 11, 12, 13, 14], [0, 1, 2, 3, 4, 5, 6, 7, 8, 9, 10, 11, 12, 13, 14, 15], [0, 1, 2, 3, 4, 5, 6, 7, 8, 9, 10, 11, 12, 13, 14, 15, 16]] mixed (by kernel_rfl) fun R hR => ?_   -- r6
        simp only [go_sem, ldS_at hd, stX_at hd, ldS_sv hlt, stX_sv hlt, sv_ext hlt, sv_ext_sv hlt, hqw, hq1, hq0, iaM_nat (Int.ofNat_lt.1 hq1), iaM_nat (Int.ofNat_lt.1 hq0), Nat.zero_add, l1, l2, s1, s2, s3, s4]
        try simp (disch := omega) only [wrapI, wrapU]
        try refine And.intro (by repeat' (first | refine And.intro ?_ ?_ | exact GOr_right (fun _ => by simp only [go_sem, ldS_at hd, stX_at hd, ldS_sv hlt, stX_sv hlt, sv_ext hlt, sv_ext_sv hlt, hqw, hq1, hq0, iaM_nat (Int.ofNat_lt.1 hq1), iaM_nat (Int.ofNat_lt.1 hq0), Nat.zero_add, l1, l2, s1, s2, s3, s4]))) ?_
        refine hR _ _ (kq8 _ _ ?_); clear hR R; try clear kq8 kz8
        try simp only [go_sem, ldS_at hd, stX_at hd, ldS_sv hlt, stX_sv hlt, sv_ext hlt, sv_ext_sv hlt, hqw, hq1, hq0, iaM_nat (Int.ofNat_lt.1 hq1), iaM_nat (Int.ofNat_lt.1 hq0), Nat.zero_add, l1, l2, s1, s2, s3, s4]
        refine W_region [0, 1, 2, 3, 8, 9] fun R hR => ?_   -- r5
        simp only [go_sem, ldS_at hd, stX_at hd, ldS_sv hlt, stX_sv hlt, sv_ext hlt, sv_ext_sv hlt, hqw, hq1, hq0, iaM_nat (Int.ofNat_lt.1 hq1), iaM_nat (Int.ofNat_lt.1 hq0), Nat.zero_add, l1, l2, s1, s2, s3, s4]
        try simp (disch := omega) only [wrapI, wrapU]
        refine hR _ _ ?_; clear hR R
        try simp only [go_sem, ldS_at hd, stX_at hd, ldS_sv hlt, stX_sv hlt, sv_ext hlt, sv_ext_sv hlt, hqw, hq1, hq0, iaM_nat (Int.ofNat_lt.1 hq1), iaM_nat (Int.ofNat_lt.1 hq0), Nat.zero_add, l1, l2, s1, s2, s3, s4]
        refine ⟨(q, (m2.set (q + 1) y).set q x), ?_, by (try simp only []); omega, ?_⟩
        · first | exact Weak.refl | exact Weak.eq (by first | rfl | (simp only [go_sem]; done) | (simp only [go_sem]; rfl) | (simp [go_sem]; done) | (simp [go_sem]; omega)) (by first | rfl | (simp only [go_sem]; done) | (simp [go_sem]; done))
        · try dsimp only
          refine ⟨by omega, by simp [hm2l], fun z hz => hm2 z (mem_set2 hx hy hz), ?_⟩
          rw [hsk, hsk2, if_pos (by simpa using c2)]
      · -- c2 false
        try simp only [nrm] at c2
        skip
        refine W_exit ?_
        simp only [go_sem, ldS_at hd, stX_at hd, ldS_sv hlt, stX_sv hlt, sv_ext hlt, sv_ext_sv hlt, hqw, hq1, hq0, iaM_nat (Int.ofNat_lt.1 hq1), iaM_nat (Int.ofNat_lt.1 hq0), Nat.zero_add, l1, l2, s1, s2, s3, s4]
        refine kq4 _ _ ?_
        refine W_region [0, 1, 2, 3, 8] fun R hR => ?_   -- r2
        simp only [go_sem, ldS_at hd, stX_at hd, ldS_sv hlt, stX_sv hlt, sv_ext hlt, sv_ext_sv hlt, hqw, hq1, hq0, iaM_nat (Int.ofNat_lt.1 hq1), iaM_nat (Int.ofNat_lt.1 hq0), Nat.zero_add, l1, l2, s1, s2, s3, s4]
        try simp (disch := omega) only [wrapI, wrapU]
        refine hR _ _ ?_; clear hR R
        try simp only [go_sem, ldS_at hd, stX_at hd, ldS_sv hlt, stX_sv hlt, sv_ext hlt, sv_ext_sv hlt, hqw, hq1, hq0, iaM_nat (Int.ofNat_lt.1 hq1), iaM_nat (Int.ofNat_lt.1 hq0), Nat.zero_add, l1, l2, s1, s2, s3, s4]
        refine ⟨(i + 1, m2), ?_, by (try simp only []); omega, ?_⟩
        · first | exact Weak.refl | exact Weak.eq (by first | rfl | (simp only [go_sem]; done) | (simp only [go_sem]; rfl) | (simp [go_sem]; done) | (simp [go_sem]; omega)) (by first | rfl | (simp only [go_sem]; done) | (simp [go_sem]; done))
        · try dsimp only
          refine ⟨by omega, by omega, hm2l, hm2, ?_⟩
          rw [hinv, hsk]
          first
          | rw [hsk2, if_neg (by simpa using c2)]
          | (have hj0 : j = 0 := by first | omega | (simp at g1; omega)
             subst hj0; rfl)
    · try simp only [Bool.not_eq_true', Bool.not_eq_false'] at g1
      have n1 := g1; try simp only [nrm] at n1
      simp only [go_sem, ldS_at hd, stX_at hd, ldS_sv hlt, stX_sv hlt, sv_ext hlt, sv_ext_sv hlt, g1]
      try simp (disch := omega) only [wrapI, wrapU]
      try refine And.intro (by repeat' (first | refine And.intro ?_ ?_ | exact GOr_right (fun _ => by simp only [go_sem, ldS_at hd, stX_at hd, ldS_sv hlt, stX_sv hlt, sv_ext hlt, sv_ext_sv hlt]))) ?_
      refine hR _ _ (kq7 _ _ ?_); clear hR R; try clear kq7 kz7
      try simp only [go_sem, ldS_at hd, stX_at hd, ldS_sv hlt, stX_sv hlt, sv_ext hlt, sv_ext_sv hlt]
      refine W_cond_false rfl ?_
      refine W_exit ?_
      simp only [go_sem, ldS_at hd, stX_at hd, ldS_sv hlt, stX_sv hlt, sv_ext hlt, sv_ext_sv hlt]
      refine kq4 _ _ ?_
      refine W_region [0, 1, 2, 3, 8] fun R hR => ?_   -- r2
      simp only [go_sem, ldS_at hd, stX_at hd, ldS_sv hlt, stX_sv hlt, sv_ext hlt, sv_ext_sv hlt]
      try simp (disch := omega) only [wrapI, wrapU]
      refine hR _ _ ?_; clear hR R
      try simp only [go_sem, ldS_at hd, stX_at hd, ldS_sv hlt, stX_sv hlt, sv_ext hlt, sv_ext_sv hlt]
      refine ⟨(i + 1, m2), ?_, by (try simp only []); omega, ?_⟩
      · first | exact Weak.refl | exact Weak.eq (by first | rfl | (simp only [go_sem]; done) | (simp only [go_sem]; rfl) | (simp [go_sem]; done) | (simp [go_sem]; omega)) (by first | rfl | (simp only [go_sem]; done) | (simp [go_sem]; done))
      · try dsimp only
        refine ⟨by omega, by omega, hm2l, hm2, ?_⟩
        rw [hinv, hsk]
        first
        | rw [hsk2, if_neg (by simpa using c2)]
        | (have hj0 : j = 0 := by first | omega | (simp at g1; omega)
           subst hj0; rfl)
  · -- c1 false
    try simp only [nrm] at c1
    have hie : n = i := by first | omega | (simp at c1; omega)
    subst hie
    rw [Nat.sub_self] at hinv
    simp only [sinkAll] at hinv
    subst hinv
    refine W_exit ?_
    simp only [go_sem, ldS_at hd, stX_at hd, ldS_sv hlt, stX_sv hlt, sv_ext hlt, sv_ext_sv hlt]
    try simp only [go_sem, ldS_at hd, stX_at hd, ldS_sv hlt, stX_sv hlt, sv_ext hlt, sv_ext_sv hlt]
    refine ⟨.inl (by trivial), ?_⟩
    first | refine Fin_set hcl (by simp only [go_sem]) rfl (Wk_eq ?_ (by simp only [go_sem])) | refine Fin_set0 hcl (by simp only [go_sem]) rfl (Wk_eq ?_ (by simp only [go_sem]))
    try simp only [go_sem]
    all_goals
      skip
set_option maxHeartbeats 2000000 in
theorem pdqSort_pc (Y : YEnv) (σ : Sg) (id : Nat) (ord : List Int) (l : List Stand) (hd : σ.store[id]? = some (some (rowC (l.map sdPV)))) (hC : ∀ a b, a ∈ l → b ∈ l → CmpOk ord a b) (hol : ord.length < 2 ^ 40) (hl : 0 < l.length ∧ l.length ≤ 12) (lim : Int) :
    PC Tryz.prog Y 86 [.gsl id l.length 3, I 0, I l.length, I lim, .func (.func 59) [.agg [ints ord]] []] σ (.tuple []) (σ.setVar id (rowC ((sortSd ord l).map sdPV))) := by
  refine PC_of_W Tryz.func86 rfl (by kernel_rfl) Tryz.ntmps86 (by simp) fun hcl hca => ?_
  have hlt := lt_of_get hd
  have hl2 : (l.length : Int) ≤ 12 := by omega
  refine W_seq fun kz1 kq1 => ?_
  refine W_region [0, 1, 2, 3, 4, 10] fun R hR => ?_   -- r0
  simp only [go_sem, ldS_at hd, stX_at hd, ldS_sv hlt, stX_sv hlt, sv_ext hlt, sv_ext_sv hlt]
  refine hR _ _ (kq1 _ _ ?_); clear hR R; try clear kq1 kz1
  try simp only [go_sem, ldS_at hd, stX_at hd, ldS_sv hlt, stX_sv hlt, sv_ext hlt, sv_ext_sv hlt]
  refine W_seq fun kz2 kq2 => ?_
  refine W_region [0, 1, 2, 3, 4, 10, 11] fun R hR => ?_   -- r1
  simp only [go_sem, ldS_at hd, stX_at hd, ldS_sv hlt, stX_sv hlt, sv_ext hlt, sv_ext_sv hlt]
  refine hR _ _ (kq2 _ _ ?_); clear hR R; try clear kq2 kz2
  try simp only [go_sem, ldS_at hd, stX_at hd, ldS_sv hlt, stX_sv hlt, sv_ext hlt, sv_ext_sv hlt]
  refine W_block ?_
  refine W_loopS (α := Nat) (fun (z : Nat) => []) (fun (z : Nat) => True) (fun (z : Nat) => 0) (0) rfl (trivial) ?_
  rintro z _
  refine W_block ?_
  refine W_seq fun kz3 kq3 => ?_
  refine W_region [0, 1, 2, 3, 4, 10, 11, 12] fun R hR => ?_   -- r2
  simp only [go_sem, ldS_at hd, stX_at hd, ldS_sv hlt, stX_sv hlt, sv_ext hlt, sv_ext_sv hlt]
  try simp (disch := omega) only [wrapI, wrapU]
  refine hR _ _ (kq3 _ _ ?_); clear hR R; try clear kq3 kz3
  try simp only [go_sem, ldS_at hd, stX_at hd, ldS_sv hlt, stX_sv hlt, sv_ext hlt, sv_ext_sv hlt]
  refine W_seq fun kz4 kq4 => ?_
  refine W_seq fun kz5 kq5 => ?_
  refine W_region [0, 1, 2, 3, 4, 10, 11, 12, 25] fun R hR => ?_   -- r3
  simp only [go_sem, ldS_at hd, stX_at hd, ldS_sv hlt, stX_sv hlt, sv_ext hlt, sv_ext_sv hlt]
  refine hR _ _ (kq5 _ _ ?_); clear hR R; try clear kq5 kz5
  try simp only [go_sem, ldS_at hd, stX_at hd, ldS_sv hlt, stX_sv hlt, sv_ext hlt, sv_ext_sv hlt]
  refine W_cond rfl (fun c1 => ?_) (fun c1 => ?_)
  · -- c1 true
    try simp only [nrm] at c1
    refine W_seq fun kz6 kq6 => ?_
    refine W_region [] fun R hR => ?_   -- r4
    simp only [go_sem, ldS_at hd, stX_at hd, ldS_sv hlt, stX_sv hlt, sv_ext hlt, sv_ext_sv hlt]
    refine GCall_of (insSort_pc Y _ id ord l hd hC hol hl) ?_   -- t30
    simp only [go_sem, ldS_at hd, stX_at hd, ldS_sv hlt, stX_sv hlt, sv_ext hlt, sv_ext_sv hlt]
    refine hR _ _ (kq6 _ _ ?_); clear hR R; try clear kq6 kz6
    try simp only [go_sem, ldS_at hd, stX_at hd, ldS_sv hlt, stX_sv hlt, sv_ext hlt, sv_ext_sv hlt]
    refine W_ret ?_
    simp only [go_sem, ldS_at hd, stX_at hd, ldS_sv hlt, stX_sv hlt, sv_ext hlt, sv_ext_sv hlt]
    refine ⟨.inr (by trivial), ?_⟩
    first | refine Fin_set hcl (by simp only [go_sem]) rfl (Wk_eq ?_ (by simp only [go_sem])) | refine Fin_set0 hcl (by simp only [go_sem]) rfl (Wk_eq ?_ (by simp only [go_sem]))
    try simp only [go_sem]
    all_goals
      skip
  · -- c1 false
    try simp only [nrm] at c1
    exfalso
    first | omega | (simp at c1; omega)
set_option maxHeartbeats 2000000 in
theorem sortFunc_pc (Y : YEnv) (σ : Sg) (id : Nat) (ord : List Int) (l : List Stand) (hd : σ.store[id]? = some (some (rowC (l.map sdPV)))) (hC : ∀ a b, a ∈ l → b ∈ l → CmpOk ord a b) (hol : ord.length < 2 ^ 40) (hl : 0 < l.length ∧ l.length ≤ 12) :
    PC Tryz.prog Y 60 [.gsl id l.length 3, .func (.func 59) [.agg [ints ord]] []] σ (.tuple []) (σ.setVar id (rowC ((sortSd ord l).map sdPV))) := by
  refine PC_of_W Tryz.func60 rfl (by kernel_rfl) Tryz.ntmps60 (by simp) fun hcl hca => ?_
  have hlt := lt_of_get hd
  refine W_seq fun kz1 kq1 => ?_
  refine W_region [0, 1, 4] fun R hR => ?_   -- r0
  simp only [go_sem, ldS_at hd, stX_at hd, ldS_sv hlt, stX_sv hlt, sv_ext hlt, sv_ext_sv hlt]
  refine hR _ _ (kq1 _ _ ?_); clear hR R; try clear kq1 kz1
  try simp only [go_sem, ldS_at hd, stX_at hd, ldS_sv hlt, stX_sv hlt, sv_ext hlt, sv_ext_sv hlt]
  refine W_region [] fun R hR => ?_   -- r1
  simp only [go_sem, ldS_at hd, stX_at hd, ldS_sv hlt, stX_sv hlt, sv_ext hlt, sv_ext_sv hlt]
  try simp (disch := omega) only [wrapI, wrapU]
  refine GCall_of (bitsLen_pc Y _ l.length (by omega) (by omega)) ?_   -- t11
  simp only [go_sem, ldS_at hd, stX_at hd, ldS_sv hlt, stX_sv hlt, sv_ext hlt, sv_ext_sv hlt]
  try simp (disch := omega) only [wrapI, wrapU]
  refine GCall_of (pdqSort_pc Y _ id ord l hd hC hol hl _) ?_   -- t13
  simp only [go_sem, ldS_at hd, stX_at hd, ldS_sv hlt, stX_sv hlt, sv_ext hlt, sv_ext_sv hlt]
  try simp (disch := omega) only [wrapI, wrapU]
  refine hR _ _ ?_; clear hR R
  try simp only [go_sem, ldS_at hd, stX_at hd, ldS_sv hlt, stX_sv hlt, sv_ext hlt, sv_ext_sv hlt]
  try simp only [go_sem, ldS_at hd, stX_at hd, ldS_sv hlt, stX_sv hlt, sv_ext hlt, sv_ext_sv hlt]
  refine ⟨.inl (by trivial), ?_⟩
  first | refine Fin_set hcl (by simp only [go_sem]) rfl (Wk_eq ?_ (by simp only [go_sem])) | refine Fin_set0 hcl (by simp only [go_sem]) rfl (Wk_eq ?_ (by simp only [go_sem]))
  try simp only [go_sem]
  all_goals
    skip
end Go.Proofs.YtgelnjmddabgpaaGreat
namespace Go.Proofs.YtgelnjmddabgpaaGreat
open Go Go.RowKit
set_option maxRecDepth 100000
/-- Standings that grow in place: nothing yet, or the last of a row of variables (those before it are gone). -/
def glS (n : Nat) (out : List Stand) : PV := match out with
  | [] => .gnil
  | _ :: t => .gsl (n + t.length) (t.length + 1) 3
def gsS (out : List Stand) : List (Option (List PV)) := match out with
  | [] => []
  | _ :: t => List.replicate t.length none ++ [some (rowC (out.map sdPV))]
theorem appendAny_gs {P : Program} {σ : Sg} {t t' : TypeId} {n : Nat} {out : List Stand} {y : PV} : appendAny P σ t t' (glS n out) y = appendG P σ t t' (glS n out) y := by cases out <;> rfl
attribute [go_sem] appendAny_gs
section
variable {σ : Sg} {A : List (Option (List PV))} {rm : List Nat} {ys : List LState} {out : List Stand}
theorem gsS_get {x : Stand} : (A ++ gsS (x :: out))[A.length + out.length]? = some (some (rowC ((x :: out).map sdPV))) := by
  have : A.length + out.length = (A ++ List.replicate out.length (none : Option (List PV))).length := by simp
  rw [this, gsS, ← List.append_assoc]
  exact get_mid
theorem gsS_set {x : Stand} {y : Option (List PV)} : (A ++ gsS (x :: out)).set (A.length + out.length) y = A ++ (List.replicate out.length none ++ [y]) := by
  have : A.length + out.length = (A ++ List.replicate out.length (none : Option (List PV))).length := by simp
  rw [this, gsS, ← List.append_assoc, ← List.append_assoc]
  exact set_mid
theorem appG_gs (b : Nat) (x : Stand) (h : (out.length + 1) * b ≤ 2 ^ 47) : appG 3 b (σ.ext (A ++ gsS out) rm ys) (glS (σ.store.length + A.length) out) [.agg [I x.school, I x.total, ints x.points]] = some (glS (σ.store.length + A.length) (out ++ [x]), σ.ext (A ++ gsS (out ++ [x])) rm ys) := by
  cases out with
  | nil =>
    rw [glS, appG_nil (by rfl) (by simp) (by simpa using h)]
    simp [gsS, glS, rowC, Sg.push_ext, Sg.len_ext, sdPV, sdCells]
  | cons y out =>
    simp only [glS]
    rw [appG_more (cs := rowC ((y :: out).map sdPV)) (by rw [Nat.add_assoc, Sg.get_ext]; exact gsS_get) (by rw [row3_len]; simp) (by rfl) (by simp) (by simpa using h)]
    rw [Nat.add_assoc (Sg.store σ).length, Sg.drop_ext, gsS_set]
    simp only [Sg.push_ext, Sg.len_ext]
    have e : List.replicate (out ++ [x]).length (none : Option (List PV)) = List.replicate out.length none ++ [none] := by simp [List.replicate_succ']
    simp only [List.cons_append, gsS, e, glS]
    have e2 : rowC ((y :: (out ++ [x])).map sdPV) = rowC ((y :: out).map sdPV) ++ rowC [.agg [I x.school, I x.total, ints x.points]] := by
      simp [rowC, sdPV, sdCells]
    rw [e2]
    simp [Nat.add_assoc]
end
theorem sink_len (ord : List Int) : ∀ (j : Nat) (l : List Stand), (sink ord j l).length = l.length := by
  intro j
  induction j with
  | zero => intro l; rfl
  | succ j ih =>
    intro l
    simp only [sink]
    split
    · split
      · rw [ih]; simp
      · rfl
    · rfl
theorem sinkAll_len (ord : List Int) : ∀ (k i : Nat) (l : List Stand), (sinkAll ord k i l).length = l.length := by
  intro k
  induction k with
  | zero => intro i l; rfl
  | succ k ih => intro i l; simp only [sinkAll, ih, sink_len]
theorem sortSd_len (ord : List Int) (l : List Stand) : (sortSd ord l).length = l.length := sinkAll_len _ _ _ _
theorem sort_gs (Y : YEnv) (σ : Sg) (A : List (Option (List PV))) (rm : List Nat) (ord : List Int) (out : List Stand) (hC : ∀ a b, a ∈ out → b ∈ out → CmpOk ord a b) (hol : ord.length < 2 ^ 40) (hl : 0 < out.length ∧ out.length ≤ 12) :
    PC Tryz.prog Y 60 [glS (σ.store.length + A.length) out, .func (.func 59) [.agg [ints ord]] []] (σ.ext (A ++ gsS out) rm) (.tuple []) (σ.ext (A ++ gsS (sortSd ord out)) rm) := by
  cases out with
  | nil => simp at hl
  | cons x out =>
    have h1 := sortFunc_pc Y (σ.ext (A ++ gsS (x :: out)) rm) (σ.store.length + A.length + out.length) ord (x :: out) (by rw [Nat.add_assoc, Sg.get_ext]; exact gsS_get) hC hol hl
    rw [Nat.add_assoc, Sg.set_ext, gsS_set] at h1
    have e : A ++ (List.replicate out.length none ++ [some (rowC ((sortSd ord (x :: out)).map sdPV))]) = A ++ gsS (sortSd ord (x :: out)) := by
      have hs := sortSd_len ord (x :: out)
      cases hc : sortSd ord (x :: out) with
      | nil => rw [hc] at hs; simp at hs
      | cons y s =>
        rw [hc] at hs
        simp only [List.length_cons] at hs
        simp only [gsS]
        rw [show out.length = s.length by omega]
    rw [e] at h1
    simp only [glS]
    rw [Nat.add_assoc]
    exact h1
theorem glS_sort (n : Nat) (ord : List Int) (out : List Stand) : glS n (sortSd ord out) = glS n out := by
  have hl := sortSd_len ord out
  cases h : sortSd ord out with
  | nil =>
    rw [h] at hl
    cases out with
    | nil => rfl
    | cons x out => simp at hl
  | cons y s =>
    rw [h] at hl
    cases out with
    | nil => simp at hl
    | cons x out => simp only [List.length_cons] at hl; simp only [glS]; rw [show s.length = out.length by omega]
def sdUp (s : Scale) (k : Kn) (g : Night) (i : Nat) : List Stand := (List.range i).map fun (j : Nat) => standK s k g j 0
theorem sdUp_succ (s : Scale) (k : Kn) (g : Night) (i : Nat) : sdUp s k g (i + 1) = sdUp s k g i ++ [standK s k g i 0] := by simp [sdUp, List.range_succ]
/-- The table as the program makes it. -/
def tblP (s : Scale) (k : Kn) (g : Night) : List Stand := sortSd s.order (sdUp s k g s.schools.toNat)
def tableP (s : Scale) (g : Night) : List Stand × Int :=
  if knownE s g ≠ 0 then ([], knownE s g) else if sealedK s (knownK s g) ≠ [] then ([], 11) else (tblP s (knownK s g) g, 0)
set_option maxHeartbeats 2000000 in
theorem plcE_pc (Y : YEnv) (σ : Sg) (s : Scale) (g : Night) (hs : s.Ok) (hg : g.Ok) (sc : Int) (hE : knownE s g ≠ 0) :
    PC Tryz.prog Y 28 [scPV s, ngPV g, I sc] σ (.tuple [.agg [I 0, I 0], I (knownE s g)]) (σ) := by
  refine PC_of_W Tryz.func28 rfl (by kernel_rfl) Tryz.ntmps28 (by simp) fun hcl hca => ?_
  refine W_seq fun kz1 kq1 => ?_
  refine W_region [3, 4, 5, 6] fun R hR => ?_   -- r0
  simp only [go_sem]
  refine hR _ _ (kq1 _ _ ?_); clear hR R; try clear kq1 kz1
  try simp only [go_sem]
  refine W_seq fun kz2 kq2 => ?_
  refine W_region [3, 4, 5, 6, 8, 9] fun R hR => ?_   -- r1
  simp only [go_sem]
  refine GCall_of (knownOf_err Y _ s g hs hg hE) ?_   -- t14
  simp only [go_sem]
  refine hR _ _ (kq2 _ _ ?_); clear hR R; try clear kq2 kz2
  try simp only [go_sem]
  refine W_seq fun kz3 kq3 => ?_
  refine W_seq fun kz4 kq4 => ?_
  refine W_region [3, 4, 5, 6, 8, 9, 18] fun R hR => ?_   -- r2
  simp only [go_sem]
  refine hR _ _ (kq4 _ _ ?_); clear hR R; try clear kq4 kz4
  try simp only [go_sem]
  refine W_cond rfl (fun c1 => ?_) (fun c1 => ?_)
  · -- c1 true
    try simp only [nrm] at c1
    refine W_seq fun kz5 kq5 => ?_
    refine W_region [6, 7] fun R hR => ?_   -- r3
    simp only [go_sem]
    refine hR _ _ (kq5 _ _ ?_); clear hR R; try clear kq5 kz5
    try simp only [go_sem]
    refine W_ret ?_
    simp only [go_sem]
    refine ⟨.inr (by trivial), ?_⟩
    first | refine Fin_same hcl (by show resPV Tryz.prog _ _ [.cell 6 63, .tmp 7] = some _; simp only [resPV, go_sem]; rfl) (Wk_eq ?_ (by simp only [go_sem])) | refine Fin_same hcl rfl (Wk_eq ?_ (by simp only [go_sem]))
    try simp only [go_sem]
    all_goals
      first | rfl | (simp_all; done) | (simp_all; omega)
  · -- c1 false
    try simp only [nrm] at c1
    exfalso
    first | exact hE (by omega) | (simp at c1; exact hE (by omega))
set_option maxHeartbeats 2000000 in
theorem plcO_pc (Y : YEnv) (σ : Sg) (s : Scale) (g : Night) (hs : s.Ok) (hg : g.Ok) (sc : Int) (hE : knownE s g = 0) :
    PC Tryz.prog Y 28 [scPV s, ngPV g, I sc] σ (.tuple [.agg [I (placeA s g sc).1.1, I (placeA s g sc).1.2], I (placeA s g sc).2]) (σ) := by
  refine PC_of_W Tryz.func28 rfl (by kernel_rfl) Tryz.ntmps28 (by simp) fun hcl hca => ?_
  have hV := known_V hE
  obtain ⟨K, hK⟩ : ∃ z, knownK s g = z := ⟨_, rfl⟩
  rw [hK] at hV
  have hv := hV.v
  have q3 := hv.sc
  have q4 := hv.lo
  have q5 := hv.hi
  obtain ⟨N, hN⟩ : ∃ z : Nat, s.schools = z := ⟨s.schools.toNat, by omega⟩
  have hNi : (s.schools : Int) = (N : Int) := hN
  have hkn := fun Y σ => knownOf_ok Y σ s g hs hg hE
  rw [hK] at hkn
  refine W_seq fun kz1 kq1 => ?_
  refine W_region [3, 4, 5, 6] fun R hR => ?_   -- r0
  simp only [go_sem]
  refine hR _ _ (kq1 _ _ ?_); clear hR R; try clear kq1 kz1
  try simp only [go_sem]
  refine W_seq fun kz2 kq2 => ?_
  refine W_region [3, 4, 5, 6, 8, 9] fun R hR => ?_   -- r1
  simp only [go_sem]
  refine GCall_of (hkn Y _) ?_   -- t14
  simp only [go_sem]
  refine hR _ _ (kq2 _ _ ?_); clear hR R; try clear kq2 kz2
  try simp only [go_sem]
  refine W_seq fun kz3 kq3 => ?_
  refine W_seq fun kz4 kq4 => ?_
  refine W_region [3, 4, 5, 6, 8, 9, 18] fun R hR => ?_   -- r2
  simp only [go_sem]
  refine hR _ _ (kq4 _ _ ?_); clear hR R; try clear kq4 kz4
  try simp only [go_sem]
  refine W_cond_false rfl ?_
  refine W_skip (kq3 _ _ ?_)
  refine W_seq fun kz5 kq5 => ?_
  refine W_seq fun kz6 kq6 => ?_
  refine W_region [3, 4, 5, 6, 8, 26] fun R hR => ?_   -- r4
  simp only [go_sem]
  try simp (disch := omega) only [wrapI, wrapU]
  refine GCall_of (in_pc Y _ sc 0 _) ?_   -- t25
  simp only [go_sem]
  try simp (disch := omega) only [wrapI, wrapU]
  refine hR _ _ (kq6 _ _ ?_); clear hR R; try clear kq6 kz6
  try simp only [go_sem]
  refine W_cond rfl (fun c1 => ?_) (fun c1 => ?_)
  · -- c1 true
    try simp only [nrm] at c1
    refine W_seq fun kz7 kq7 => ?_
    refine W_region [6, 7] fun R hR => ?_   -- r5
    simp only [go_sem]
    refine hR _ _ (kq7 _ _ ?_); clear hR R; try clear kq7 kz7
    try simp only [go_sem]
    refine W_ret ?_
    simp only [go_sem]
    refine ⟨.inr (by trivial), ?_⟩
    first | refine Fin_same hcl (by show resPV Tryz.prog _ _ [.cell 6 63, .tmp 7] = some _; simp only [resPV, go_sem]; rfl) (Wk_eq ?_ (by simp only [go_sem])) | refine Fin_same hcl rfl (Wk_eq ?_ (by simp only [go_sem]))
    try simp only [go_sem]
    all_goals
      clear hNi hN; simp [placeA, hE, hK, *]
  · -- c1 false
    try simp only [nrm] at c1
    have hin : inR sc 0 (s.schools - 1) = true := c1
    have hin2 := hin
    simp only [inR_true] at hin2
    obtain ⟨n, rfl⟩ : ∃ n : Nat, sc = n := ⟨sc.toNat, by omega⟩
    refine W_skip (kq5 _ _ ?_)
    refine W_seq fun kz8 kq8 => ?_
    refine W_region [3, 6, 10] fun R hR => ?_   -- r6
    simp only [go_sem]
    refine hR _ _ (kq8 _ _ ?_); clear hR R; try clear kq8 kz8
    try simp only [go_sem]
    refine W_seq fun kz9 kq9 => ?_
    refine W_draw [6, 7] [0, 1, 2, 3, 4, 5, 6, 7, 8, 9, 10, 11, 12, 13, 14] [(6, 5), (7, 5), (8, 5), (9, 5), (10, 5)] [[], [], [1], [], [3], [0, 1, 2, 3, 4], [], [], [7], [], [9], [0, 1, 2, 3, 4, 5, 6, 7, 8, 9, 10], [0, 1, 2, 3, 4, 5, 6, 7, 8, 9, 10, 11], [0, 1, 2, 3, 4, 5, 6, 7, 8, 9, 10, 11, 12], [0, 1, 2, 3, 4, 5, 6, 7, 8, 9, 10, 11, 12, 13]] mixed (by kernel_rfl) fun R hR => ?_   -- r7
    simp only [go_sem]
    refine GCall_of (place1_pc Y _ (σ.store.length + 7) (σ.store.length + 6) (σ.store.length) (σ.store.length + 1) (σ.store.length + 2) s K g hV n (by omega) s.high s.low (by omega) (by omega) (Sg.get_ext ..) (Sg.get_ext ..) (Sg.get_ext0 ..) (Sg.get_ext ..) (Sg.get_ext ..)) ?_   -- t34
    simp only [go_sem]
    refine GCall_of (place1_pc Y _ (σ.store.length + 7) (σ.store.length + 6) (σ.store.length) (σ.store.length + 1) (σ.store.length + 2) s K g hV n (by omega) s.low s.high (by omega) (by omega) (Sg.get_ext ..) (Sg.get_ext ..) (Sg.get_ext0 ..) (Sg.get_ext ..) (Sg.get_ext ..)) ?_   -- t40
    simp only [go_sem]
    try refine And.intro (by repeat' (first | refine And.intro ?_ ?_ | exact GOr_right (fun _ => by simp only [go_sem]))) ?_
    refine hR _ _ (kq9 _ _ ?_); clear hR R; try clear kq9 kz9
    try simp only [go_sem]
    refine W_ret ?_
    simp only [go_sem]
    refine ⟨.inr (by trivial), ?_⟩
    first | refine Fin_same hcl (by show resPV Tryz.prog _ _ [.cell 6 63, .tmp 7] = some _; simp only [resPV, go_sem]; rfl) (Wk_eq ?_ (by simp only [go_sem])) | refine Fin_same hcl rfl (Wk_eq ?_ (by simp only [go_sem]))
    try simp only [go_sem]
    all_goals
      clear hNi hN; simp [placeA, hE, hK, *]
theorem Place_pc (Y : YEnv) (σ : Sg) (s : Scale) (g : Night) (hs : s.Ok) (hg : g.Ok) (sc : Int) : PC Tryz.prog Y 28 [scPV s, ngPV g, I sc] σ (.tuple [.agg [I (placeA s g sc).1.1, I (placeA s g sc).1.2], I (placeA s g sc).2]) σ := by
  by_cases h : knownE s g = 0
  · exact plcO_pc Y σ s g hs hg sc h
  · have e : placeA s g sc = ((0, 0), knownE s g) := by unfold placeA; rw [if_pos h]
    rw [e]; exact plcE_pc Y σ s g hs hg sc h
set_option maxHeartbeats 2000000 in
theorem Wins_pc (Y : YEnv) (σ : Sg) (s : Scale) (g : Night) (hs : s.Ok) (hg : g.Ok) (sc : Int) :
    PC Tryz.prog Y 30 [scPV s, ngPV g, I sc] σ (.tuple [I (winsA s g sc).1, I (winsA s g sc).2]) (σ) := by
  refine PC_of_W Tryz.func30 rfl (by kernel_rfl) Tryz.ntmps30 (by simp) fun hcl hca => ?_
  refine W_seq fun kz1 kq1 => ?_
  refine W_region [2, 3, 4] fun R hR => ?_   -- r0
  simp only [go_sem]
  refine hR _ _ (kq1 _ _ ?_); clear hR R; try clear kq1 kz1
  try simp only [go_sem]
  refine W_seq fun kz2 kq2 => ?_
  refine W_region [8, 9] fun R hR => ?_   -- r1
  simp only [go_sem]
  refine GCall_of (Place_pc Y _ s g hs hg sc) ?_   -- t14
  simp only [go_sem]
  refine hR _ _ (kq2 _ _ ?_); clear hR R; try clear kq2 kz2
  try simp only [go_sem]
  refine W_seq fun kz3 kq3 => ?_
  refine W_block ?_
  refine W_seq fun kz4 kq4 => ?_
  refine W_region [8, 9, 17] fun R hR => ?_   -- r2
  simp only [go_sem]
  refine hR _ _ (kq4 _ _ ?_); clear hR R; try clear kq4 kz4
  try simp only [go_sem]
  refine W_cond rfl (fun c1 => ?_) (fun c1 => ?_)
  · -- c1 true
    try simp only [nrm] at c1
    refine W_seq fun kz5 kq5 => ?_
    refine W_region [6, 7] fun R hR => ?_   -- r3
    simp only [go_sem]
    refine hR _ _ (kq5 _ _ ?_); clear hR R; try clear kq5 kz5
    try simp only [go_sem]
    refine W_ret ?_
    simp only [go_sem]
    refine ⟨.inr (by trivial), ?_⟩
    first | refine Fin_same hcl rfl (Wk_eq ?_ (by simp only [go_sem])) | refine Fin_self hcl rfl (Wk_eq ?_ (by simp only [go_sem]))
    try simp only [go_sem]
    all_goals
      simp [winsA, *]
  · -- c1 false
    try simp only [nrm] at c1
    refine W_seq fun kz6 kq6 => ?_
    refine W_region [8, 21] fun R hR => ?_   -- r4
    simp only [go_sem]
    refine hR _ _ (kq6 _ _ ?_); clear hR R; try clear kq6 kz6
    try simp only [go_sem]
    refine W_cond rfl (fun c2 => ?_) (fun c2 => ?_)
    · -- c2 true
      try simp only [nrm] at c2
      refine W_seq fun kz7 kq7 => ?_
      refine W_region [6, 7] fun R hR => ?_   -- r5
      simp only [go_sem]
      refine hR _ _ (kq7 _ _ ?_); clear hR R; try clear kq7 kz7
      try simp only [go_sem]
      refine W_ret ?_
      simp only [go_sem]
      refine ⟨.inr (by trivial), ?_⟩
      first | refine Fin_same hcl rfl (Wk_eq ?_ (by simp only [go_sem])) | refine Fin_self hcl rfl (Wk_eq ?_ (by simp only [go_sem]))
      try simp only [go_sem]
      all_goals
        simp [winsA, *]
    · -- c2 false
      try simp only [nrm] at c2
      refine W_seq fun kz8 kq8 => ?_
      refine W_region [25] fun R hR => ?_   -- r6
      simp only [go_sem]
      refine hR _ _ (kq8 _ _ ?_); clear hR R; try clear kq8 kz8
      try simp only [go_sem]
      refine W_cond rfl (fun c3 => ?_) (fun c3 => ?_)
      · -- c3 true
        try simp only [nrm] at c3
        refine W_seq fun kz9 kq9 => ?_
        refine W_region [6, 7] fun R hR => ?_   -- r7
        simp only [go_sem]
        refine hR _ _ (kq9 _ _ ?_); clear hR R; try clear kq9 kz9
        try simp only [go_sem]
        refine W_ret ?_
        simp only [go_sem]
        refine ⟨.inr (by trivial), ?_⟩
        first | refine Fin_same hcl rfl (Wk_eq ?_ (by simp only [go_sem])) | refine Fin_self hcl rfl (Wk_eq ?_ (by simp only [go_sem]))
        try simp only [go_sem]
        all_goals
          simp [winsA, *]
      · -- c3 false
        try simp only [nrm] at c3
        refine W_skip (kq3 _ _ ?_)
        refine W_seq fun kz10 kq10 => ?_
        refine W_region [6, 7] fun R hR => ?_   -- r8
        simp only [go_sem]
        refine hR _ _ (kq10 _ _ ?_); clear hR R; try clear kq10 kz10
        try simp only [go_sem]
        refine W_ret ?_
        simp only [go_sem]
        refine ⟨.inr (by trivial), ?_⟩
        first | refine Fin_same hcl rfl (Wk_eq ?_ (by simp only [go_sem])) | refine Fin_self hcl rfl (Wk_eq ?_ (by simp only [go_sem]))
        try simp only [go_sem]
        all_goals
          simp [winsA, *]
set_option maxHeartbeats 2000000 in
theorem tabE_pc (Y : YEnv) (σ : Sg) (s : Scale) (g : Night) (hs : s.Ok) (hg : g.Ok) (hE : knownE s g ≠ 0) :
    PC Tryz.prog Y 17 [scPV s, ngPV g] σ (.tuple [sds [], I (knownE s g)]) (σ) := by
  refine PC_of_W Tryz.func17 rfl (by kernel_rfl) Tryz.ntmps17 (by simp) fun hcl hca => ?_
  refine W_seq fun kz1 kq1 => ?_
  refine W_region [2, 3, 4, 5] fun R hR => ?_   -- r0
  simp only [go_sem]
  refine hR _ _ (kq1 _ _ ?_); clear hR R; try clear kq1 kz1
  try simp only [go_sem]
  refine W_seq fun kz2 kq2 => ?_
  refine W_region [2, 3, 4, 5, 6, 7] fun R hR => ?_   -- r1
  simp only [go_sem]
  refine GCall_of (knownOf_err Y _ s g hs hg hE) ?_   -- t14
  simp only [go_sem]
  refine hR _ _ (kq2 _ _ ?_); clear hR R; try clear kq2 kz2
  try simp only [go_sem]
  refine W_seq fun kz3 kq3 => ?_
  refine W_seq fun kz4 kq4 => ?_
  refine W_region [2, 3, 4, 5, 6, 7, 18] fun R hR => ?_   -- r2
  simp only [go_sem]
  refine hR _ _ (kq4 _ _ ?_); clear hR R; try clear kq4 kz4
  try simp only [go_sem]
  refine W_cond rfl (fun c1 => ?_) (fun c1 => ?_)
  · -- c1 true
    try simp only [nrm] at c1
    refine W_seq fun kz5 kq5 => ?_
    refine W_region [4, 5] fun R hR => ?_   -- r3
    simp only [go_sem]
    refine hR _ _ (kq5 _ _ ?_); clear hR R; try clear kq5 kz5
    try simp only [go_sem]
    refine W_ret ?_
    simp only [go_sem]
    refine ⟨.inr (by trivial), ?_⟩
    refine Fin_same hcl (by show resPV Tryz.prog _ _ [.cell 4 41, .cell 5 42] = some _; simp only [resPV, go_sem]; rfl) (Wk.ro (by simp only [go_sem]) ?_)
    try simp only [go_sem]
    all_goals
      first | rfl | (simp [PV.ro, PV.roL]; done)
  · -- c1 false
    try simp only [nrm] at c1
    exfalso
    first | exact hE (by omega) | (simp at c1; exact hE (by omega))
set_option maxHeartbeats 2000000 in
theorem tabS_pc (Y : YEnv) (σ : Sg) (s : Scale) (g : Night) (hs : s.Ok) (hg : g.Ok) (hE : knownE s g = 0) (hne0 : sealedK s (knownK s g) ≠ []) :
    PC Tryz.prog Y 17 [scPV s, ngPV g] σ (.tuple [sds [], I 11]) (σ) := by
  refine PC_of_W Tryz.func17 rfl (by kernel_rfl) Tryz.ntmps17 (by simp) fun hcl hca => ?_
  have hV := known_V hE
  obtain ⟨K, hK⟩ : ∃ z, knownK s g = z := ⟨_, rfl⟩
  rw [hK] at hV
  have hv := hV.v
  have q3 := hv.sc
  have q4 := hv.lo
  have q5 := hv.hi
  obtain ⟨N, hN⟩ : ∃ z : Nat, s.schools = z := ⟨s.schools.toNat, by omega⟩
  have hNi : (s.schools : Int) = (N : Int) := hN
  have hkn := fun Y σ => knownOf_ok Y σ s g hs hg hE
  rw [hK] at hkn
  have hne : sealedK s K ≠ [] := by rw [← hK]; exact hne0
  refine W_seq fun kz1 kq1 => ?_
  refine W_region [2, 3, 4, 5] fun R hR => ?_   -- r0
  simp only [go_sem]
  refine hR _ _ (kq1 _ _ ?_); clear hR R; try clear kq1 kz1
  try simp only [go_sem]
  refine W_seq fun kz2 kq2 => ?_
  refine W_region [2, 3, 4, 5, 6, 7] fun R hR => ?_   -- r1
  simp only [go_sem]
  refine GCall_of (hkn Y _) ?_   -- t14
  simp only [go_sem]
  refine hR _ _ (kq2 _ _ ?_); clear hR R; try clear kq2 kz2
  try simp only [go_sem]
  refine W_seq fun kz3 kq3 => ?_
  refine W_seq fun kz4 kq4 => ?_
  refine W_region [2, 3, 4, 5, 6, 7, 18] fun R hR => ?_   -- r2
  simp only [go_sem]
  refine hR _ _ (kq4 _ _ ?_); clear hR R; try clear kq4 kz4
  try simp only [go_sem]
  refine W_cond_false rfl ?_
  refine W_skip (kq3 _ _ ?_)
  refine W_seq fun kz5 kq5 => ?_
  refine W_seq fun kz6 kq6 => ?_
  refine W_region [2, 3, 4, 5, 6, 22] fun R hR => ?_   -- r4
  simp only [go_sem]
  refine GCall_of (sealed_pc Y _ (σ.store.length + 6) (by simp only [go_sem] <;> omega) s) ?_   -- t22
  simp only [go_sem]
  refine hR _ _ (kq6 _ _ ?_); clear hR R; try clear kq6 kz6
  try simp only [go_sem]
  refine W_block ?_
  have hLc : ∀ (z : Int) (n r yy : Nat), σ.store.length + 9 ≤ n → CleanLs n r yy [some (scCells s), some (ngCells g), some [.isl [] .exact], some [I z], some (scCells s), some (ngCells g), some (.mark :: knE K), some [.map (σ.store.length + 6)], some (scCells s)] := fun z n r yy h => by
    have c1 := cleans_ng (a := n) (b := r) (c := yy) g
    have c2 := cleans_sc (a := n) (b := r) (c := yy) s
    have c3 : CleanAll n r yy (knE K) := cA_kn.mpr trivial
    have c1' : CleanAll n r yy (ngCells g) := c1
    have c2' : CleanAll n r yy (scCells s) := c2
    simp only [CleanLs_cons, CleanLs_nil, CleanAll_cons, CleanAll_nil, Cl_map, Cl_mark, Cl_isl, OwnLt_exact, Cl_int, c1', c2', c3, true_and, and_true]
    omega
  refine W_rangeFunc (gf := 81) (v := .tuple []) (s := .done .ret) (σ5 := σ.ext [some (scCells s), some (ngCells g), some [.isl [] .exact], some [I 11], some (scCells s), some (ngCells g), some (.mark :: knE K), some [.map (σ.store.length + 6)], some (scCells s)] [] [.done .ret]) rfl (by simp) (fun args ρ b' ρ' => ∃ m n : Nat, args = [.agg [I m, I n]] ∧ b' = false ∧ ρ = (σ.ext [some (scCells s), some (ngCells g), some [.isl [] .exact], some [I 0], some (scCells s), some (ngCells g), some (.mark :: knE K), some [.map (σ.store.length + 6)], some (scCells s)] [] [.ready]).ext [some [.yield σ.ys.length], some (scCells s), some [I m, I n]] [] [.busy] ∧ ρ' = (σ.ext [some (scCells s), some (ngCells g), some [.isl [] .exact], some [I 11], some (scCells s), some (ngCells g), some (.mark :: knE K), some [.map (σ.store.length + 6)], some (scCells s)] [] [.done .ret]).ext [some [.yield σ.ys.length], some (scCells s), some [I m, I n]] [] [.busy]) ?_ ?_ ?_ ?_ ?_
  · rintro args τ b τ' ⟨m, n, rfl, rfl, rfl, rfl⟩
    refine ⟨rfl, ?_, ?_⟩
    · simp only [go_sem]
    · simp only [go_sem]
      refine W_skip ?_
      simp only [go_sem, putAll]
      skip
      refine W_post_weak ?_
      refine W_block ?_
      refine W_seq fun kz7 kq7 => ?_
      refine W_region [4, 5] fun R hR => ?_   -- r5
      simp only [go_sem, putAll]
      refine hR _ _ (kq7 _ _ ?_); clear hR R; try clear kq7 kz7
      try simp only [go_sem, putAll]
      refine W_ret ?_
      simp only [go_sem, putAll]
      refine ⟨[], _, Weak.keep [], ?_⟩
      simp only [RoundEnd, go_sem]
  · have hst := sealedB_pc (Y.at σ.ys.length (fun args ρ b' ρ' => ∃ m n : Nat, args = [.agg [I m, I n]] ∧ b' = false ∧ ρ = (σ.ext [some (scCells s), some (ngCells g), some [.isl [] .exact], some [I 0], some (scCells s), some (ngCells g), some (.mark :: knE K), some [.map (σ.store.length + 6)], some (scCells s)] [] [.ready]).ext [some [.yield σ.ys.length], some (scCells s), some [I m, I n]] [] [.busy] ∧ ρ' = (σ.ext [some (scCells s), some (ngCells g), some [.isl [] .exact], some [I 11], some (scCells s), some (ngCells g), some (.mark :: knE K), some [.map (σ.store.length + 6)], some (scCells s)] [] [.done .ret]).ext [some [.yield σ.ys.length], some (scCells s), some [I m, I n]] [] [.busy])) σ σ.ys.length (σ.store.length + 8) (σ.store.length + 7) (σ.store.length + 6) s hv K (σ.ext [some (scCells s), some (ngCells g), some [.isl [] .exact], some [I 0], some (scCells s), some (ngCells g), some (.mark :: knE K), some [.map (σ.store.length + 6)], some (scCells s)] [] [.ready]) (σ.ext [some (scCells s), some (ngCells g), some [.isl [] .exact], some [I 11], some (scCells s), some (ngCells g), some (.mark :: knE K), some [.map (σ.store.length + 6)], some (scCells s)] [] [.done .ret])
      (Sg.get_ext ..) (Sg.get_ext ..) (Sg.get_ext ..) (by simp only [go_sem]) (by simp only [go_sem]) (by simp only [go_sem]) (fun _ => CleanSg_ext hcl (hLc 11 _ _ _ (by simp only [go_sem] <;> omega))) hne
      (fun m n _ => by rw [YEnv.at_self]; exact ⟨m, n, rfl, rfl, rfl, rfl⟩)
    simp only [go_sem] at hst ⊢
    exact hst
  · simp only [go_sem]
  · simp only [go_sem]
    exact CleanCut_ext hcl (by first | omega | (simp only [go_sem] <;> omega)) (by first | omega | (simp only [go_sem] <;> omega)) (Nat.le_refl _) (hLc 11 _ _ _ (by first | omega | (simp only [go_sem] <;> omega)))
  · simp only [go_sem]
    simp only [AfterLoop]
    refine W_ret ?_
    simp only [go_sem]
    refine ⟨.inr (by trivial), ?_⟩
    refine Fin_same hcl (by show resPV Tryz.prog _ _ [.cell 4 41, .cell 5 42] = some _; simp only [resPV, go_sem]; rfl) (Wk.ro (by simp only [go_sem]) ?_)
    rfl
end Go.Proofs.YtgelnjmddabgpaaGreat
namespace Go.Proofs.YtgelnjmddabgpaaGreat
set_option maxRecDepth 100000
theorem notAhd_lex {ord : List Int} {a b : Stand} : ¬ Ahd ord b a ↔ lexlt (keyS ord a) (keyS ord b) ∨ keyS ord a = keyS ord b := by
  constructor
  · intro h
    rcases lexlt_total (a := keyS ord a) (b := keyS ord b) (by rw [keyS_len, keyS_len]) with k | k | k
    · exact .inl k
    · exact .inr k
    · exact absurd (Ahd_lex.2 k) h
  · rintro (h | h) k
    · exact lexlt_irrefl (lexlt_trans h (Ahd_lex.1 k))
    · have := Ahd_lex.1 k
      rw [h] at this
      exact lexlt_irrefl this
theorem notAhd_trans {ord : List Int} {a b c : Stand} (h : ¬ Ahd ord b a) (k : ¬ Ahd ord c b) : ¬ Ahd ord c a := by
  rw [notAhd_lex] at *
  rcases h with h | h
  · rcases k with k | k
    · exact .inl (lexlt_trans h k)
    · rw [← k]; exact .inl h
  · rw [h]; exact k
theorem set2_perm {l : List Stand} {i j : Nat} {x y : Stand} (hx : l[i]? = some x) (hy : l[j]? = some y) : ((l.set i y).set j x).Perm l := by
  obtain ⟨h1, rfl⟩ := List.getElem?_eq_some_iff.1 hx
  obtain ⟨h2, rfl⟩ := List.getElem?_eq_some_iff.1 hy
  exact List.set_set_perm h1 h2
theorem sink_perm (ord : List Int) : ∀ (j : Nat) (l : List Stand), (sink ord j l).Perm l := by
  intro j
  induction j with
  | zero => intro l; exact .refl _
  | succ j ih =>
    intro l
    simp only [sink]
    split
    · rename_i hx hy
      split
      · exact (ih _).trans (set2_perm hx hy)
      · exact .refl _
    · exact .refl _
theorem sinkAll_perm (ord : List Int) : ∀ (k i : Nat) (l : List Stand), (sinkAll ord k i l).Perm l := by
  intro k
  induction k with
  | zero => intro i l; exact .refl _
  | succ k ih => intro i l; simp only [sinkAll]; exact (ih _ _).trans (sink_perm ord i l)
theorem sortSd_perm (ord : List Int) (l : List Stand) : (sortSd ord l).Perm l := sinkAll_perm _ _ _ _
/-- The first ones, up to a place, are sorted, but for one that may stand too far behind. -/
def SrtX (ord : List Int) (l : List Stand) (i j : Nat) : Prop := ∀ p q a b, p < q → q ≤ i → q ≠ j → l[p]? = some a → l[q]? = some b → ¬ Ahd ord b a
def Srt (ord : List Int) (l : List Stand) (i : Nat) : Prop := ∀ p q a b, p < q → q ≤ i → l[p]? = some a → l[q]? = some b → ¬ Ahd ord b a
theorem sink_srt (ord : List Int) (i : Nat) : ∀ (j : Nat) (l : List Stand), j ≤ i → i < l.length → SrtX ord l i j → Srt ord (sink ord j l) i := by
  intro j
  induction j with
  | zero => intro l _ _ h p q a b hpq hq; exact h p q a b hpq hq (by omega)
  | succ j ih =>
    intro l hj hl h
    obtain ⟨x, hx⟩ : ∃ x, l[j + 1]? = some x := ⟨l[j + 1]'(by omega), by simp⟩
    obtain ⟨y, hy⟩ : ∃ y, l[j]? = some y := ⟨l[j]'(by omega), by simp⟩
    simp only [sink, hx, hy]
    split
    · rename_i hlt
      refine ih _ (by omega) (by simpa using hl) ?_
      have g : ∀ r, ((l.set (j + 1) y).set j x)[r]? = if r = j then some x else if r = j + 1 then some y else l[r]? := by
        intro r
        by_cases e : r = j
        · subst e; rw [if_pos rfl, List.getElem?_set_self (by simp; omega)]
        · rw [if_neg e, List.getElem?_set_ne (fun h => e h.symm)]
          by_cases e2 : r = j + 1
          · subst e2; rw [if_pos rfl, List.getElem?_set_self (by omega)]
          · rw [if_neg e2, List.getElem?_set_ne (fun h => e2 h.symm)]
      intro p q a b hpq hq hne ha hb
      rw [g] at ha hb
      rw [if_neg hne] at hb
      by_cases e1 : q = j + 1
      · rw [if_pos e1] at hb
        cases hb
        by_cases e2 : p = j
        · rw [if_pos e2] at ha
          cases ha
          exact Ahd.asymm hlt
        · rw [if_neg e2, if_neg (by omega)] at ha
          exact h p j _ _ (by omega) (by omega) (by omega) ha hy
      · rw [if_neg e1] at hb
        by_cases e2 : p = j
        · rw [if_pos e2] at ha
          cases ha
          exact h (j + 1) q _ _ (by omega) hq (by omega) hx hb
        · rw [if_neg e2] at ha
          by_cases e3 : p = j + 1
          · rw [if_pos e3] at ha
            cases ha
            exact h j q _ _ (by omega) hq (by omega) hy hb
          · rw [if_neg e3] at ha
            exact h p q a b hpq hq (by omega) ha hb
    · rename_i hnlt
      intro p q a b hpq hq ha hb
      by_cases e : q = j + 1
      · subst e
        rw [hx] at hb
        cases hb
        by_cases e2 : p = j
        · subst e2
          rw [hy] at ha
          cases ha
          exact hnlt
        · exact notAhd_trans (h p j a y (by omega) (by omega) (by omega) ha hy) hnlt
      · exact h p q a b hpq hq e ha hb
theorem sinkAll_srt (ord : List Int) : ∀ (k i : Nat) (l : List Stand), 0 < i → i + k ≤ l.length → Srt ord l (i - 1) → Srt ord (sinkAll ord k i l) (i + k - 1) := by
  intro k
  induction k with
  | zero => intro i l _ _ h; exact h
  | succ k ih =>
    intro i l hi hl h
    simp only [sinkAll]
    have h1 := sink_srt ord i i l (Nat.le_refl _) (by omega) (fun p q a b hpq hq hne ha hb => h p q a b hpq (by omega) ha hb)
    have h2 := ih (i + 1) (sink ord i l) (by omega) (by rw [sink_len]; omega) (by rw [Nat.add_sub_cancel]; exact h1)
    rw [show i + (k + 1) - 1 = i + 1 + k - 1 by omega]
    exact h2
theorem sortSd_srt (ord : List Int) (l : List Stand) {p q : Nat} {a b : Stand} (hpq : p < q) (ha : (sortSd ord l)[p]? = some a) (hb : (sortSd ord l)[q]? = some b) : ¬ Ahd ord b a := by
  have hq := (List.getElem?_eq_some_iff.1 hb).1
  rw [sortSd_len] at hq
  have := sinkAll_srt ord (l.length - 1) 1 l (by omega) (by omega) (fun p q a b hpq hq => by omega)
  exact this p q a b hpq (by omega) ha hb
section
variable {s : Scale} {k : Kn} {g : Night} {N : Nat}
/-- The table of a night that is decided. -/
structure TabOk (s : Scale) (k : Kn) (g : Night) (N : Nat) (l : List Stand) : Prop where
  ln : l.length = N
  of : ∀ x, x ∈ l → ∃ c : Nat, c < N ∧ x = standK s k g c 0
  nd : (l.map Stand.school).Nodup
  st : ∀ (p q : Nat) (a b : Stand), p < q → l[p]? = some a → l[q]? = some b → Ahd s.order a b
  al : ∀ c : Nat, c < N → standK s k g c 0 ∈ l
theorem sd_map (f : Nat → Stand) (hf : ∀ i, (f i).school = i) (N : Nat) : (((List.range N).map f).map Stand.school).Nodup := by
  rw [List.map_map]
  have : (Stand.school ∘ f) = fun (i : Nat) => (i : Int) := by funext i; exact hf i
  rw [this]
  rw [List.nodup_iff_pairwise_ne, List.pairwise_map]
  exact (List.nodup_range (n := N)).imp fun h e => h (by omega)
theorem tbl_ok (hN : s.schools = N) : TabOk s k g N (tblP s k g) := by
  have hp := sortSd_perm s.order (sdUp s k g N)
  have e : tblP s k g = sortSd s.order (sdUp s k g N) := by unfold tblP; rw [hN, Int.toNat_natCast]
  rw [e]
  have hnd : ((sortSd s.order (sdUp s k g N)).map Stand.school).Nodup := (hp.map _).nodup_iff.2 (sd_map _ (fun i => rfl) N)
  refine ⟨by rw [sortSd_len]; simp [sdUp], fun x hx => ?_, hnd, fun p q a b hpq ha hb => ?_, fun c hc => hp.mem_iff.2 (List.mem_map.2 ⟨c, List.mem_range.2 hc, rfl⟩)⟩
  · obtain ⟨c, h1, rfl⟩ := List.mem_map.1 (hp.mem_iff.1 hx)
    exact ⟨c, List.mem_range.1 h1, rfl⟩
  · refine not_ahd (fun e => ?_) (sortSd_srt _ _ hpq ha hb)
    obtain ⟨h1, h2⟩ := List.getElem?_eq_some_iff.1 ha
    obtain ⟨h3, h4⟩ := List.getElem?_eq_some_iff.1 hb
    have := (List.pairwise_iff_getElem.1 (List.nodup_iff_pairwise_ne.1 hnd)) p q (by simpa using h1) (by simpa using h3) hpq
    simp only [List.getElem_map] at this
    rw [h2, h4] at this
    exact this e.symm
end
end Go.Proofs.YtgelnjmddabgpaaGreat
namespace Go.Proofs.YtgelnjmddabgpaaGreat
set_option maxRecDepth 100000
section
variable {s : Scale} {n : Night} {k : Kn} {g : Night} {sc : Int}
theorem decided_stand (h : NightV s n) (hd : sealedK s (knownK s n) = []) (sc u v : Int) : standK s (knownK s n) n sc u = standK s (knownK s n) n sc v := by
  have e : pointsL s (knownK s n) sc u = pointsL s (knownK s n) sc v := by
    unfold pointsL
    refine List.map_congr_left fun m hm => Int.le_antisymm ?_ ?_
    · exact points_le (fun _ => rfl) fun q hq ha => Int.le_of_eq (decided_mk h hd (mem_toI.1 hm) (mem_toI.1 hq) ha sc u v)
    · exact points_le (fun _ => rfl) fun q hq ha => Int.le_of_eq (decided_mk h hd (mem_toI.1 hm) (mem_toI.1 hq) ha sc v u)
  unfold standK
  rw [e]
theorem decided_place (h : NightV s n) (hd : sealedK s (knownK s n) = []) (sc u v u' v' : Int) : placeK s (knownK s n) n sc u v = placeK s (knownK s n) n sc u' v' := by
  unfold placeK
  congr 3
  refine List.filter_congr fun o _ => ?_
  rw [decided_stand h hd o v v', decided_stand h hd sc u u']
theorem tbl_place {N : Nat} (hN : s.schools = N) {i : Nat} (hi : (tblP s k g)[i]? = some (standK s k g sc 0)) : placeK s k g sc 0 0 = i + 1 := by
  have T := tbl_ok (s := s) (k := k) (g := g) hN
  have hp : (tblP s k g).Perm ((toI s.schools).map fun o => standK s k g o 0) := by
    have e : tblP s k g = sortSd s.order (sdUp s k g N) := by unfold tblP; rw [hN, Int.toNat_natCast]
    rw [e]
    refine (sortSd_perm s.order (sdUp s k g N)).trans (List.Perm.of_eq ?_)
    rw [toI, hN, Int.toNat_natCast, List.map_map]
    rfl
  have hc : ((toI s.schools).filter fun o => decide (o ≠ sc) && decide (cmpSt s.order (standK s k g o 0) (standK s k g sc 0) < 0)).length = (tblP s k g).countP fun x => decide (cmpSt s.order x (standK s k g sc 0) < 0) := by
    rw [← List.countP_eq_length_filter, hp.countP_eq, List.countP_map]
    refine List.countP_congr fun o _ => ?_
    simp only [Bool.and_eq_true, decide_eq_true_eq, Function.comp]
    exact ⟨fun h => h.2, fun h => ⟨fun e => by subst e; exact Ahd.irrefl h, h⟩⟩
  unfold placeK
  rw [hc]
  have hil := (List.getElem?_eq_some_iff.1 hi).1
  have h1 : ((tblP s k g).take i).countP (fun x => decide (cmpSt s.order x (standK s k g sc 0) < 0)) = i := by
    rw [List.countP_eq_length.2, List.length_take]
    · omega
    · intro x hx
      obtain ⟨p, hp1, hp2⟩ := List.mem_take_iff_getElem.1 hx
      simp only [decide_eq_true_eq]
      exact T.st p i _ _ (by omega) (by rw [← hp2]; simp) hi
  have h2 : ((tblP s k g).drop i).countP (fun x => decide (cmpSt s.order x (standK s k g sc 0) < 0)) = 0 := by
    rw [List.countP_eq_zero]
    intro x hx
    obtain ⟨p, hp1⟩ := List.mem_iff_getElem?.1 hx
    rw [List.getElem?_drop] at hp1
    simp only [decide_eq_true_eq]
    intro hlt
    cases p with
    | zero => rw [Nat.add_zero, hi] at hp1; injection hp1 with hp1; subst hp1; exact Ahd.irrefl hlt
    | succ p => exact Ahd.asymm (T.st i (i + (p + 1)) _ _ (by omega) hi hp1) hlt
  have h3 : (tblP s k g).countP (fun x => decide (cmpSt s.order x (standK s k g sc 0) < 0)) = i := by
    conv => lhs; rw [← List.take_append_drop i (tblP s k g)]
    rw [List.countP_append, h1, h2]
    rfl
  rw [h3]
  omega
end
end Go.Proofs.YtgelnjmddabgpaaGreat
namespace Go.Proofs.YtgelnjmddabgpaaGreat
open Go Go.RowKit
end Go.Proofs.YtgelnjmddabgpaaGreat
namespace Go.Proofs.YtgelnjmddabgpaaGreat
open Go Go.RowKit
set_option maxRecDepth 100000
/-- What depends on the drum's beat, and the beat behind it. -/
abbrev D (α : Type) := Int → α × Int
def dret {α : Type} (a : α) : D α := fun b => (a, b)
def dbind {α β : Type} (m : D α) (f : α → D β) : D β := fun b => f (m b).1 (m b).2
def Holds {α : Type} (m : D α) (R : α → Prop) : Prop := ∀ b, R (m b).1
theorem Holds.ret {α : Type} {a : α} {R : α → Prop} (h : R a) : Holds (dret a) R := fun _ => h
theorem Holds.bind {α β : Type} {m : D α} {f : α → D β} {R : α → Prop} {S : β → Prop} (h : Holds m R) (k : ∀ a, R a → Holds (f a) S) : Holds (dbind m f) S := fun b => k _ (h b) _
theorem Holds.mono {α : Type} {m : D α} {R S : α → Prop} (h : Holds m R) (k : ∀ a, R a → S a) : Holds m S := fun b => k _ (h b)
def xorU (a b : Int) : Int := match arith .xor .u64 a b with | some (.int _ n) => n | _ => 0
def hitB (b : Int) : Int := IntKind.u64.wrap (IntKind.u64.wrap (b * 15074714826142052245) + 11400714819323198485)
def hitM (x : Int) : Int := IntKind.u64.wrap (xorU x (x.fdiv 4294967296) * 15760922415973212899)
def hitX (b : Int) : Int := xorU (hitM (hitM (hitB b))) ((hitM (hitM (hitB b))).fdiv 4294967296)
theorem wrapU_bd (n : Int) : 0 ≤ IntKind.u64.wrap n ∧ IntKind.u64.wrap n ≤ 18446744073709551615 := by
  have h : IntKind.u64.wrap n = n % 18446744073709551616 := rfl
  rw [h]; omega
theorem hitX_bd (b : Int) : 0 ≤ hitX b ∧ hitX b ≤ 18446744073709551615 := wrapU_bd _
def roll0 (n : Int) : D Int := fun b => if n < 2 then (0, b) else ((hitX b / 2) % n, hitB b)
/-- A number drawn: sealed, so that nobody computes with it. -/
noncomputable def roll : Int → D Int := Classical.choose (⟨roll0, rfl⟩ : ∃ f, f = roll0)
theorem roll_eq : roll = fun n b => if n < 2 then (0, b) else ((hitX b / 2) % n, hitB b) := Classical.choose_spec (⟨roll0, rfl⟩ : ∃ f, f = roll0)
noncomputable def mid (lo hi : Int) : D Int := fun b => (lo + (roll (hi - lo + 1) b).1, (roll (hi - lo + 1) b).2)
noncomputable def anyOf (l : List Int) : D Int := fun b => ((l[(roll l.length b).1.toNat]?).getD 0, (roll l.length b).2)
theorem roll_bd (n : Int) : Holds (roll n) fun r => 0 ≤ r ∧ r < max n 1 := by
  intro b
  rw [roll_eq]
  dsimp only
  have := hitX_bd b
  by_cases h : n < 2
  · rw [if_pos h]; simp only []; omega
  · rw [if_neg h]
    have h1 := Int.emod_nonneg (hitX b / 2) (show n ≠ 0 by omega)
    have h2 := Int.emod_lt_of_pos (hitX b / 2) (show 0 < n by omega)
    simp only []; omega
theorem mid_bd (lo hi : Int) (h : lo ≤ hi) : Holds (mid lo hi) fun r => lo ≤ r ∧ r ≤ hi := by
  intro b
  have := roll_bd (hi - lo + 1) b
  simp only [mid] at *
  omega
theorem anyOf_mem (l : List Int) (h : l ≠ []) : Holds (anyOf l) fun r => r ∈ l := by
  intro b
  have := roll_bd l.length b
  simp only [anyOf] at *
  have hl : 0 < l.length := by cases l with | nil => exact absurd rfl h | cons => simp
  have hlt : (roll (l.length : Int) b).1.toNat < l.length := by omega
  rw [List.getElem?_eq_getElem hlt]
  exact List.getElem_mem hlt
set_option maxHeartbeats 2000000 in
theorem hit_pc (Y : YEnv) (σ : Sg) (d : Nat) (b : Int) (hd : σ.store[d]? = some (some [.int .u64 b])) :
    PC Tryz.prog Y 52 [.ptr d 0] σ (.int .u64 (hitX b)) (σ.setVar d [.int .u64 (hitB b)]) := by
  refine PC_of_W Tryz.func52 rfl (by kernel_rfl) Tryz.ntmps52 (by simp) fun hcl hca => ?_
  have hlt := lt_of_get hd
  refine W_seq fun kz1 kq1 => ?_
  refine W_region [0] fun R hR => ?_   -- r0
  simp only [go_sem, ldS_at hd, stX_at hd, ldS_sv hlt, stX_sv hlt, sv_ext hlt, sv_ext_sv hlt]
  refine hR _ _ (kq1 _ _ ?_); clear hR R; try clear kq1 kz1
  try simp only [go_sem, ldS_at hd, stX_at hd, ldS_sv hlt, stX_sv hlt, sv_ext hlt, sv_ext_sv hlt]
  refine W_seq fun kz2 kq2 => ?_
  refine W_region [0] fun R hR => ?_   -- r1
  simp only [go_sem, ldS_at hd, stX_at hd, ldS_sv hlt, stX_sv hlt, sv_ext hlt, sv_ext_sv hlt]
  try simp (disch := omega) only [wrapI, wrapU]
  refine hR _ _ (kq2 _ _ ?_); clear hR R; try clear kq2 kz2
  try simp only [go_sem, ldS_at hd, stX_at hd, ldS_sv hlt, stX_sv hlt, sv_ext hlt, sv_ext_sv hlt]
  refine W_seq fun kz3 kq3 => ?_
  refine W_region [3] fun R hR => ?_   -- r2
  simp only [go_sem, ldS_at hd, stX_at hd, ldS_sv hlt, stX_sv hlt, sv_ext hlt, sv_ext_sv hlt]
  refine hR _ _ (kq3 _ _ ?_); clear hR R; try clear kq3 kz3
  try simp only [go_sem, ldS_at hd, stX_at hd, ldS_sv hlt, stX_sv hlt, sv_ext hlt, sv_ext_sv hlt]
  refine W_seq fun kz4 kq4 => ?_
  refine W_region [3] fun R hR => ?_   -- r3
  simp only [go_sem, ldS_at hd, stX_at hd, ldS_sv hlt, stX_sv hlt, sv_ext hlt, sv_ext_sv hlt]
  try simp (disch := omega) only [wrapI, wrapU]
  refine hR _ _ (kq4 _ _ ?_); clear hR R; try clear kq4 kz4
  try simp only [go_sem, ldS_at hd, stX_at hd, ldS_sv hlt, stX_sv hlt, sv_ext hlt, sv_ext_sv hlt]
  refine W_seq fun kz5 kq5 => ?_
  refine W_region [3] fun R hR => ?_   -- r4
  simp only [go_sem, ldS_at hd, stX_at hd, ldS_sv hlt, stX_sv hlt, sv_ext hlt, sv_ext_sv hlt]
  try simp (disch := omega) only [wrapI, wrapU]
  refine hR _ _ (kq5 _ _ ?_); clear hR R; try clear kq5 kz5
  try simp only [go_sem, ldS_at hd, stX_at hd, ldS_sv hlt, stX_sv hlt, sv_ext hlt, sv_ext_sv hlt]
  refine W_seq fun kz6 kq6 => ?_
  refine W_region [2] fun R hR => ?_   -- r5
  simp only [go_sem, ldS_at hd, stX_at hd, ldS_sv hlt, stX_sv hlt, sv_ext hlt, sv_ext_sv hlt]
  refine hR _ _ (kq6 _ _ ?_); clear hR R; try clear kq6 kz6
  try simp only [go_sem, ldS_at hd, stX_at hd, ldS_sv hlt, stX_sv hlt, sv_ext hlt, sv_ext_sv hlt]
  refine W_ret ?_
  simp only [go_sem, ldS_at hd, stX_at hd, ldS_sv hlt, stX_sv hlt, sv_ext hlt, sv_ext_sv hlt]
  refine ⟨.inr (by trivial), ?_⟩
  first | refine Fin_set hcl (by simp only [go_sem]) rfl (Wk_eq ?_ (by simp only [go_sem])) | refine Fin_set0 hcl (by simp only [go_sem]) rfl (Wk_eq ?_ (by simp only [go_sem]))
  try simp only [go_sem]
  all_goals
    simp only [hitX, hitM, hitB, xorU, go_sem]; simp (disch := omega) only [wrapU]
set_option maxHeartbeats 2000000 in
theorem Roll_lo (Y : YEnv) (σ : Sg) (d : Nat) (n : Int) (hn : n < 2) :
    PC Tryz.prog Y 22 [.ptr d 0, I n] σ (I 0) (σ) := by
  refine PC_of_W Tryz.func22 rfl (by kernel_rfl) Tryz.ntmps22 (by simp) fun hcl hca => ?_
  refine W_seq fun kz1 kq1 => ?_
  refine W_region [0, 1] fun R hR => ?_   -- r0
  simp only [go_sem]
  refine hR _ _ (kq1 _ _ ?_); clear hR R; try clear kq1 kz1
  try simp only [go_sem]
  refine W_seq fun kz2 kq2 => ?_
  refine W_seq fun kz3 kq3 => ?_
  refine W_region [0, 1, 6] fun R hR => ?_   -- r1
  simp only [go_sem]
  refine hR _ _ (kq3 _ _ ?_); clear hR R; try clear kq3 kz3
  try simp only [go_sem]
  refine W_cond rfl (fun c1 => ?_) (fun c1 => ?_)
  · -- c1 true
    try simp only [nrm] at c1
    refine W_seq fun kz4 kq4 => ?_
    refine W_region [4] fun R hR => ?_   -- r2
    simp only [go_sem]
    refine hR _ _ (kq4 _ _ ?_); clear hR R; try clear kq4 kz4
    try simp only [go_sem]
    refine W_ret ?_
    simp only [go_sem]
    refine ⟨.inr (by trivial), ?_⟩
    first | refine Fin_same hcl rfl (Wk_eq ?_ (by simp only [go_sem])) | refine Fin_self hcl rfl (Wk_eq ?_ (by simp only [go_sem]))
    try simp only [go_sem]
    all_goals
      first | rfl | (simp_all; done) | (simp_all; omega)
  · -- c1 false
    try simp only [nrm] at c1
    exfalso
    omega
set_option maxHeartbeats 2000000 in
theorem Roll_hi (Y : YEnv) (σ : Sg) (d : Nat) (b : Int) (hd : σ.store[d]? = some (some [.int .u64 b])) (n : Int) (hn : 2 ≤ n) (hn2 : n < 2 ^ 62) :
    PC Tryz.prog Y 22 [.ptr d 0, I n] σ (I ((hitX b / 2) % n)) (σ.setVar d [.int .u64 (hitB b)]) := by
  refine PC_of_W Tryz.func22 rfl (by kernel_rfl) Tryz.ntmps22 (by simp) fun hcl hca => ?_
  have hlt := lt_of_get hd
  have hb := hitX_bd b
  have e1 : (hitX b).fdiv 2 = hitX b / 2 := Int.fdiv_eq_ediv_of_nonneg _ (by omega)
  have e2 : (hitX b / 2).tmod n = (hitX b / 2) % n := Int.tmod_eq_emod_of_nonneg (by omega)
  have h1 := Int.emod_nonneg (hitX b / 2) (show n ≠ 0 by omega)
  have h2 := Int.emod_lt_of_pos (hitX b / 2) (show 0 < n by omega)
  have e3 : ¬ n = 0 := by omega
  have e4 : IntKind.u64.wrap n = n := wrapU (by omega) (by omega)
  refine W_seq fun kz1 kq1 => ?_
  refine W_region [0, 1] fun R hR => ?_   -- r0
  simp only [go_sem, ldS_at hd, stX_at hd, ldS_sv hlt, stX_sv hlt, sv_ext hlt, sv_ext_sv hlt]
  refine hR _ _ (kq1 _ _ ?_); clear hR R; try clear kq1 kz1
  try simp only [go_sem, ldS_at hd, stX_at hd, ldS_sv hlt, stX_sv hlt, sv_ext hlt, sv_ext_sv hlt]
  refine W_seq fun kz2 kq2 => ?_
  refine W_seq fun kz3 kq3 => ?_
  refine W_region [0, 1, 6] fun R hR => ?_   -- r1
  simp only [go_sem, ldS_at hd, stX_at hd, ldS_sv hlt, stX_sv hlt, sv_ext hlt, sv_ext_sv hlt]
  refine hR _ _ (kq3 _ _ ?_); clear hR R; try clear kq3 kz3
  try simp only [go_sem, ldS_at hd, stX_at hd, ldS_sv hlt, stX_sv hlt, sv_ext hlt, sv_ext_sv hlt]
  refine W_cond rfl (fun c1 => ?_) (fun c1 => ?_)
  · -- c1 true
    try simp only [nrm] at c1
    exfalso
    omega
  · -- c1 false
    try simp only [nrm] at c1
    refine W_skip (kq2 _ _ ?_)
    refine W_seq fun kz4 kq4 => ?_
    refine W_region [4] fun R hR => ?_   -- r3
    simp only [go_sem, ldS_at hd, stX_at hd, ldS_sv hlt, stX_sv hlt, sv_ext hlt, sv_ext_sv hlt, e4, e1, e2, e3]
    refine GCall_of (hit_pc Y _ d b hd) ?_   -- t8
    simp only [go_sem, ldS_at hd, stX_at hd, ldS_sv hlt, stX_sv hlt, sv_ext hlt, sv_ext_sv hlt, e4, e1, e2, e3]
    try simp (disch := omega) only [wrapI, wrapU]
    refine hR _ _ (kq4 _ _ ?_); clear hR R; try clear kq4 kz4
    try simp only [go_sem, ldS_at hd, stX_at hd, ldS_sv hlt, stX_sv hlt, sv_ext hlt, sv_ext_sv hlt]
    refine W_ret ?_
    simp only [go_sem, ldS_at hd, stX_at hd, ldS_sv hlt, stX_sv hlt, sv_ext hlt, sv_ext_sv hlt]
    refine ⟨.inr (by trivial), ?_⟩
    first | refine Fin_set hcl (by simp only [go_sem]) rfl (Wk_eq ?_ (by simp only [go_sem])) | refine Fin_set0 hcl (by simp only [go_sem]) rfl (Wk_eq ?_ (by simp only [go_sem]))
    try simp only [go_sem]
    all_goals
      first | rfl | (simp_all; done) | (simp_all; omega)
theorem Roll_pc (Y : YEnv) (σ : Sg) (d : Nat) (b : Int) (hd : σ.store[d]? = some (some [.int .u64 b])) (n : Int) (hn2 : n < 2 ^ 62) : PC Tryz.prog Y 22 [.ptr d 0, I n] σ (I (roll n b).1) (σ.setVar d [.int .u64 (roll n b).2]) := by
  rw [roll_eq]
  dsimp only
  by_cases h : n < 2
  · rw [if_pos h]; simp only []; rw [sv_self hd]; exact Roll_lo Y σ d n h
  · rw [if_neg h]; exact Roll_hi Y σ d b hd n (by omega) hn2
set_option maxHeartbeats 2000000 in
theorem Mid_pc (Y : YEnv) (σ : Sg) (d : Nat) (b : Int) (hd : σ.store[d]? = some (some [.int .u64 b])) (lo hi : Int) (h1 : -2 ^ 60 ≤ lo) (h2 : lo ≤ 2 ^ 60) (h3 : -2 ^ 60 ≤ hi) (h4 : hi ≤ 2 ^ 60) :
    PC Tryz.prog Y 24 [.ptr d 0, I lo, I hi] σ (I (mid lo hi b).1) (σ.setVar d [.int .u64 (mid lo hi b).2]) := by
  refine PC_of_W Tryz.func24 rfl (by kernel_rfl) Tryz.ntmps24 (by simp) fun hcl hca => ?_
  have hlt := lt_of_get hd
  have hr := roll_bd (hi - lo + 1) b
  simp only [] at hr
  refine W_seq fun kz1 kq1 => ?_
  refine W_region [0, 1, 2] fun R hR => ?_   -- r0
  simp only [go_sem, ldS_at hd, stX_at hd, ldS_sv hlt, stX_sv hlt, sv_ext hlt, sv_ext_sv hlt]
  refine hR _ _ (kq1 _ _ ?_); clear hR R; try clear kq1 kz1
  try simp only [go_sem, ldS_at hd, stX_at hd, ldS_sv hlt, stX_sv hlt, sv_ext hlt, sv_ext_sv hlt]
  refine W_seq fun kz2 kq2 => ?_
  refine W_region [6] fun R hR => ?_   -- r1
  simp only [go_sem, ldS_at hd, stX_at hd, ldS_sv hlt, stX_sv hlt, sv_ext hlt, sv_ext_sv hlt]
  try simp (disch := omega) only [wrapI, wrapU]
  refine GCall_of (Roll_pc Y _ d b (by first | exact hd | exact sv_get hlt | exact get_svx hlt | exact get_extx hd) _ (by omega)) ?_   -- t13
  simp only [go_sem, ldS_at hd, stX_at hd, ldS_sv hlt, stX_sv hlt, sv_ext hlt, sv_ext_sv hlt]
  try simp (disch := omega) only [wrapI, wrapU]
  refine hR _ _ (kq2 _ _ ?_); clear hR R; try clear kq2 kz2
  try simp only [go_sem, ldS_at hd, stX_at hd, ldS_sv hlt, stX_sv hlt, sv_ext hlt, sv_ext_sv hlt]
  refine W_ret ?_
  simp only [go_sem, ldS_at hd, stX_at hd, ldS_sv hlt, stX_sv hlt, sv_ext hlt, sv_ext_sv hlt]
  refine ⟨.inr (by trivial), ?_⟩
  first | refine Fin_set hcl (by simp only [go_sem]) rfl (Wk_eq ?_ (by simp only [go_sem])) | refine Fin_set0 hcl (by simp only [go_sem]) rfl (Wk_eq ?_ (by simp only [go_sem]))
  try simp only [go_sem]
  all_goals
    first | rfl | (simp_all; done) | (simp_all; omega)
set_option maxHeartbeats 2000000 in
theorem Any_pc (Y : YEnv) (σ : Sg) (d : Nat) (b : Int) (hd : σ.store[d]? = some (some [.int .u64 b])) (l : List Int) (hl : l ≠ []) (hl2 : l.length < 2 ^ 50) :
    PC Tryz.prog Y 53 [.ptr d 0, .isl (l.map I) .exact] σ (I (anyOf l b).1) (σ.setVar d [.int .u64 (anyOf l b).2]) := by
  refine PC_of_W Tryz.func53 rfl (by kernel_rfl) Tryz.ntmps53 (by simp) fun hcl hca => ?_
  have hlt := lt_of_get hd
  have hr := roll_bd l.length b
  simp only [] at hr
  have hl0 : 0 < l.length := by cases l with | nil => exact absurd rfl hl | cons => simp
  have hlt2 : (roll (l.length : Int) b).1.toNat < l.length := by omega
  obtain ⟨x, hx⟩ : ∃ x, l[(roll (l.length : Int) b).1.toNat]? = some x := ⟨_, List.getElem?_eq_getElem hlt2⟩
  have hnn := hr.1
  refine W_seq fun kz1 kq1 => ?_
  refine W_region [0, 1] fun R hR => ?_   -- r0
  simp only [go_sem, ldS_at hd, stX_at hd, ldS_sv hlt, stX_sv hlt, sv_ext hlt, sv_ext_sv hlt]
  refine hR _ _ (kq1 _ _ ?_); clear hR R; try clear kq1 kz1
  try simp only [go_sem, ldS_at hd, stX_at hd, ldS_sv hlt, stX_sv hlt, sv_ext hlt, sv_ext_sv hlt]
  refine W_seq fun kz2 kq2 => ?_
  refine W_seq fun kz3 kq3 => ?_
  refine W_region [0, 1, 7] fun R hR => ?_   -- r1
  simp only [go_sem, ldS_at hd, stX_at hd, ldS_sv hlt, stX_sv hlt, sv_ext hlt, sv_ext_sv hlt]
  refine hR _ _ (kq3 _ _ ?_); clear hR R; try clear kq3 kz3
  try simp only [go_sem, ldS_at hd, stX_at hd, ldS_sv hlt, stX_sv hlt, sv_ext hlt, sv_ext_sv hlt]
  refine W_cond rfl (fun c1 => ?_) (fun c1 => ?_)
  · -- c1 true
    try simp only [nrm] at c1
    exfalso
    omega
  · -- c1 false
    try simp only [nrm] at c1
    refine W_skip (kq2 _ _ ?_)
    refine W_seq fun kz4 kq4 => ?_
    refine W_region [4] fun R hR => ?_   -- r3
    simp only [go_sem, ldS_at hd, stX_at hd, ldS_sv hlt, stX_sv hlt, sv_ext hlt, sv_ext_sv hlt, hnn, hx]
    refine GCall_of (Roll_pc Y _ d b (by first | exact hd | exact sv_get hlt | exact get_svx hlt | exact get_extx hd) _ (by omega)) ?_   -- t12
    simp only [go_sem, ldS_at hd, stX_at hd, ldS_sv hlt, stX_sv hlt, sv_ext hlt, sv_ext_sv hlt, hnn, hx]
    refine hR _ _ (kq4 _ _ ?_); clear hR R; try clear kq4 kz4
    try simp only [go_sem, ldS_at hd, stX_at hd, ldS_sv hlt, stX_sv hlt, sv_ext hlt, sv_ext_sv hlt]
    refine W_ret ?_
    simp only [go_sem, ldS_at hd, stX_at hd, ldS_sv hlt, stX_sv hlt, sv_ext hlt, sv_ext_sv hlt]
    refine ⟨.inr (by trivial), ?_⟩
    first | refine Fin_set hcl (by simp only [go_sem]) rfl (Wk_eq ?_ (by simp only [go_sem])) | refine Fin_set0 hcl (by simp only [go_sem]) rfl (Wk_eq ?_ (by simp only [go_sem]))
    try simp only [go_sem]
    all_goals
      simp only [anyOf, hx, Option.getD_some]
end Go.Proofs.YtgelnjmddabgpaaGreat
namespace Go.Proofs.YtgelnjmddabgpaaGreat
open Go Go.RowKit
set_option maxRecDepth 100000
def drumB : List Int → Int → Int
  | [], b => b
  | x :: r, b => drumB r (hitB (xorU b (IntKind.u64.wrap x)))
set_option maxHeartbeats 2000000 in
theorem DrumOf_pc (Y : YEnv) (σ : Sg) (nums : List Int) (hl : nums.length < 2 ^ 60) :
    PC Tryz.prog Y 11 [ints nums] σ (.ptr σ.store.length 0) (σ.ext [some [.int .u64 (drumB nums 2685821657736338717)]] []) := by
  refine PC_of_W Tryz.func11 rfl (by kernel_rfl) Tryz.ntmps11 (by simp) fun hcl hca => ?_
  refine W_seq fun kz1 kq1 => ?_
  refine W_region [0] fun R hR => ?_   -- r0
  simp only [go_sem]
  refine hR _ _ (kq1 _ _ ?_); clear hR R; try clear kq1 kz1
  try simp only [go_sem]
  refine W_seq fun kz2 kq2 => ?_
  refine W_region [0, 3] fun R hR => ?_   -- r1
  simp only [go_sem]
  refine hR _ _ (kq2 _ _ ?_); clear hR R; try clear kq2 kz2
  try simp only [go_sem]
  refine W_seq fun kz3 kq3 => ?_
  refine W_seq fun kz4 kq4 => ?_
  refine W_region [0, 3, 4] fun R hR => ?_   -- r2
  simp only [go_sem]
  refine hR _ _ (kq4 _ _ ?_); clear hR R; try clear kq4 kz4
  try simp only [go_sem]
  refine W_block ?_
  refine W_loopT (α := Nat × Int) (fun ⟨i, b⟩ => [(4, I i)]) (fun ⟨i, b⟩ => σ.ext [some [.int .u64 b]] []) (fun ⟨i, b⟩ => i ≤ nums.length ∧ drumB nums 2685821657736338717 = drumB (nums.drop i) b) (fun ⟨i, b⟩ => nums.length - i) ((0, 2685821657736338717)) rfl (by first | rfl | (simp only [go_sem]; done) | (simp only [go_sem]; rfl)) (⟨Nat.zero_le _, rfl⟩) ?_
  rintro ⟨i, b⟩ ⟨hi, hb⟩
  refine W_seq fun kz5 kq5 => ?_
  refine W_seq fun kz6 kq6 => ?_
  refine W_region [0, 3, 4, 10] fun R hR => ?_   -- r3
  simp only [go_sem]
  refine hR _ _ (kq6 _ _ ?_); clear hR R; try clear kq6 kz6
  try simp only [go_sem]
  refine W_cond rfl (fun c1 => ?_) (fun c1 => ?_)
  · -- c1 true
    try simp only [nrm] at c1
    have hi' : i < nums.length := by first | assumption | omega
    obtain ⟨x, hx⟩ : ∃ x, nums[i]? = some x := ⟨nums[i], by simp [hi']⟩
    have hdrop : nums.drop i = x :: nums.drop (i + 1) := by
      rw [List.drop_eq_getElem_cons hi']; congr 1; exact (List.getElem?_eq_some_iff.1 hx).2
    rw [hdrop] at hb
    simp only [drumB] at hb
    refine W_skip (kq5 _ _ ?_)
    refine W_seq fun kz7 kq7 => ?_
    refine W_block ?_
    refine W_seq fun kz8 kq8 => ?_
    refine W_draw [0, 3, 4] [0, 1, 2, 3, 4, 5, 6, 7, 8, 9, 10, 11, 12, 13] [] [[], [], [1], [1, 2], [1, 2, 3], [], [], [5, 6], [5, 6, 7], [5, 6, 7, 8], [1, 2, 3, 4, 5, 6, 7, 8, 9], [0, 1, 2, 3, 4, 5, 6, 7, 8, 9, 10], [0, 1, 2, 3, 4, 5, 6, 7, 8, 9, 10, 11], [0, 1, 2, 3, 4, 5, 6, 7, 8, 9, 10, 11, 12]] mixed (by kernel_rfl) fun R hR => ?_   -- r5
    simp only [go_sem, hx]
    try simp (disch := omega) only [wrapI, wrapU]
    try refine And.intro (by repeat' (first | refine And.intro ?_ ?_ | exact GOr_right (fun _ => by simp only [go_sem, hx]))) ?_
    refine hR _ _ (kq8 _ _ ?_); clear hR R; try clear kq8 kz8
    try simp only [go_sem, hx]
    refine W_region [0, 3, 4] fun R hR => ?_   -- r6
    simp only [go_sem, hx]
    refine GCall_of (hit_pc Y _ _ _ (Sg.get_ext0 _ _ _ _)) ?_   -- t27
    simp only [go_sem, hx]
    refine hR _ _ (kq7 _ _ ?_); clear hR R; try clear kq7 kz7
    try simp only [go_sem, hx]
    refine W_region [0, 3, 4] fun R hR => ?_   -- r4
    simp only [go_sem, hx]
    try simp (disch := omega) only [wrapI, wrapU]
    refine hR _ _ ?_; clear hR R
    try simp only [go_sem, hx]
    refine ⟨(i + 1, hitB (xorU b (IntKind.u64.wrap x))), ?_, by (try simp only []); omega, ?_⟩
    · exact Weak.eq (by rfl) (by simp only [xorU, go_sem]; simp (disch := omega) only [wrapU])
    · try dsimp only
      exact ⟨hi', hb⟩
  · -- c1 false
    try simp only [nrm] at c1
    have hdrop : nums.drop i = [] := List.drop_eq_nil_of_le (by omega)
    rw [hdrop] at hb
    simp only [drumB] at hb
    refine W_exit ?_
    simp only [go_sem]
    refine kq3 _ _ ?_
    refine W_seq fun kz9 kq9 => ?_
    refine W_region [2] fun R hR => ?_   -- r7
    simp only [go_sem]
    refine hR _ _ (kq9 _ _ ?_); clear hR R; try clear kq9 kz9
    try simp only [go_sem]
    refine W_ret ?_
    simp only [go_sem]
    refine ⟨.inr (by trivial), ?_⟩
    rw [hb]; exact Fin_ext 1 0 hcl rfl (Wk_eq rfl (by simp only [go_sem] <;> omega)) (by show CleanLs _ _ _ _; simp only [go_sem])
    try simp only [go_sem]
    all_goals
      skip
noncomputable def rare (n : Int) : D Bool := fun b => (decide ((roll n b).1 = 0), (roll n b).2)
set_option maxHeartbeats 2000000 in
theorem Rare_pc (Y : YEnv) (σ : Sg) (d : Nat) (b : Int) (hd : σ.store[d]? = some (some [.int .u64 b])) (n : Int) (hn : n < 2 ^ 62) :
    PC Tryz.prog Y 14 [.ptr d 0, I n] σ (.bool (rare n b).1) (σ.setVar d [.int .u64 (rare n b).2]) := by
  refine PC_of_W Tryz.func14 rfl (by kernel_rfl) Tryz.ntmps14 (by simp) fun hcl hca => ?_
  have hlt := lt_of_get hd
  refine W_seq fun kz1 kq1 => ?_
  refine W_region [0, 1] fun R hR => ?_   -- r0
  simp only [go_sem, ldS_at hd, stX_at hd, ldS_sv hlt, stX_sv hlt, sv_ext hlt, sv_ext_sv hlt]
  refine hR _ _ (kq1 _ _ ?_); clear hR R; try clear kq1 kz1
  try simp only [go_sem, ldS_at hd, stX_at hd, ldS_sv hlt, stX_sv hlt, sv_ext hlt, sv_ext_sv hlt]
  refine W_seq fun kz2 kq2 => ?_
  refine W_region [4] fun R hR => ?_   -- r1
  simp only [go_sem, ldS_at hd, stX_at hd, ldS_sv hlt, stX_sv hlt, sv_ext hlt, sv_ext_sv hlt]
  refine GCall_of (Roll_pc Y _ d b (by first | exact hd | exact sv_get hlt | exact get_svx hlt | exact get_extx hd) n hn) ?_   -- t7
  simp only [go_sem, ldS_at hd, stX_at hd, ldS_sv hlt, stX_sv hlt, sv_ext hlt, sv_ext_sv hlt]
  refine hR _ _ (kq2 _ _ ?_); clear hR R; try clear kq2 kz2
  try simp only [go_sem, ldS_at hd, stX_at hd, ldS_sv hlt, stX_sv hlt, sv_ext hlt, sv_ext_sv hlt]
  refine W_ret ?_
  simp only [go_sem, ldS_at hd, stX_at hd, ldS_sv hlt, stX_sv hlt, sv_ext hlt, sv_ext_sv hlt]
  refine ⟨.inr (by trivial), ?_⟩
  first | refine Fin_set hcl (by simp only [go_sem]) rfl (Wk_eq ?_ (by simp only [go_sem])) | refine Fin_set0 hcl (by simp only [go_sem]) rfl (Wk_eq ?_ (by simp only [go_sem]))
  try simp only [go_sem]
  all_goals
    congr 1
end Go.Proofs.YtgelnjmddabgpaaGreat
namespace Go.Proofs.YtgelnjmddabgpaaGreat
open Go Go.RowKit
set_option maxRecDepth 100000
/-- Two places exchanged. -/
def swapAt (l : List Int) (i k : Nat) : List Int := (l.set i ((l[k]?).getD 0)).set k ((l[i]?).getD 0)
theorem swapAt_len (l : List Int) (i k : Nat) : (swapAt l i k).length = l.length := by simp [swapAt]
theorem swapAt_perm {l : List Int} {i k : Nat} (hi : i < l.length) (hk : k < l.length) : (swapAt l i k).Perm l := by
  unfold swapAt
  rw [List.getElem?_eq_getElem hi, List.getElem?_eq_getElem hk]
  exact List.set_set_perm hi hk
noncomputable def orderA (n : Nat) : Nat → List Int → D (List Int)
  | 0, acc => dret acc
  | j + 1, acc => dbind (roll (((n - (j + 1) : Nat) : Int) + 1)) fun k => orderA n j (swapAt (acc ++ [((n - (j + 1) : Nat) : Int)]) (n - (j + 1)) k.toNat)
noncomputable def orderD (n : Nat) : D (List Int) := orderA n n []
theorem orderA_perm (n : Nat) : ∀ (j : Nat) (acc : List Int), j ≤ n → acc.Perm ((List.range (n - j)).map fun (i : Nat) => (i : Int)) → Holds (orderA n j acc) fun l => l.Perm ((List.range n).map fun (i : Nat) => (i : Int)) := by
  intro j
  induction j with
  | zero => intro acc _ h; exact .ret h
  | succ j ih =>
    intro acc hj h
    refine (roll_bd _).bind fun k hk => ih _ (by omega) ?_
    have hl : acc.length = n - (j + 1) := by rw [h.length_eq]; simp
    have hkl : k.toNat < (acc ++ [((n - (j + 1) : Nat) : Int)]).length := by simp; omega
    refine (swapAt_perm (by simp; omega) hkl).trans ?_
    have e : n - j = (n - (j + 1)) + 1 := by omega
    rw [e, List.range_succ, List.map_append]
    exact h.append_right _
theorem orderD_perm (n : Nat) : Holds (orderD n) fun l => l.Perm ((List.range n).map fun (i : Nat) => (i : Int)) := orderA_perm n n [] (Nat.le_refl _) (by simp)
theorem glI_of {l : List Int} {m : Nat} (h : l.length = m + 1) (n : Nat) : glI n l = .gsl (n + m) (m + 1) 1 := by
  cases l with
  | nil => simp at h
  | cons x l => simp only [List.length_cons] at h; simp only [glI]; rw [show l.length = m by omega]
theorem gsI_of {l : List Int} {m : Nat} (h : l.length = m + 1) : gsI l = List.replicate m none ++ [some (l.map I)] := by
  cases l with
  | nil => simp at h
  | cons x l => simp only [List.length_cons] at h; simp only [gsI]; rw [show l.length = m by omega]
theorem Weak.ungnilT {N : Nat} {lo : Nat × Nat} {E : Env} {σ : Sg} {t : Nat} (ht : E.get t = .gnil) : Weak N lo E σ (E.put (some t) (.isl [] .ro)) σ := by
  intro Ψ0 Ψ D a w hb le hr
  refine ⟨Ψ, le, hr.size, fun t' => ?_, hr.sg, hr.dsub, hr.defs⟩
  rw [get_put1]
  split
  · rename_i e
    subst e
    have hv := hr.env t'
    rw [ht] at hv
    exact VR.of_gnil hv
  · exact hr.env t'
/-- Read at last. -/
theorem Weak.readI {N : Nat} {lo : Nat × Nat} {E : Env} {σ : Sg} {t : Nat} {A : List (Option (List PV))} {rm : List Nat} {ys : List LState} {out : List Int} (ht : E.get t = glI (σ.store.length + A.length) out) :
    Weak N lo E (σ.ext (A ++ gsI out) rm ys) (E.put (some t) (ints out)) (σ.ext (A ++ List.replicate out.length none) rm ys) := by
  cases out with
  | nil =>
    have h := Weak.ungnilT (N := N) (lo := lo) (E := E) (σ := σ.ext A rm ys) (t := t) ht
    simp only [gsI, List.append_nil, List.length_nil, List.replicate_zero]
    exact h
  | cons z zs =>
    have h := Weak.freeze (N := N) (lo := lo) (E := E) (σ := σ.ext (A ++ gsI (z :: zs)) rm ys) (t := t) (id := σ.store.length + (A.length + zs.length)) (len := zs.length + 1) (es := 1) (l := (z :: zs).map I) (by rw [ht]; simp only [glI, Nat.add_assoc]) (by rw [Sg.get_ext, rowC_ints]; exact gsI_get) (by simp) (fun q hq => by obtain ⟨x, _, rfl⟩ := List.mem_map.1 hq; rfl)
    rw [Sg.drop_ext, gsI_set] at h
    have e : List.replicate (z :: zs).length (none : Option (List PV)) = List.replicate zs.length none ++ [none] := by simp [List.replicate_succ']
    rw [e]
    exact h
set_option maxHeartbeats 4000000 in
theorem Order_pc (Y : YEnv) (σ : Sg) (d : Nat) (b : Int) (hd : σ.store[d]? = some (some [.int .u64 b])) (n : Nat) (hn : n < 2 ^ 40) :
    PC Tryz.prog Y 54 [.ptr d 0, I n] σ (ints (orderD n b).1) (σ.setVar d [.int .u64 (orderD n b).2]) := by
  refine PC_of_W Tryz.func54 rfl (by kernel_rfl) Tryz.ntmps54 (by simp) fun hcl hca => ?_
  have hlt := lt_of_get hd
  obtain ⟨res, hres⟩ : ∃ r, orderD n b = r := ⟨_, rfl⟩
  rw [hres]
  refine W_seq fun kz1 kq1 => ?_
  refine W_region [0, 1] fun R hR => ?_   -- r0
  simp only [go_sem, ldS_at hd, stX_at hd, ldS_sv hlt, stX_sv hlt, sv_ext hlt, sv_ext_sv hlt]
  refine hR _ _ (kq1 _ _ ?_); clear hR R; try clear kq1 kz1
  try simp only [go_sem, ldS_at hd, stX_at hd, ldS_sv hlt, stX_sv hlt, sv_ext hlt, sv_ext_sv hlt]
  refine W_seq fun kz2 kq2 => ?_
  refine W_region [0, 1, 5] fun R hR => ?_   -- r1
  simp only [go_sem, ldS_at hd, stX_at hd, ldS_sv hlt, stX_sv hlt, sv_ext hlt, sv_ext_sv hlt]
  refine hR _ _ (kq2 _ _ ?_); clear hR R; try clear kq2 kz2
  try simp only [go_sem, ldS_at hd, stX_at hd, ldS_sv hlt, stX_sv hlt, sv_ext hlt, sv_ext_sv hlt]
  refine W_seq fun kz3 kq3 => ?_
  refine W_seq fun kz4 kq4 => ?_
  refine W_region [0, 1, 5, 6] fun R hR => ?_   -- r2
  simp only [go_sem, ldS_at hd, stX_at hd, ldS_sv hlt, stX_sv hlt, sv_ext hlt, sv_ext_sv hlt]
  refine hR _ _ (kq4 _ _ ?_); clear hR R; try clear kq4 kz4
  try simp only [go_sem, ldS_at hd, stX_at hd, ldS_sv hlt, stX_sv hlt, sv_ext hlt, sv_ext_sv hlt]
  refine W_block ?_
  refine W_weak (Weak.gnil (t := 5) rfl) ?_
  refine W_weak (Weak.keep [0, 1, 5, 6]) ?_
  simp only [go_sem]
  refine W_loopT (α := Nat × (List Int) × Int) (fun ⟨i, acc, b⟩ => [(5, glI σ.store.length acc), (6, I i)]) (fun ⟨i, acc, b⟩ => (σ.setVar d [.int .u64 b]).ext (gsI acc) []) (fun ⟨i, acc, b⟩ => i ≤ n ∧ acc.length = i ∧ res = orderA n (n - i) acc b) (fun ⟨i, acc, b⟩ => n - i) ((0, [], b)) rfl (by simp only [gsI, go_sem, sv_self hd]) (⟨Nat.zero_le _, rfl, hres.symm⟩) ?_
  rintro ⟨i, acc, b⟩ ⟨hi, hal, hinv⟩
  refine W_seq fun kz5 kq5 => ?_
  refine W_seq fun kz6 kq6 => ?_
  refine W_region [0, 1, 5, 6, 10] fun R hR => ?_   -- r3
  simp only [go_sem, ldS_at hd, stX_at hd, ldS_sv hlt, stX_sv hlt, sv_ext hlt, sv_ext_sv hlt]
  refine hR _ _ (kq6 _ _ ?_); clear hR R; try clear kq6 kz6
  try simp only [go_sem, ldS_at hd, stX_at hd, ldS_sv hlt, stX_sv hlt, sv_ext hlt, sv_ext_sv hlt]
  refine W_cond rfl (fun c1 => ?_) (fun c1 => ?_)
  · -- c1 true
    try simp only [nrm] at c1
    have hin : i < n := by first | omega | (simp at c1; omega)
    rw [show n - i = (n - (i + 1)) + 1 by omega] at hinv
    simp only [orderA, dbind] at hinv
    rw [show (n - (n - (i + 1) + 1) : Nat) = i by omega] at hinv
    have hkb := roll_bd ((i : Int) + 1) b
    obtain ⟨kz, hkz⟩ : ∃ z, (roll ((i : Int) + 1) b).1 = z := ⟨_, rfl⟩
    obtain ⟨b1, hb1⟩ : ∃ z, (roll ((i : Int) + 1) b).2 = z := ⟨_, rfl⟩
    simp only [hkz] at hkb
    obtain ⟨k, rfl⟩ : ∃ k : Nat, kz = k := ⟨kz.toNat, by omega⟩
    rw [hkz, hb1, Int.toNat_natCast] at hinv
    have hki : k < i + 1 := by omega
    have hL : (σ.setVar d [.int .u64 b1]).store.length = σ.store.length := sv_len
    have happ := appG_gl (σ := σ.setVar d [.int .u64 b1]) (A := []) (rm := []) (ys := []) (out := acc) (i : Int) (by omega)
    have hal2 : (acc ++ [(i : Int)]).length = i + 1 := by simp [hal]
    rw [glI_of hal2, gsI_of hal2] at happ
    obtain ⟨ac2, hac2⟩ : ∃ z, acc ++ [(i : Int)] = z := ⟨_, rfl⟩
    rw [hac2] at happ hal2 hinv
    simp only [go_sem, List.length_nil, hL] at happ
    obtain ⟨x, hx⟩ : ∃ z, ac2[i]? = some z := ⟨ac2[i]'(by omega), by simp⟩
    obtain ⟨y, hy⟩ : ∃ z, ac2[k]? = some z := ⟨ac2[k]'(by omega), by simp⟩
    have hsw : swapAt ac2 i k = (ac2.set i y).set k x := by simp only [swapAt, hx, hy, Option.getD_some]
    have hI1 : (i : Int) < ((i + 1 : Nat) : Int) := by omega
    have hI2 : (k : Int) < ((i + 1 : Nat) : Int) := by omega
    have hg1 : ∀ c : Option (List PV), (List.replicate i none ++ [c])[i]? = some c := fun c => by rw [List.getElem?_append_right (by simp)]; simp
    have hg2 : ∀ c c2 : Option (List PV), (List.replicate i none ++ [c]).set i c2 = List.replicate i none ++ [c2] := fun c c2 => by rw [List.set_append_right _ _ (by simp)]; simp
    have hm1 : i + 1 ≤ ac2.length := by omega
    have hm2 : k + 1 ≤ ac2.length := by omega
    have hsl : (swapAt ac2 i k).length = i + 1 := by rw [swapAt_len]; exact hal2
    refine W_skip (kq5 _ _ ?_)
    refine W_seq fun kz7 kq7 => ?_
    refine W_block ?_
    refine W_seq fun kz8 kq8 => ?_
    refine W_region [0, 1, 5, 6, 7] fun R hR => ?_   -- r5
    simp only [go_sem, ldS_at hd, stX_at hd, ldS_sv hlt, stX_sv hlt, sv_ext hlt, sv_ext_sv hlt, hkz, hb1, hL]
    try simp (disch := omega) only [wrapI, wrapU]
    refine GCall_of (Roll_pc Y _ d b (by first | exact hd | exact sv_get hlt | exact get_svx hlt | exact get_extx hd) ((i : Int) + 1) (by omega)) ?_   -- t16
    simp only [go_sem, ldS_at hd, stX_at hd, ldS_sv hlt, stX_sv hlt, sv_ext hlt, sv_ext_sv hlt, hkz, hb1, hL]
    try simp (disch := omega) only [wrapI, wrapU]
    refine hR _ _ (kq8 _ _ ?_); clear hR R; try clear kq8 kz8
    try simp only [go_sem, ldS_at hd, stX_at hd, ldS_sv hlt, stX_sv hlt, sv_ext hlt, sv_ext_sv hlt, hkz, hb1, hL]
    refine W_seq fun kz9 kq9 => ?_
    refine W_region [0, 1, 5, 6, 7] fun R hR => ?_   -- r6
    simp only [go_sem, ldS_at hd, stX_at hd, ldS_sv hlt, stX_sv hlt, sv_ext hlt, sv_ext_sv hlt, hkz, hb1, hL, happ]
    try simp (disch := first | omega | (simp only [go_sem] <;> omega)) only [wrapI, wrapU, appX_exact, appX_tok]
    try simp only [go_sem, ldS_at hd, stX_at hd, ldS_sv hlt, stX_sv hlt, sv_ext hlt, sv_ext_sv hlt, hkz, hb1, hL, happ]
    refine hR _ _ (kq9 _ _ ?_); clear hR R; try clear kq9 kz9
    try simp only [go_sem, ldS_at hd, stX_at hd, ldS_sv hlt, stX_sv hlt, sv_ext hlt, sv_ext_sv hlt, hkz, hb1, hL]
    refine W_draw [0, 1, 5, 6] [0, 1, 2, 3, 4, 5, 6, 7, 8, 9, 10, 11, 12, 13, 14, 15] [(2, 15), (3, 15)] [[], [], [], [], [], [], [4, 5], [4, 5, 6], [], [], [8, 9], [8, 9, 10], [0, 1, 4, 5, 6, 7, 8, 9, 10, 11], [0, 1, 4, 5, 6, 7, 8, 9, 10, 11, 12], [0, 1, 2, 3, 4, 5, 6, 7, 8, 9, 10, 11, 12, 13], [0, 1, 2, 3, 4, 5, 6, 7, 8, 9, 10, 11, 12, 13, 14]] mixed (by kernel_rfl) fun R hR => ?_   -- r7
    simp only [go_sem, ldS_at hd, stX_at hd, ldS_sv hlt, stX_sv hlt, sv_ext hlt, sv_ext_sv hlt, hkz, hb1, hL, hI1, hI2, iaM_nat (Int.ofNat_lt.1 hI1), iaM_nat (Int.ofNat_lt.1 hI2), Nat.mul_one, Nat.zero_add, hg1, hg2, hx, hy, hm1, hm2, List.getElem?_map, List.length_set]
    try refine And.intro (by repeat' (first | refine And.intro ?_ ?_ | exact GOr_right (fun _ => by simp only [go_sem, ldS_at hd, stX_at hd, ldS_sv hlt, stX_sv hlt, sv_ext hlt, sv_ext_sv hlt, hkz, hb1, hL, hI1, hI2, iaM_nat (Int.ofNat_lt.1 hI1), iaM_nat (Int.ofNat_lt.1 hI2), Nat.mul_one, Nat.zero_add, hg1, hg2, hx, hy, hm1, hm2, List.getElem?_map, List.length_set]))) ?_
    refine hR _ _ (kq7 _ _ ?_); clear hR R; try clear kq7 kz7
    try simp only [go_sem, ldS_at hd, stX_at hd, ldS_sv hlt, stX_sv hlt, sv_ext hlt, sv_ext_sv hlt, hkz, hb1, hL]
    refine W_region [0, 1, 5, 6] fun R hR => ?_   -- r4
    simp only [go_sem, ldS_at hd, stX_at hd, ldS_sv hlt, stX_sv hlt, sv_ext hlt, sv_ext_sv hlt, hkz, hb1, hL]
    try simp (disch := omega) only [wrapI, wrapU]
    refine hR _ _ ?_; clear hR R
    try simp only [go_sem, ldS_at hd, stX_at hd, ldS_sv hlt, stX_sv hlt, sv_ext hlt, sv_ext_sv hlt, hkz, hb1, hL]
    refine ⟨(i + 1, swapAt ac2 i k, b1), ?_, by (try simp only []); omega, ?_⟩
    · refine Weak.eq ?_ ?_
      · simp only [go_sem, glI_of hsl]
        first | done | rfl | simp
      · rw [gsI_of hsl, hsw]
    · try dsimp only
      exact ⟨by omega, hsl, by rw [hinv]⟩
  · -- c1 false
    try simp only [nrm] at c1
    have hie : n = i := by first | omega | (simp at c1; omega)
    subst hie
    rw [Nat.sub_self] at hinv
    simp only [orderA, dret] at hinv
    refine W_exit ?_
    simp only [go_sem, ldS_at hd, stX_at hd, ldS_sv hlt, stX_sv hlt, sv_ext hlt, sv_ext_sv hlt]
    refine kq3 _ _ ?_
    refine W_seq fun kz10 kq10 => ?_
    refine W_weak (Weak.readI (t := 5) (A := []) (out := acc) (by simp only [go_sem, sv_len])) ?_
    refine W_weak (Weak.keep [5]) ?_
    simp only [go_sem]
    refine W_region [4] fun R hR => ?_   -- r8
    simp only [go_sem, ldS_at hd, stX_at hd, ldS_sv hlt, stX_sv hlt, sv_ext hlt, sv_ext_sv hlt]
    refine hR _ _ (kq10 _ _ ?_); clear hR R; try clear kq10 kz10
    try simp only [go_sem, ldS_at hd, stX_at hd, ldS_sv hlt, stX_sv hlt, sv_ext hlt, sv_ext_sv hlt]
    refine W_ret ?_
    simp only [go_sem, ldS_at hd, stX_at hd, ldS_sv hlt, stX_sv hlt, sv_ext hlt, sv_ext_sv hlt]
    refine ⟨.inr (by trivial), ?_⟩
    rw [hinv]; refine Fin_set hcl (by simp only [go_sem]) rfl (Wk_eq rfl ?_)
    try simp only [go_sem]
    all_goals
      simp only [go_sem]
end Go.Proofs.YtgelnjmddabgpaaGreat
namespace Go.Proofs.YtgelnjmddabgpaaGreat
open Go Go.RowKit
set_option maxRecDepth 100000
def rJudge (s : Scale) (j : Int × Int) : Int := if ofSc s j then 0 else 7
def rMarks (s : Scale) (l : List Int) : Int := if (l.length : Int) ≠ s.schools then 1 else if outMarks s l then 2 else 0
theorem marked_r (s : Scale) (j : Int × Int) (l : List Int) : marked s j l = if rJudge s j ≠ 0 then rJudge s j else rMarks s l := by
  unfold marked rJudge rMarks
  cases ofSc s j <;> simp
theorem has_take {l : List Int} {k : Nat} {z v : Int} (h : l[k]? = some z) : has (l.take (k + 1)) v = (has (l.take k) v || decide (z = v)) := by
  rw [List.take_add_one, h]
  simp [has, List.any_append]
theorem outMarks_cons (s : Scale) (x : Int) (l : List Int) : outMarks s (x :: l) = (!(inR x s.low s.high) || outMarks s l) := rfl
theorem outMarks_nil (s : Scale) : outMarks s [] = false := rfl
set_option maxHeartbeats 2000000 in
theorem rin_pc (Y : YEnv) (σ : Sg) (n lo hi : Int) :
    PC Tryz.prog Y 66 [I n, I lo, I hi] σ (.bool (inR n lo hi)) (σ) := by
  refine PC_of_W Tryz.func66 rfl (by kernel_rfl) Tryz.ntmps66 (by simp) fun hcl hca => ?_
  refine W_seq fun kz1 kq1 => ?_
  refine W_region [0, 1, 2] fun R hR => ?_   -- r0
  simp only [go_sem]
  refine hR _ _ (kq1 _ _ ?_); clear hR R; try clear kq1 kz1
  try simp only [go_sem]
  refine W_seq fun kz2 kq2 => ?_
  refine W_region [6] fun R hR => ?_   -- r1
  simp only [go_sem]
  refine GWant_split (fun g1 => ?_) (fun g1 => ?_)
  · try simp only [Bool.not_eq_true', Bool.not_eq_false'] at g1
    have n1 := g1; try simp only [nrm] at n1
    simp only [go_sem, g1]
    refine hR _ _ (kq2 _ _ ?_); clear hR R; try clear kq2 kz2
    try simp only [go_sem]
    refine W_ret ?_
    simp only [go_sem]
    refine ⟨.inr (by trivial), ?_⟩
    first | refine Fin_same hcl rfl (Wk_eq ?_ (by simp only [go_sem])) | refine Fin_self hcl rfl (Wk_eq ?_ (by simp only [go_sem]))
    try simp only [go_sem]
    all_goals
      simp [inR, *]
  · try simp only [Bool.not_eq_true', Bool.not_eq_false'] at g1
    have n1 := g1; try simp only [nrm] at n1
    simp only [go_sem, g1]
    refine hR _ _ (kq2 _ _ ?_); clear hR R; try clear kq2 kz2
    try simp only [go_sem]
    refine W_ret ?_
    simp only [go_sem]
    refine ⟨.inr (by trivial), ?_⟩
    first | refine Fin_same hcl rfl (Wk_eq ?_ (by simp only [go_sem])) | refine Fin_self hcl rfl (Wk_eq ?_ (by simp only [go_sem]))
    try simp only [go_sem]
    all_goals
      simp [inR, *]
set_option maxHeartbeats 4000000 in
theorem rCheck_pc (Y : YEnv) (σ : Sg) (s : Scale) (hs : s.Ok) :
    PC Tryz.prog Y 44 [scPV s] σ (I (chkSc s)) (σ) := by
  refine PC_of_W Tryz.func44 rfl (by kernel_rfl) Tryz.ntmps44 (by simp) fun hcl hca => ?_
  have ho := hs.ho
  obtain ⟨res, hres⟩ : ∃ r, chkSc s = r := ⟨_, rfl⟩
  rw [hres]
  refine W_seq fun kz1 kq1 => ?_
  refine W_region [1] fun R hR => ?_   -- r0
  simp only [go_sem]
  refine hR _ _ (kq1 _ _ ?_); clear hR R; try clear kq1 kz1
  try simp only [go_sem]
  refine W_seq fun kz2 kq2 => ?_
  refine W_seq fun kz3 kq3 => ?_
  refine W_regionJ [1, 41] [(41, .bool (!scRange s))] ?_ fun R hR => ?_   -- r1
  · refine kq3 _ _ ?_
    simp only [go_sem]
    refine W_cond rfl (fun c1 => ?_) (fun c1 => ?_)
    · -- c1 true
      try simp only [nrm] at c1
      refine W_seq fun kz4 kq4 => ?_
      refine W_region [2] fun R hR => ?_   -- r2
      simp only [go_sem]
      refine hR _ _ (kq4 _ _ ?_); clear hR R; try clear kq4 kz4
      try simp only [go_sem]
      refine W_ret ?_
      simp only [go_sem]
      refine ⟨.inr (by trivial), ?_⟩
      first | refine Fin_same hcl rfl (Wk_eq ?_ (by simp only [go_sem])) | refine Fin_self hcl rfl (Wk_eq ?_ (by simp only [go_sem]))
      try simp only [go_sem]
      all_goals
        first | rfl | (simp_all; done) | (simp_all; omega) | (rw [← hres]; simp only [chkSc]; (repeat' split) <;> ((first | rfl | omega | (simp_all; done) | (simp_all; omega))))
    · -- c1 false
      try simp only [nrm] at c1
      have d2 : scRange s = true := by simpa using c1
      have d4 := d2
      simp only [scRange, Bool.and_eq_true, inR_true] at d4
      refine W_skip (kq2 _ _ ?_)
      refine W_seq fun kz5 kq5 => ?_
      refine W_seq fun kz6 kq6 => ?_
      refine W_region [1, 46] fun R hR => ?_   -- r3
      simp only [go_sem]
      refine hR _ _ (kq6 _ _ ?_); clear hR R; try clear kq6 kz6
      try simp only [go_sem]
      refine W_cond rfl (fun c2 => ?_) (fun c2 => ?_)
      · -- c2 true
        try simp only [nrm] at c2
        refine W_seq fun kz7 kq7 => ?_
        refine W_region [2] fun R hR => ?_   -- r4
        simp only [go_sem]
        refine hR _ _ (kq7 _ _ ?_); clear hR R; try clear kq7 kz7
        try simp only [go_sem]
        refine W_ret ?_
        simp only [go_sem]
        refine ⟨.inr (by trivial), ?_⟩
        first | refine Fin_same hcl rfl (Wk_eq ?_ (by simp only [go_sem])) | refine Fin_self hcl rfl (Wk_eq ?_ (by simp only [go_sem]))
        try simp only [go_sem]
        all_goals
          first | rfl | (simp_all; done) | (simp_all; omega) | (rw [← hres]; simp only [chkSc]; (repeat' split) <;> ((first | rfl | omega | (simp_all; done) | (simp_all; omega))))
      · -- c2 false
        try simp only [nrm] at c2
        refine W_skip (kq5 _ _ ?_)
        refine W_seq fun kz8 kq8 => ?_
        refine W_seq fun kz9 kq9 => ?_
        refine W_region [1, 52] fun R hR => ?_   -- r5
        simp only [go_sem]
        refine hR _ _ (kq9 _ _ ?_); clear hR R; try clear kq9 kz9
        try simp only [go_sem]
        refine W_cond rfl (fun c3 => ?_) (fun c3 => ?_)
        · -- c3 true
          try simp only [nrm] at c3
          refine W_seq fun kz10 kq10 => ?_
          refine W_region [2] fun R hR => ?_   -- r6
          simp only [go_sem]
          refine hR _ _ (kq10 _ _ ?_); clear hR R; try clear kq10 kz10
          try simp only [go_sem]
          refine W_ret ?_
          simp only [go_sem]
          refine ⟨.inr (by trivial), ?_⟩
          first | refine Fin_same hcl rfl (Wk_eq ?_ (by simp only [go_sem])) | refine Fin_self hcl rfl (Wk_eq ?_ (by simp only [go_sem]))
          try simp only [go_sem]
          all_goals
            first | rfl | (simp_all; done) | (simp_all; omega) | (rw [← hres]; simp only [chkSc]; (repeat' split) <;> ((first | rfl | omega | (simp_all; done) | (simp_all; omega))))
        · -- c3 false
          try simp only [nrm] at c3
          refine W_skip (kq8 _ _ ?_)
          refine W_seq fun kz11 kq11 => ?_
          refine W_seq fun kz12 kq12 => ?_
          refine W_region [1, 3] fun R hR => ?_   -- r7
          simp only [go_sem]
          refine hR _ _ (kq12 _ _ ?_); clear hR R; try clear kq12 kz12
          try simp only [go_sem]
          refine W_block ?_
          refine W_loopS (α := Nat) (fun (i : Nat) => [(3, I i)]) (fun (i : Nat) => i ≤ s.order.length ∧ res = chkOrd s.matters (s.order.take i) (s.order.drop i)) (fun (i : Nat) => s.order.length - i) (0) rfl (⟨Nat.zero_le _, by rw [← hres]; simp [chkSc, *] <;> omega⟩) ?_
          rintro i ⟨hi, hinv⟩
          refine W_seq fun kz13 kq13 => ?_
          refine W_seq fun kz14 kq14 => ?_
          refine W_region [1, 3, 57] fun R hR => ?_   -- r8
          simp only [go_sem]
          refine hR _ _ (kq14 _ _ ?_); clear hR R; try clear kq14 kz14
          try simp only [go_sem]
          refine W_cond rfl (fun c4 => ?_) (fun c4 => ?_)
          · -- c4 true
            try simp only [nrm] at c4
            have hi' : i < s.order.length := by first | assumption | omega
            obtain ⟨x, hx⟩ : ∃ x, s.order[i]? = some x := ⟨s.order[i], by simp [hi']⟩
            have hdrop : s.order.drop i = x :: s.order.drop (i + 1) := by
              rw [List.drop_eq_getElem_cons hi']; congr 1; exact (List.getElem?_eq_some_iff.1 hx).2
            rw [hdrop] at hinv
            simp only [chkOrd] at hinv
            have htk : s.order.take i ++ [x] = s.order.take (i + 1) := by rw [List.take_add_one, hx]; rfl
            rw [htk] at hinv
            refine W_skip (kq13 _ _ ?_)
            refine W_seq fun kz15 kq15 => ?_
            refine W_block ?_
            refine W_seq fun kz16 kq16 => ?_
            refine W_seq fun kz17 kq17 => ?_
            refine W_draw [1, 3, 69] [0, 1, 2, 3, 4, 5, 6, 7, 8, 9] [] [[], [0], [], [0, 1, 2], [0, 1, 2, 3], [], [5], [5, 6], [0, 1, 2, 3, 4, 5, 6, 7], [0, 1, 2, 3, 4, 5, 6, 7, 8]] mixed (by kernel_rfl) fun R hR => ?_   -- r10
            simp only [go_sem, hx]
            try simp (disch := omega) only [wrapI, wrapU]
            refine GCall_of (rin_pc Y _ x 0 _) ?_   -- t68
            simp only [go_sem, hx]
            try simp (disch := omega) only [wrapI, wrapU]
            try refine And.intro (by repeat' (first | refine And.intro ?_ ?_ | exact GOr_right (fun _ => by simp only [go_sem, hx]))) ?_
            refine hR _ _ (kq17 _ _ ?_); clear hR R; try clear kq17 kz17
            try simp only [go_sem, hx]
            refine W_cond rfl (fun c5 => ?_) (fun c5 => ?_)
            · -- c5 true
              try simp only [nrm] at c5
              refine W_seq fun kz18 kq18 => ?_
              refine W_region [2] fun R hR => ?_   -- r11
              simp only [go_sem, hx]
              refine hR _ _ (kq18 _ _ ?_); clear hR R; try clear kq18 kz18
              try simp only [go_sem, hx]
              refine W_ret ?_
              simp only [go_sem, hx]
              refine ⟨.inr (by trivial), ?_⟩
              first | refine Fin_same hcl rfl (Wk_eq ?_ (by simp only [go_sem])) | refine Fin_self hcl rfl (Wk_eq ?_ (by simp only [go_sem]))
              try simp only [go_sem]
              all_goals
                first | rfl | (simp_all; done) | (simp_all; omega) | (rw [← hres]; simp only [chkSc]; (repeat' split) <;> ((first | rfl | omega | (simp_all; done) | (simp_all; omega))))
            · -- c5 false
              try simp only [nrm] at c5
              refine W_skip (kq16 _ _ ?_)
              refine W_seq fun kz19 kq19 => ?_
              refine W_region [1, 3, 4] fun R hR => ?_   -- r12
              simp only [go_sem, hx]
              refine hR _ _ (kq19 _ _ ?_); clear hR R; try clear kq19 kz19
              try simp only [go_sem, hx]
              refine W_block ?_
              refine W_loopS (α := Nat) (fun (k : Nat) => [(4, I k)]) (fun (k : Nat) => k ≤ i ∧ has (s.order.take k) x = false) (fun (k : Nat) => i - k) (0) rfl (⟨Nat.zero_le _, rfl⟩) ?_
              rintro k ⟨hk, hh⟩
              refine W_seq fun kz20 kq20 => ?_
              refine W_seq fun kz21 kq21 => ?_
              refine W_region [1, 3, 4, 72] fun R hR => ?_   -- r13
              simp only [go_sem, hx]
              refine hR _ _ (kq21 _ _ ?_); clear hR R; try clear kq21 kz21
              try simp only [go_sem, hx]
              refine W_cond rfl (fun c6 => ?_) (fun c6 => ?_)
              · -- c6 true
                try simp only [nrm] at c6
                have hk' : k < i := by first | assumption | omega | (simp at c6; omega)
                obtain ⟨z, hz⟩ : ∃ z, s.order[k]? = some z := ⟨s.order[k]'(by omega), by simp⟩
                have hht := has_take hz (v := x)
                refine W_skip (kq20 _ _ ?_)
                refine W_seq fun kz22 kq22 => ?_
                refine W_block ?_
                refine W_seq fun kz23 kq23 => ?_
                refine W_draw [1, 3, 4, 85] [0, 1, 2, 3, 4, 5, 6, 7, 8, 9, 10] [] [[], [0], [], [0, 1, 2], [0, 1, 2, 3], [], [5], [], [5, 6, 7], [5, 6, 7, 8], [0, 1, 2, 3, 4, 5, 6, 7, 8, 9]] mixed (by kernel_rfl) fun R hR => ?_   -- r15
                simp only [go_sem, hx, hz]
                try refine And.intro (by repeat' (first | refine And.intro ?_ ?_ | exact GOr_right (fun _ => by simp only [go_sem, hx, hz]))) ?_
                refine hR _ _ (kq23 _ _ ?_); clear hR R; try clear kq23 kz23
                try simp only [go_sem, hx, hz]
                refine W_cond rfl (fun c7 => ?_) (fun c7 => ?_)
                · -- c7 true
                  try simp only [nrm] at c7
                  refine W_seq fun kz24 kq24 => ?_
                  refine W_region [2] fun R hR => ?_   -- r16
                  simp only [go_sem, hx, hz]
                  refine hR _ _ (kq24 _ _ ?_); clear hR R; try clear kq24 kz24
                  try simp only [go_sem, hx, hz]
                  refine W_ret ?_
                  simp only [go_sem, hx, hz]
                  refine ⟨.inr (by trivial), ?_⟩
                  first | refine Fin_same hcl rfl (Wk_eq ?_ (by simp only [go_sem])) | refine Fin_self hcl rfl (Wk_eq ?_ (by simp only [go_sem]))
                  try simp only [go_sem]
                  all_goals
                    have hall : has (s.order.take i) x = true := by
                      rw [has_iff]
                      have h1 : z = x := by first | exact c7 | simpa using c7
                      rw [← h1]
                      refine List.mem_of_getElem? (i := k) ?_
                      rw [List.getElem?_take_of_lt hk']; exact hz
                    simp_all
                · -- c7 false
                  try simp only [nrm] at c7
                  refine W_skip (kq22 _ _ ?_)
                  refine W_region [1, 3, 4] fun R hR => ?_   -- r14
                  simp only [go_sem, hx, hz]
                  try simp (disch := omega) only [wrapI, wrapU]
                  refine hR _ _ ?_; clear hR R
                  try simp only [go_sem, hx, hz]
                  refine ⟨k + 1, ?_, by (try simp only []); omega, ?_⟩
                  · first | exact Weak.refl | exact Weak.eq (by first | rfl | (simp only [go_sem]; done) | (simp only [go_sem]; rfl) | (simp [go_sem]; done) | (simp [go_sem]; omega)) (by first | rfl | (simp only [go_sem]; done) | (simp [go_sem]; done))
                  · try dsimp only
                    exact ⟨hk', by rw [hht, hh]; simp [*]⟩
              · -- c6 false
                try simp only [nrm] at c6
                have hke : i = k := by first | omega | (simp at c6; omega)
                have hhi : has (s.order.take i) x = false := by rw [hke]; exact hh
                refine W_exit ?_
                simp only [go_sem, hx]
                refine kq15 _ _ ?_
                refine W_region [1, 3] fun R hR => ?_   -- r9
                simp only [go_sem, hx]
                try simp (disch := omega) only [wrapI, wrapU]
                refine hR _ _ ?_; clear hR R
                try simp only [go_sem, hx]
                refine ⟨i + 1, ?_, by (try simp only []); omega, ?_⟩
                · first | exact Weak.refl | exact Weak.eq (by first | rfl | (simp only [go_sem]; done) | (simp only [go_sem]; rfl) | (simp [go_sem]; done) | (simp [go_sem]; omega)) (by first | rfl | (simp only [go_sem]; done) | (simp [go_sem]; done))
                · try dsimp only
                  exact ⟨hi', by simp_all⟩
          · -- c4 false
            try simp only [nrm] at c4
            have hdrop : s.order.drop i = [] := List.drop_eq_nil_of_le (by omega)
            rw [hdrop] at hinv
            simp only [chkOrd] at hinv
            refine W_exit ?_
            simp only [go_sem]
            refine kq11 _ _ ?_
            refine W_seq fun kz25 kq25 => ?_
            refine W_region [2] fun R hR => ?_   -- r17
            simp only [go_sem]
            refine hR _ _ (kq25 _ _ ?_); clear hR R; try clear kq25 kz25
            try simp only [go_sem]
            refine W_ret ?_
            simp only [go_sem]
            refine ⟨.inr (by trivial), ?_⟩
            first | refine Fin_same hcl rfl (Wk_eq ?_ (by simp only [go_sem])) | refine Fin_self hcl rfl (Wk_eq ?_ (by simp only [go_sem]))
            try simp only [go_sem]
            all_goals
              first | rfl | (simp_all; done) | (simp_all; omega) | (rw [← hres]; simp only [chkSc]; (repeat' split) <;> ((first | rfl | omega | (simp_all; done) | (simp_all; omega))))
  · simp only [go_sem]
    refine GCall_of (rin_pc Y _ s.schools 1 8) ?_   -- t7
    simp only [go_sem]
    refine GWant_split (fun g1 => ?_) (fun g1 => ?_)
    · try simp only [Bool.not_eq_true', Bool.not_eq_false'] at g1
      have n1 := g1; try simp only [nrm] at n1
      simp only [go_sem, g1]
      refine GCall_of (rin_pc Y _ s.matters 1 6) ?_   -- t12
      simp only [go_sem, g1]
      refine GWant_split (fun g2 => ?_) (fun g2 => ?_)
      · try simp only [Bool.not_eq_true', Bool.not_eq_false'] at g2
        have n2 := g2; try simp only [nrm] at n2
        simp only [go_sem, g1, g2]
        refine GCall_of (rin_pc Y _ s.judges 1 5) ?_   -- t18
        simp only [go_sem, g1, g2]
        refine GWant_split (fun g3 => ?_) (fun g3 => ?_)
        · try simp only [Bool.not_eq_true', Bool.not_eq_false'] at g3
          have n3 := g3; try simp only [nrm] at n3
          have d3 : inR s.judges 1 5 = true := by simp_all
          simp only [inR_true] at d3
          simp only [go_sem, g1, g2, g3]
          try simp (disch := omega) only [wrapI, wrapU]
          refine GCall_of (rin_pc Y _ s.drop 0 _) ?_   -- t27
          simp only [go_sem, g1, g2, g3]
          refine GWant_split (fun g4 => ?_) (fun g4 => ?_)
          · try simp only [Bool.not_eq_true', Bool.not_eq_false'] at g4
            have n4 := g4; try simp only [nrm] at n4
            try simp (disch := omega) only [wrapI, wrapU] at n4
            simp only [go_sem, g1, g2, g3, g4]
            try simp (disch := omega) only [wrapI, wrapU]
            refine GCall_of (rin_pc Y _ s.low 0 100) ?_   -- t33
            simp only [go_sem, g1, g2, g3, g4]
            refine GWant_split (fun g5 => ?_) (fun g5 => ?_)
            · try simp only [Bool.not_eq_true', Bool.not_eq_false'] at g5
              have n5 := g5; try simp only [nrm] at n5
              try simp (disch := omega) only [wrapI, wrapU] at n5
              simp only [go_sem, g1, g2, g3, g4, g5]
              try simp (disch := omega) only [wrapI, wrapU]
              refine GCall_of (rin_pc Y _ s.high 0 100) ?_   -- t39
              simp only [go_sem, g1, g2, g3, g4, g5]
              try simp (disch := omega) only [wrapI, wrapU]
              refine hR _ ?_
              all_goals try simp only [go_sem]
              all_goals
                simp [scRange, *]
            · try simp only [Bool.not_eq_true', Bool.not_eq_false'] at g5
              have n5 := g5; try simp only [nrm] at n5
              try simp (disch := omega) only [wrapI, wrapU] at n5
              simp only [go_sem, g1, g2, g3, g4, g5]
              try simp (disch := omega) only [wrapI, wrapU]
              refine hR _ ?_
              all_goals try simp only [go_sem]
              all_goals
                simp [scRange, *]
          · try simp only [Bool.not_eq_true', Bool.not_eq_false'] at g4
            have n4 := g4; try simp only [nrm] at n4
            try simp (disch := omega) only [wrapI, wrapU] at n4
            simp only [go_sem, g1, g2, g3, g4]
            try simp (disch := omega) only [wrapI, wrapU]
            refine hR _ ?_
            all_goals try simp only [go_sem]
            all_goals
              simp [scRange, *]
        · try simp only [Bool.not_eq_true', Bool.not_eq_false'] at g3
          have n3 := g3; try simp only [nrm] at n3
          simp only [go_sem, g1, g2, g3]
          try simp (disch := omega) only [wrapI, wrapU]
          refine hR _ ?_
          all_goals try simp only [go_sem]
          all_goals
            simp [scRange, *]
      · try simp only [Bool.not_eq_true', Bool.not_eq_false'] at g2
        have n2 := g2; try simp only [nrm] at n2
        simp only [go_sem, g1, g2]
        try simp (disch := omega) only [wrapI, wrapU]
        refine hR _ ?_
        all_goals try simp only [go_sem]
        all_goals
          simp [scRange, *]
    · try simp only [Bool.not_eq_true', Bool.not_eq_false'] at g1
      have n1 := g1; try simp only [nrm] at n1
      simp only [go_sem, g1]
      try simp (disch := omega) only [wrapI, wrapU]
      refine hR _ ?_
      all_goals try simp only [go_sem]
      all_goals
        simp [scRange, *]
set_option maxHeartbeats 2000000 in
theorem rJudge_pc (Y : YEnv) (σ : Sg) (s : Scale) (a b : Int) (h : s.V) :
    PC Tryz.prog Y 70 [scPV s, I a, I b] σ (I (rJudge s (a, b))) (σ) := by
  refine PC_of_W Tryz.func70 rfl (by kernel_rfl) Tryz.ntmps70 (by simp) fun hcl hca => ?_
  have h1 := h.mt
  have h2 := h.jd
  refine W_seq fun kz1 kq1 => ?_
  refine W_region [1, 2, 3] fun R hR => ?_   -- r0
  simp only [go_sem]
  refine hR _ _ (kq1 _ _ ?_); clear hR R; try clear kq1 kz1
  try simp only [go_sem]
  refine W_seq fun kz2 kq2 => ?_
  refine W_seq fun kz3 kq3 => ?_
  refine W_region [20] fun R hR => ?_   -- r1
  simp only [go_sem]
  try simp (disch := omega) only [wrapI, wrapU]
  refine GCall_of (rin_pc Y _ a 0 _) ?_   -- t11
  simp only [go_sem]
  refine GWant_split (fun g1 => ?_) (fun g1 => ?_)
  · try simp only [Bool.not_eq_true', Bool.not_eq_false'] at g1
    have n1 := g1; try simp only [nrm] at n1
    try simp (disch := omega) only [wrapI, wrapU] at n1
    simp only [go_sem, g1]
    try simp (disch := omega) only [wrapI, wrapU]
    refine GCall_of (rin_pc Y _ b 0 _) ?_   -- t18
    simp only [go_sem, g1]
    try simp (disch := omega) only [wrapI, wrapU]
    refine hR _ _ (kq3 _ _ ?_); clear hR R; try clear kq3 kz3
    try simp only [go_sem]
    refine W_cond rfl (fun c1 => ?_) (fun c1 => ?_)
    · -- c1 true
      try simp only [nrm] at c1
      refine W_seq fun kz4 kq4 => ?_
      refine W_region [6] fun R hR => ?_   -- r2
      simp only [go_sem]
      refine hR _ _ (kq4 _ _ ?_); clear hR R; try clear kq4 kz4
      try simp only [go_sem]
      refine W_ret ?_
      simp only [go_sem]
      refine ⟨.inr (by trivial), ?_⟩
      first | refine Fin_same hcl rfl (Wk_eq ?_ (by simp only [go_sem])) | refine Fin_self hcl rfl (Wk_eq ?_ (by simp only [go_sem]))
      try simp only [go_sem]
      all_goals
        simp [rJudge, ofSc, *]
    · -- c1 false
      try simp only [nrm] at c1
      refine W_skip (kq2 _ _ ?_)
      refine W_seq fun kz5 kq5 => ?_
      refine W_region [6] fun R hR => ?_   -- r3
      simp only [go_sem]
      refine hR _ _ (kq5 _ _ ?_); clear hR R; try clear kq5 kz5
      try simp only [go_sem]
      refine W_ret ?_
      simp only [go_sem]
      refine ⟨.inr (by trivial), ?_⟩
      first | refine Fin_same hcl rfl (Wk_eq ?_ (by simp only [go_sem])) | refine Fin_self hcl rfl (Wk_eq ?_ (by simp only [go_sem]))
      try simp only [go_sem]
      all_goals
        simp [rJudge, ofSc, *]
  · try simp only [Bool.not_eq_true', Bool.not_eq_false'] at g1
    have n1 := g1; try simp only [nrm] at n1
    try simp (disch := omega) only [wrapI, wrapU] at n1
    simp only [go_sem, g1]
    try simp (disch := omega) only [wrapI, wrapU]
    refine hR _ _ (kq3 _ _ ?_); clear hR R; try clear kq3 kz3
    try simp only [go_sem]
    refine W_cond_true rfl ?_
    refine W_seq fun kz6 kq6 => ?_
    refine W_region [6] fun R hR => ?_   -- r2
    simp only [go_sem]
    refine hR _ _ (kq6 _ _ ?_); clear hR R; try clear kq6 kz6
    try simp only [go_sem]
    refine W_ret ?_
    simp only [go_sem]
    refine ⟨.inr (by trivial), ?_⟩
    first | refine Fin_same hcl rfl (Wk_eq ?_ (by simp only [go_sem])) | refine Fin_self hcl rfl (Wk_eq ?_ (by simp only [go_sem]))
    try simp only [go_sem]
    all_goals
      simp [rJudge, ofSc, *]
set_option maxHeartbeats 2000000 in
theorem rMarks_pc (Y : YEnv) (σ : Sg) (s : Scale) (l : List Int) (o : Own) (hl : l.length < 2 ^ 40) :
    PC Tryz.prog Y 71 [scPV s, intsO o l] σ (I (rMarks s l)) (σ) := by
  refine PC_of_W Tryz.func71 rfl (by kernel_rfl) Tryz.ntmps71 (by simp) fun hcl hca => ?_
  obtain ⟨res, hres⟩ : ∃ r, rMarks s l = r := ⟨_, rfl⟩
  rw [hres]
  refine W_seq fun kz1 kq1 => ?_
  refine W_region [1, 2] fun R hR => ?_   -- r0
  simp only [go_sem]
  refine hR _ _ (kq1 _ _ ?_); clear hR R; try clear kq1 kz1
  try simp only [go_sem]
  refine W_seq fun kz2 kq2 => ?_
  refine W_seq fun kz3 kq3 => ?_
  refine W_region [1, 2, 10] fun R hR => ?_   -- r1
  simp only [go_sem]
  refine hR _ _ (kq3 _ _ ?_); clear hR R; try clear kq3 kz3
  try simp only [go_sem]
  refine W_cond rfl (fun c1 => ?_) (fun c1 => ?_)
  · -- c1 true
    try simp only [nrm] at c1
    refine W_seq fun kz4 kq4 => ?_
    refine W_region [4] fun R hR => ?_   -- r2
    simp only [go_sem]
    refine hR _ _ (kq4 _ _ ?_); clear hR R; try clear kq4 kz4
    try simp only [go_sem]
    refine W_ret ?_
    simp only [go_sem]
    refine ⟨.inr (by trivial), ?_⟩
    first | refine Fin_same hcl rfl (Wk_eq ?_ (by simp only [go_sem])) | refine Fin_self hcl rfl (Wk_eq ?_ (by simp only [go_sem]))
    try simp only [go_sem]
    all_goals
      rw [← hres]; simp [rMarks, *]
  · -- c1 false
    try simp only [nrm] at c1
    refine W_skip (kq2 _ _ ?_)
    refine W_seq fun kz5 kq5 => ?_
    refine W_seq fun kz6 kq6 => ?_
    refine W_region [1, 2, 5] fun R hR => ?_   -- r3
    simp only [go_sem]
    refine hR _ _ (kq6 _ _ ?_); clear hR R; try clear kq6 kz6
    try simp only [go_sem]
    refine W_block ?_
    refine W_loopS (α := Nat) (fun (i : Nat) => [(5, I i)]) (fun (i : Nat) => i ≤ l.length ∧ outMarks s l = outMarks s (l.drop i)) (fun (i : Nat) => l.length - i) (0) rfl (⟨Nat.zero_le _, rfl⟩) ?_
    rintro i ⟨hi, hinv⟩
    refine W_seq fun kz7 kq7 => ?_
    refine W_seq fun kz8 kq8 => ?_
    refine W_region [1, 2, 5, 14] fun R hR => ?_   -- r4
    simp only [go_sem]
    refine hR _ _ (kq8 _ _ ?_); clear hR R; try clear kq8 kz8
    try simp only [go_sem]
    refine W_cond rfl (fun c2 => ?_) (fun c2 => ?_)
    · -- c2 true
      try simp only [nrm] at c2
      have hi' : i < l.length := by first | assumption | omega
      obtain ⟨x, hx⟩ : ∃ x, l[i]? = some x := ⟨l[i], by simp [hi']⟩
      have hdrop : l.drop i = x :: l.drop (i + 1) := by
        rw [List.drop_eq_getElem_cons hi']; congr 1; exact (List.getElem?_eq_some_iff.1 hx).2
      rw [hdrop, outMarks_cons] at hinv
      refine W_skip (kq7 _ _ ?_)
      refine W_seq fun kz9 kq9 => ?_
      refine W_block ?_
      refine W_seq fun kz10 kq10 => ?_
      refine W_draw [1, 2, 5, 26] [0, 1, 2, 3, 4, 5, 6, 7, 8, 9] [] [[], [], [0, 1], [0, 1, 2], [], [4], [], [6], [0, 1, 2, 3, 4, 5, 6, 7], [0, 1, 2, 3, 4, 5, 6, 7, 8]] mixed (by kernel_rfl) fun R hR => ?_   -- r6
      simp only [go_sem, hx]
      refine GCall_of (rin_pc Y _ x s.low s.high) ?_   -- t25
      simp only [go_sem, hx]
      try refine And.intro (by repeat' (first | refine And.intro ?_ ?_ | exact GOr_right (fun _ => by simp only [go_sem, hx]))) ?_
      refine hR _ _ (kq10 _ _ ?_); clear hR R; try clear kq10 kz10
      try simp only [go_sem, hx]
      refine W_cond rfl (fun c3 => ?_) (fun c3 => ?_)
      · -- c3 true
        try simp only [nrm] at c3
        refine W_seq fun kz11 kq11 => ?_
        refine W_region [4] fun R hR => ?_   -- r7
        simp only [go_sem, hx]
        refine hR _ _ (kq11 _ _ ?_); clear hR R; try clear kq11 kz11
        try simp only [go_sem, hx]
        refine W_ret ?_
        simp only [go_sem, hx]
        refine ⟨.inr (by trivial), ?_⟩
        first | refine Fin_same hcl rfl (Wk_eq ?_ (by simp only [go_sem])) | refine Fin_self hcl rfl (Wk_eq ?_ (by simp only [go_sem]))
        try simp only [go_sem]
        all_goals
          rw [← hres]; simp [rMarks, *]
      · -- c3 false
        try simp only [nrm] at c3
        refine W_skip (kq9 _ _ ?_)
        refine W_region [1, 2, 5] fun R hR => ?_   -- r5
        simp only [go_sem, hx]
        try simp (disch := omega) only [wrapI, wrapU]
        refine hR _ _ ?_; clear hR R
        try simp only [go_sem, hx]
        refine ⟨i + 1, ?_, by (try simp only []); omega, ?_⟩
        · first | exact Weak.refl | exact Weak.eq (by first | rfl | (simp only [go_sem]; done) | (simp only [go_sem]; rfl) | (simp [go_sem]; done) | (simp [go_sem]; omega)) (by first | rfl | (simp only [go_sem]; done) | (simp [go_sem]; done))
        · try dsimp only
          exact ⟨hi', by simp_all⟩
    · -- c2 false
      try simp only [nrm] at c2
      have hdrop : l.drop i = [] := List.drop_eq_nil_of_le (by omega)
      rw [hdrop, outMarks_nil] at hinv
      refine W_exit ?_
      simp only [go_sem]
      refine kq5 _ _ ?_
      refine W_seq fun kz12 kq12 => ?_
      refine W_region [4] fun R hR => ?_   -- r8
      simp only [go_sem]
      refine hR _ _ (kq12 _ _ ?_); clear hR R; try clear kq12 kz12
      try simp only [go_sem]
      refine W_ret ?_
      simp only [go_sem]
      refine ⟨.inr (by trivial), ?_⟩
      first | refine Fin_same hcl rfl (Wk_eq ?_ (by simp only [go_sem])) | refine Fin_self hcl rfl (Wk_eq ?_ (by simp only [go_sem]))
      try simp only [go_sem]
      all_goals
        rw [← hres]; simp [rMarks, *]
set_option maxHeartbeats 2000000 in
theorem rseal_pc (Y : YEnv) (σ : Sg) (a b : Int) (l : List Int) (o : Own) (h1 : 0 ≤ a ∧ a ≤ 5) (h2 : 0 ≤ b ∧ b ≤ 4) (h3 : l.length ≤ 8) (h4 : ∀ x, x ∈ l → 0 ≤ x ∧ x ≤ 100) :
    PC Tryz.prog Y 72 [I a, I b, intsO o l] σ (I (sealOf (a, b) l)) (σ) := by
  refine PC_of_W Tryz.func72 rfl (by kernel_rfl) Tryz.ntmps72 (by simp) fun hcl hca => ?_
  obtain ⟨res, hres⟩ : ∃ r, sealOf (a, b) l = r := ⟨_, rfl⟩
  rw [hres]
  have hz : ¬ ((997 : Int) = 0) := by omega
  refine W_seq fun kz1 kq1 => ?_
  refine W_region [0, 1, 2] fun R hR => ?_   -- r0
  simp only [go_sem, hz]
  refine hR _ _ (kq1 _ _ ?_); clear hR R; try clear kq1 kz1
  try simp only [go_sem, hz]
  refine W_seq fun kz2 kq2 => ?_
  refine W_region [2, 7] fun R hR => ?_   -- r1
  simp only [go_sem, hz]
  try simp (disch := omega) only [wrapI, wrapU]
  refine hR _ _ (kq2 _ _ ?_); clear hR R; try clear kq2 kz2
  try simp only [go_sem, hz]
  refine W_seq fun kz3 kq3 => ?_
  refine W_seq fun kz4 kq4 => ?_
  refine W_region [2, 7, 8] fun R hR => ?_   -- r2
  simp only [go_sem, hz]
  refine hR _ _ (kq4 _ _ ?_); clear hR R; try clear kq4 kz4
  try simp only [go_sem, hz]
  refine W_block ?_
  refine W_loopS (α := Nat × Int) (fun ⟨i, n⟩ => [(7, I n), (8, I i)]) (fun ⟨i, n⟩ => i ≤ l.length ∧ res = (n + sealSum i (l.drop i)).tmod 997 ∧ 0 ≤ n ∧ n ≤ 10000 + i * 800) (fun ⟨i, n⟩ => l.length - i) ((0, (a + 1) * 101 + (b + 1) * 1009)) rfl (⟨Nat.zero_le _, by rw [← hres]; simp [sealOf], by omega, by simp; omega⟩) ?_
  rintro ⟨i, n⟩ ⟨hi, hinv, hn1, hn2⟩
  have hi8 : i ≤ 8 := by omega
  refine W_seq fun kz5 kq5 => ?_
  refine W_seq fun kz6 kq6 => ?_
  refine W_region [2, 7, 8, 19] fun R hR => ?_   -- r3
  simp only [go_sem, hz]
  refine hR _ _ (kq6 _ _ ?_); clear hR R; try clear kq6 kz6
  try simp only [go_sem, hz]
  refine W_cond rfl (fun c1 => ?_) (fun c1 => ?_)
  · -- c1 true
    try simp only [nrm] at c1
    have hi' : i < l.length := by first | assumption | omega
    obtain ⟨x, hx⟩ : ∃ x, l[i]? = some x := ⟨l[i], by simp [hi']⟩
    have hdrop : l.drop i = x :: l.drop (i + 1) := by
      rw [List.drop_eq_getElem_cons hi']; congr 1; exact (List.getElem?_eq_some_iff.1 hx).2
    rw [hdrop] at hinv
    simp only [sealSum] at hinv
    have hxb := h4 x (List.mem_of_getElem? hx)
    have hp1 : 0 ≤ ((i : Int) + 1) * x := Int.mul_nonneg (by omega) hxb.1
    have hp2 : ((i : Int) + 1) * x ≤ ((i : Int) + 1) * 100 := Int.mul_le_mul_of_nonneg_left hxb.2 (by omega)
    refine W_skip (kq5 _ _ ?_)
    refine W_seq fun kz7 kq7 => ?_
    refine W_block ?_
    refine W_region [2, 7, 8] fun R hR => ?_   -- r5
    simp only [go_sem, hz, hx]
    try simp (disch := omega) only [wrapI, wrapU]
    refine hR _ _ (kq7 _ _ ?_); clear hR R; try clear kq7 kz7
    try simp only [go_sem, hz, hx]
    refine W_region [2, 7, 8] fun R hR => ?_   -- r4
    simp only [go_sem, hz, hx]
    try simp (disch := omega) only [wrapI, wrapU]
    refine hR _ _ ?_; clear hR R
    try simp only [go_sem, hz, hx]
    refine ⟨(i + 1, n + ((i : Int) + 1) * x), ?_, by (try simp only []); omega, ?_⟩
    · first | exact Weak.refl | exact Weak.eq (by first | rfl | (simp only [go_sem]; done) | (simp only [go_sem]; rfl) | (simp [go_sem]; done) | (simp [go_sem]; omega)) (by first | rfl | (simp only [go_sem]; done) | (simp [go_sem]; done))
    · try dsimp only
      refine ⟨hi', ?_, by omega, by simp; omega⟩
      rw [hinv]; congr 1; omega
  · -- c1 false
    try simp only [nrm] at c1
    have hdrop : l.drop i = [] := List.drop_eq_nil_of_le (by omega)
    rw [hdrop] at hinv
    simp only [sealSum] at hinv
    refine W_exit ?_
    simp only [go_sem, hz]
    refine kq3 _ _ ?_
    refine W_seq fun kz8 kq8 => ?_
    refine W_region [6] fun R hR => ?_   -- r6
    simp only [go_sem, hz]
    try simp (disch := omega) only [wrapI, wrapU]
    refine hR _ _ (kq8 _ _ ?_); clear hR R; try clear kq8 kz8
    try simp only [go_sem, hz]
    refine W_ret ?_
    simp only [go_sem, hz]
    refine ⟨.inr (by trivial), ?_⟩
    first | refine Fin_same hcl rfl (Wk_eq ?_ (by simp only [go_sem])) | refine Fin_self hcl rfl (Wk_eq ?_ (by simp only [go_sem]))
    try simp only [go_sem]
    all_goals
      rw [hinv, Int.add_zero]
set_option maxHeartbeats 2000000 in
theorem rSeal_pc (Y : YEnv) (σ : Sg) (s : Scale) (a b : Int) (l : List Int) (o : Own) (hl : l.length < 2 ^ 40) (hs : s.Ok) :
    PC Tryz.prog Y 40 [scPV s, I a, I b, intsO o l] σ (.tuple [I (sealAns s (a, b) l).1, I (sealAns s (a, b) l).2]) (σ) := by
  refine PC_of_W Tryz.func40 rfl (by kernel_rfl) Tryz.ntmps40 (by simp) fun hcl hca => ?_
  refine W_seq fun kz1 kq1 => ?_
  refine W_region [1, 2, 3, 4] fun R hR => ?_   -- r0
  simp only [go_sem]
  refine hR _ _ (kq1 _ _ ?_); clear hR R; try clear kq1 kz1
  try simp only [go_sem]
  refine W_seq fun kz2 kq2 => ?_
  refine W_seq fun kz3 kq3 => ?_
  refine W_region [1, 2, 3, 4, 10] fun R hR => ?_   -- r1
  simp only [go_sem]
  refine GCall_of (rCheck_pc Y _ s hs) ?_   -- t14
  simp only [go_sem]
  refine hR _ _ (kq3 _ _ ?_); clear hR R; try clear kq3 kz3
  try simp only [go_sem]
  refine W_seq fun kz4 kq4 => ?_
  refine W_region [1, 2, 3, 4, 10, 16] fun R hR => ?_   -- r2
  simp only [go_sem]
  refine hR _ _ (kq4 _ _ ?_); clear hR R; try clear kq4 kz4
  try simp only [go_sem]
  refine W_cond rfl (fun c1 => ?_) (fun c1 => ?_)
  · -- c1 true
    try simp only [nrm] at c1
    refine W_seq fun kz5 kq5 => ?_
    refine W_region [8, 9] fun R hR => ?_   -- r3
    simp only [go_sem]
    refine hR _ _ (kq5 _ _ ?_); clear hR R; try clear kq5 kz5
    try simp only [go_sem]
    refine W_ret ?_
    simp only [go_sem]
    refine ⟨.inr (by trivial), ?_⟩
    first | refine Fin_same hcl rfl (Wk_eq ?_ (by simp only [go_sem])) | refine Fin_self hcl rfl (Wk_eq ?_ (by simp only [go_sem]))
    try simp only [go_sem]
    all_goals
      simp [sealAns, marked_r, *]
  · -- c1 false
    try simp only [nrm] at c1
    refine W_skip (kq2 _ _ ?_)
    refine W_seq fun kz6 kq6 => ?_
    refine W_seq fun kz7 kq7 => ?_
    refine W_region [1, 2, 3, 4, 11] fun R hR => ?_   -- r4
    simp only [go_sem]
    have hv := Scale.v c1
    refine GCall_of (rJudge_pc Y _ s a b hv) ?_   -- t21
    simp only [go_sem]
    refine hR _ _ (kq7 _ _ ?_); clear hR R; try clear kq7 kz7
    try simp only [go_sem]
    refine W_seq fun kz8 kq8 => ?_
    refine W_region [1, 2, 3, 4, 11, 23] fun R hR => ?_   -- r5
    simp only [go_sem]
    refine hR _ _ (kq8 _ _ ?_); clear hR R; try clear kq8 kz8
    try simp only [go_sem]
    refine W_cond rfl (fun c2 => ?_) (fun c2 => ?_)
    · -- c2 true
      try simp only [nrm] at c2
      refine W_seq fun kz9 kq9 => ?_
      refine W_region [8, 9] fun R hR => ?_   -- r6
      simp only [go_sem]
      refine hR _ _ (kq9 _ _ ?_); clear hR R; try clear kq9 kz9
      try simp only [go_sem]
      refine W_ret ?_
      simp only [go_sem]
      refine ⟨.inr (by trivial), ?_⟩
      first | refine Fin_same hcl rfl (Wk_eq ?_ (by simp only [go_sem])) | refine Fin_self hcl rfl (Wk_eq ?_ (by simp only [go_sem]))
      try simp only [go_sem]
      all_goals
        simp [sealAns, marked_r, *]
    · -- c2 false
      try simp only [nrm] at c2
      refine W_skip (kq6 _ _ ?_)
      refine W_seq fun kz10 kq10 => ?_
      refine W_seq fun kz11 kq11 => ?_
      refine W_region [1, 2, 3, 12] fun R hR => ?_   -- r7
      simp only [go_sem]
      refine GCall_of (rMarks_pc Y _ s l o hl) ?_   -- t27
      simp only [go_sem]
      refine hR _ _ (kq11 _ _ ?_); clear hR R; try clear kq11 kz11
      try simp only [go_sem]
      refine W_seq fun kz12 kq12 => ?_
      refine W_region [1, 2, 3, 12, 29] fun R hR => ?_   -- r8
      simp only [go_sem]
      refine hR _ _ (kq12 _ _ ?_); clear hR R; try clear kq12 kz12
      try simp only [go_sem]
      refine W_cond rfl (fun c3 => ?_) (fun c3 => ?_)
      · -- c3 true
        try simp only [nrm] at c3
        refine W_seq fun kz13 kq13 => ?_
        refine W_region [8, 9] fun R hR => ?_   -- r9
        simp only [go_sem]
        refine hR _ _ (kq13 _ _ ?_); clear hR R; try clear kq13 kz13
        try simp only [go_sem]
        refine W_ret ?_
        simp only [go_sem]
        refine ⟨.inr (by trivial), ?_⟩
        first | refine Fin_same hcl rfl (Wk_eq ?_ (by simp only [go_sem])) | refine Fin_self hcl rfl (Wk_eq ?_ (by simp only [go_sem]))
        try simp only [go_sem]
        all_goals
          simp [sealAns, marked_r, *]
      · -- c3 false
        try simp only [nrm] at c3
        refine W_skip (kq10 _ _ ?_)
        refine W_seq fun kz14 kq14 => ?_
        refine W_region [8, 9] fun R hR => ?_   -- r10
        simp only [go_sem]
        have hmk : marked s (a, b) l = 0 := by rw [marked_r]; simp [*]
        obtain ⟨k1, k2, k3⟩ := marked_ok hmk
        simp only [ofSc_true] at k1
        have q1 := hv.mt
        have q2 := hv.jd
        have q3 := hv.sc
        have q4 := hv.lo
        have q5 := hv.hi
        refine GCall_of (rseal_pc Y _ a b l o (by omega) (by omega) (by omega) (fun x hx => by have := k3 x hx; omega)) ?_   -- t34
        simp only [go_sem]
        refine hR _ _ (kq14 _ _ ?_); clear hR R; try clear kq14 kz14
        try simp only [go_sem]
        refine W_ret ?_
        simp only [go_sem]
        refine ⟨.inr (by trivial), ?_⟩
        first | refine Fin_same hcl rfl (Wk_eq ?_ (by simp only [go_sem])) | refine Fin_self hcl rfl (Wk_eq ?_ (by simp only [go_sem]))
        try simp only [go_sem]
        all_goals
          simp [sealAns, marked_r, *]
end Go.Proofs.YtgelnjmddabgpaaGreat
namespace Go.Proofs.YtgelnjmddabgpaaGreat
open Go Go.RowKit
set_option maxRecDepth 100000
theorem mem2 {a b r : Int} (h : r ∈ [a, b]) : r = a ∨ r = b := by simpa using h
theorem mem3 {a b c r : Int} (h : r ∈ [a, b, c]) : r = a ∨ r = b ∨ r = c := by simpa using h
noncomputable def scaleD (n : Int) : D Scale := dbind (mid 1 n) fun a => dbind (mid 1 3) fun mt => dbind (mid 1 3) fun jd => dbind (anyOf [0, 70, 98]) fun lo => dbind (roll jd) fun dr => dbind (anyOf [2, 30]) fun e => dbind (mid lo (min 100 (lo + e))) fun hi => dbind (orderD mt.toNat) fun od => dret ⟨a, mt, jd, dr, lo, hi, od⟩
theorem chkOrd_of {m : Int} : ∀ {l p : List Int}, (∀ x, x ∈ l → 0 ≤ x ∧ x ≤ m - 1) → l.Nodup → (∀ x, x ∈ l → x ∉ p) → chkOrd m p l = 0 := by
  intro l
  induction l with
  | nil => intro p _ _ _; rfl
  | cons n l ih =>
    intro p h1 h2 h3
    obtain ⟨a1, a2⟩ := List.nodup_cons.1 h2
    have hn := h1 n (by simp)
    have hin : inR n 0 (m - 1) = true := by rw [inR_true]; exact hn
    have hh : has p n = false := by
      cases h : has p n with
      | false => rfl
      | true => exact absurd (has_iff.1 h) (h3 n (by simp))
    simp only [chkOrd, hin, hh]
    refine ih (fun x hx => h1 x (by simp [hx])) a2 (fun x hx hp => ?_)
    rcases List.mem_append.1 hp with hp | hp
    · exact h3 x (by simp [hx]) hp
    · simp only [List.mem_singleton] at hp
      subst hp
      exact a1 hx
theorem nodup_range (n : Nat) : ((List.range n).map fun (i : Nat) => (i : Int)).Nodup := by
  rw [List.nodup_iff_pairwise_ne, List.pairwise_map]
  refine List.Pairwise.imp ?_ (List.nodup_range (n := n))
  intro a b h e
  exact h (by omega)
theorem order_ok {mt : Int} {od : List Int} (h : od.Perm ((List.range mt.toNat).map fun (i : Nat) => (i : Int))) : chkOrd mt [] od = 0 := by
  refine chkOrd_of (fun x hx => ?_) (h.nodup_iff.2 (nodup_range _)) (fun x _ hx => by cases hx)
  obtain ⟨i, hi, rfl⟩ := List.mem_map.1 (h.mem_iff.1 hx)
  have := List.mem_range.1 hi
  omega
theorem scaleD_ok (n : Int) (h1 : 1 ≤ n) (h2 : n ≤ 8) : Holds (scaleD n) fun s => chkSc s = 0 ∧ s.schools ≤ n ∧ s.matters ≤ 3 ∧ s.judges ≤ 3 := by
  unfold scaleD
  refine (mid_bd 1 n h1).bind fun a ha => (mid_bd 1 3 (by omega)).bind fun mt hmt => (mid_bd 1 3 (by omega)).bind fun jd hjd => (anyOf_mem [0, 70, 98] (by simp)).bind fun lo hlo => (roll_bd jd).bind fun dr hdr => (anyOf_mem [2, 30] (by simp)).bind fun e he => ?_
  have hlo' : 0 ≤ lo ∧ lo ≤ 98 := by rcases mem3 hlo with h | h | h <;> omega
  have he' : 2 ≤ e ∧ e ≤ 30 := by rcases mem2 he with h | h <;> omega
  refine (mid_bd lo (min 100 (lo + e)) (by omega)).bind fun hi hhi => (orderD_perm mt.toNat).bind fun od hod => .ret ⟨?_, by simp only []; omega, by simp only []; omega, by simp only []; omega⟩
  have hl : od.length = mt.toNat := by rw [hod.length_eq]; simp
  have hr : scRange ⟨a, mt, jd, dr, lo, hi, od⟩ = true := by
    simp only [scRange, Bool.and_eq_true, inR_true]
    omega
  unfold chkSc
  rw [hr]
  simp only [Bool.not_true, Bool.false_eq_true, if_false]
  rw [if_neg (by omega), if_neg (by omega)]
  exact order_ok hod
noncomputable def marksC (s : Scale) : Nat → List Int → D (List Int)
  | 0, acc => dret acc
  | k + 1, acc => dbind (mid s.low s.high) fun m => dbind (anyOf [s.low, s.high, m]) fun x => marksC s k (acc ++ [x])
noncomputable def marksD (s : Scale) : D (List Int) := marksC s s.schools.toNat []
theorem marksC_ok {s : Scale} (h : s.low ≤ s.high) : ∀ (k : Nat) (acc : List Int), (∀ x, x ∈ acc → s.low ≤ x ∧ x ≤ s.high) → Holds (marksC s k acc) fun l => l.length = acc.length + k ∧ ∀ x, x ∈ l → s.low ≤ x ∧ x ≤ s.high := by
  intro k
  induction k with
  | zero => intro acc ha; exact .ret ⟨rfl, ha⟩
  | succ k ih =>
    intro acc ha
    refine (mid_bd s.low s.high h).bind fun m hm => (anyOf_mem [s.low, s.high, m] (by simp)).bind fun x hx => (ih (acc ++ [x]) fun y hy => ?_).mono fun l hl => ⟨by rw [hl.1]; simp; omega, hl.2⟩
    rcases List.mem_append.1 hy with hy | hy
    · exact ha y hy
    · simp only [List.mem_singleton] at hy
      subst hy
      rcases mem3 hx with h | h | h <;> omega
theorem marksD_ok {s : Scale} (hv : s.V) : Holds (marksD s) fun l => (l.length : Int) = s.schools ∧ ∀ x, x ∈ l → s.low ≤ x ∧ x ≤ s.high := by
  have q := hv.sc
  exact (marksC_ok hv.lh s.schools.toNat [] (fun x hx => by cases hx)).mono fun l hl => ⟨by rw [hl.1]; simp; omega, hl.2⟩
def sealedE (s : Scale) (m j : Int) (l : List Int) : Envl := ⟨m, j, l, (sealAns s (m, j) l).1⟩
set_option maxHeartbeats 8000000 in
theorem ScaleOf_pc (Y : YEnv) (σ : Sg) (d : Nat) (b : Int) (hd : σ.store[d]? = some (some [.int .u64 b])) (n : Int) (h1 : 1 ≤ n) (h2 : n ≤ 8) :
    PC Tryz.prog Y 12 [.ptr d 0, I n] σ (scPV (scaleD n b).1) (σ.setVar d [.int .u64 (scaleD n b).2]) := by
  refine PC_of_W Tryz.func12 rfl (by kernel_rfl) Tryz.ntmps12 (by simp) fun hcl hca => ?_
  have hlt := lt_of_get hd
  obtain ⟨a, ha⟩ : ∃ zz, (mid 1 n b).1 = zz := ⟨_, rfl⟩
  obtain ⟨b1, hb1⟩ : ∃ zz, (mid 1 n b).2 = zz := ⟨_, rfl⟩
  have da := mid_bd 1 n h1 b
  simp only [ha] at da
  obtain ⟨mt, hmt⟩ : ∃ zz, (mid 1 3 b1).1 = zz := ⟨_, rfl⟩
  obtain ⟨b2, hb2⟩ : ∃ zz, (mid 1 3 b1).2 = zz := ⟨_, rfl⟩
  have dmt := mid_bd 1 3 (by omega) b1
  simp only [hmt] at dmt
  obtain ⟨jd, hjd⟩ : ∃ zz, (mid 1 3 b2).1 = zz := ⟨_, rfl⟩
  obtain ⟨b3, hb3⟩ : ∃ zz, (mid 1 3 b2).2 = zz := ⟨_, rfl⟩
  have djd := mid_bd 1 3 (by omega) b2
  simp only [hjd] at djd
  obtain ⟨lo, hlo⟩ : ∃ zz, (anyOf [0, 70, 98] b3).1 = zz := ⟨_, rfl⟩
  obtain ⟨b4, hb4⟩ : ∃ zz, (anyOf [0, 70, 98] b3).2 = zz := ⟨_, rfl⟩
  have dlo := anyOf_mem [0, 70, 98] (by simp) b3
  simp only [hlo] at dlo
  obtain ⟨dr, hdr⟩ : ∃ zz, (roll jd b4).1 = zz := ⟨_, rfl⟩
  obtain ⟨b5, hb5⟩ : ∃ zz, (roll jd b4).2 = zz := ⟨_, rfl⟩
  have ddr := roll_bd jd b4
  simp only [hdr] at ddr
  obtain ⟨e, he⟩ : ∃ zz, (anyOf [2, 30] b5).1 = zz := ⟨_, rfl⟩
  obtain ⟨b6, hb6⟩ : ∃ zz, (anyOf [2, 30] b5).2 = zz := ⟨_, rfl⟩
  have de := anyOf_mem [2, 30] (by simp) b5
  simp only [he] at de
  have hlo' : 0 ≤ lo ∧ lo ≤ 98 := by rcases mem3 dlo with h | h | h <;> omega
  have he' : 2 ≤ e ∧ e ≤ 30 := by rcases mem2 de with h | h <;> omega
  obtain ⟨mtn, hmtn⟩ : ∃ z : Nat, mt = z := ⟨mt.toNat, by omega⟩
  subst hmtn
  obtain ⟨hi, hhi⟩ : ∃ zz, (mid lo (min 100 (lo + e)) b6).1 = zz := ⟨_, rfl⟩
  obtain ⟨b7, hb7⟩ : ∃ zz, (mid lo (min 100 (lo + e)) b6).2 = zz := ⟨_, rfl⟩
  have dhi := mid_bd lo (min 100 (lo + e)) (by omega) b6
  simp only [hhi] at dhi
  obtain ⟨od, hod⟩ : ∃ zz, (orderD mtn b7).1 = zz := ⟨_, rfl⟩
  obtain ⟨b8, hb8⟩ : ∃ zz, (orderD mtn b7).2 = zz := ⟨_, rfl⟩
  have dod := orderD_perm mtn b7
  simp only [hod] at dod
  have hmin : (if (100 : Int) ≤ lo + e then 100 else lo + e) = min 100 (lo + e) := by split <;> omega
  have hres : scaleD n b = (⟨a, mtn, jd, dr, lo, hi, od⟩, b8) := by
    simp only [scaleD, dbind, ha, hb1, hmt, hb2, hjd, hb3, hlo, hb4, hdr, hb5, he, hb6, hhi, hb7, Int.toNat_natCast, hod, hb8, dret]
  rw [hres]
  refine W_seq fun kz1 kq1 => ?_
  refine W_region [0, 1, 4] fun R hR => ?_   -- r0
  simp only [go_sem, ldS_at hd, stX_at hd, ldS_sv hlt, stX_sv hlt, sv_ext hlt, sv_ext_sv hlt, ha, hb1, hmt, hb2, hjd, hb3, hlo, hb4, hdr, hb5, he, hb6, hhi, hb7, hod, hb8]
  refine hR _ _ (kq1 _ _ ?_); clear hR R; try clear kq1 kz1
  try simp only [go_sem, ldS_at hd, stX_at hd, ldS_sv hlt, stX_sv hlt, sv_ext hlt, sv_ext_sv hlt, ha, hb1, hmt, hb2, hjd, hb3, hlo, hb4, hdr, hb5, he, hb6, hhi, hb7, hod, hb8]
  refine W_seq fun kz2 kq2 => ?_
  refine W_region [0, 4, 5] fun R hR => ?_   -- r1
  simp only [go_sem, ldS_at hd, stX_at hd, ldS_sv hlt, stX_sv hlt, sv_ext hlt, sv_ext_sv hlt, ha, hb1, hmt, hb2, hjd, hb3, hlo, hb4, hdr, hb5, he, hb6, hhi, hb7, hod, hb8]
  refine GCall_of (Mid_pc Y _ d b (by first | exact hd | exact sv_get hlt | exact get_svx hlt | exact get_extx hd) 1 n (by omega) (by omega) (by omega) (by omega)) ?_   -- t8
  simp only [go_sem, ldS_at hd, stX_at hd, ldS_sv hlt, stX_sv hlt, sv_ext hlt, sv_ext_sv hlt, ha, hb1, hmt, hb2, hjd, hb3, hlo, hb4, hdr, hb5, he, hb6, hhi, hb7, hod, hb8]
  refine GCall_of (Mid_pc Y _ d b1 (by first | exact hd | exact sv_get hlt | exact get_svx hlt | exact get_extx hd) 1 3 (by omega) (by omega) (by omega) (by omega)) ?_   -- t10
  simp only [go_sem, ldS_at hd, stX_at hd, ldS_sv hlt, stX_sv hlt, sv_ext hlt, sv_ext_sv hlt, ha, hb1, hmt, hb2, hjd, hb3, hlo, hb4, hdr, hb5, he, hb6, hhi, hb7, hod, hb8]
  refine GCall_of (Mid_pc Y _ d b2 (by first | exact hd | exact sv_get hlt | exact get_svx hlt | exact get_extx hd) 1 3 (by omega) (by omega) (by omega) (by omega)) ?_   -- t12
  simp only [go_sem, ldS_at hd, stX_at hd, ldS_sv hlt, stX_sv hlt, sv_ext hlt, sv_ext_sv hlt, ha, hb1, hmt, hb2, hjd, hb3, hlo, hb4, hdr, hb5, he, hb6, hhi, hb7, hod, hb8]
  refine GCall_of (Any_pc Y _ d b3 (by first | exact hd | exact sv_get hlt | exact get_svx hlt | exact get_extx hd) [0, 70, 98] (by simp) (by simp)) ?_   -- t15
  simp only [go_sem, ldS_at hd, stX_at hd, ldS_sv hlt, stX_sv hlt, sv_ext hlt, sv_ext_sv hlt, ha, hb1, hmt, hb2, hjd, hb3, hlo, hb4, hdr, hb5, he, hb6, hhi, hb7, hod, hb8]
  refine hR _ _ (kq2 _ _ ?_); clear hR R; try clear kq2 kz2
  try simp only [go_sem, ldS_at hd, stX_at hd, ldS_sv hlt, stX_sv hlt, sv_ext hlt, sv_ext_sv hlt, ha, hb1, hmt, hb2, hjd, hb3, hlo, hb4, hdr, hb5, he, hb6, hhi, hb7, hod, hb8]
  refine W_seq fun kz3 kq3 => ?_
  have hmin2 : min (100 : Int) (lo + e) = min 100 (lo + e) := rfl
  refine W_draw [4, 5] [0, 1, 2, 3, 4, 5, 6, 7, 8, 9, 10, 11, 12, 13, 14, 15, 16, 17, 18, 19, 20, 21, 22, 23, 24] [(4, 3), (4, 14), (5, 3), (5, 14), (6, 3), (6, 14), (7, 3), (7, 14), (8, 3), (8, 14), (9, 3), (10, 3), (15, 3), (15, 11), (15, 14), (16, 3), (16, 11), (16, 14), (17, 3), (17, 11), (17, 14), (19, 11), (19, 14), (19, 18)] [[], [], [1], [0, 1, 2], [], [], [5], [], [7], [], [], [0, 1, 2, 3, 9, 10], [0, 1, 2, 3, 7, 8, 9, 10, 11], [0, 1, 2, 3, 7, 8, 9, 10, 11, 12], [0, 1, 2, 3, 4, 5, 6, 7, 8, 9, 10, 11, 12, 13], [], [], [16], [0, 1, 2, 3, 4, 5, 6, 7, 8, 9, 10, 11, 12, 13, 14, 15, 16, 17], [0, 1, 2, 3, 5, 6, 7, 8, 16, 17], [0, 1, 2, 3, 4, 5, 6, 7, 8, 9, 10, 11, 12, 13, 14, 15, 16, 17, 18, 19], [0, 1, 2, 3, 4, 5, 6, 7, 8, 9, 10, 11, 12, 13, 14, 15, 16, 17, 18, 19, 20], [0, 1, 2, 3, 4, 5, 6, 7, 8, 9, 10, 11, 12, 13, 14, 15, 16, 17, 18, 19, 20, 21], [0, 1, 2, 3, 4, 5, 6, 7, 8, 9, 10, 11, 12, 13, 14, 15, 16, 17, 18, 19, 20, 21, 22], [0, 1, 2, 3, 4, 5, 6, 7, 8, 9, 10, 11, 12, 13, 14, 15, 16, 17, 18, 19, 20, 21, 22, 23]] mixed (by kernel_rfl) fun R hR => ?_   -- r2
  simp only [go_sem, ldS_at hd, stX_at hd, ldS_sv hlt, stX_sv hlt, sv_ext hlt, sv_ext_sv hlt, ha, hb1, hmt, hb2, hjd, hb3, hlo, hb4, hdr, hb5, he, hb6, hhi, hb7, hod, hb8]
  refine GCall_of (Roll_pc Y _ d b4 (by first | exact hd | exact sv_get hlt | exact get_svx hlt | exact get_extx hd) jd (by omega)) ?_   -- t20
  simp only [go_sem, ldS_at hd, stX_at hd, ldS_sv hlt, stX_sv hlt, sv_ext hlt, sv_ext_sv hlt, ha, hb1, hmt, hb2, hjd, hb3, hlo, hb4, hdr, hb5, he, hb6, hhi, hb7, hod, hb8]
  refine GCall_of (Any_pc Y _ d b5 (by first | exact hd | exact sv_get hlt | exact get_svx hlt | exact get_extx hd) [2, 30] (by simp) (by simp)) ?_   -- t28
  simp only [go_sem, ldS_at hd, stX_at hd, ldS_sv hlt, stX_sv hlt, sv_ext hlt, sv_ext_sv hlt, ha, hb1, hmt, hb2, hjd, hb3, hlo, hb4, hdr, hb5, he, hb6, hhi, hb7, hod, hb8]
  try simp (disch := omega) only [wrapI]
  try simp only [hmin, hmin2]
  try simp (disch := omega) only [wrapI, wrapU]
  refine GCall_of (Mid_pc Y _ d b6 (by first | exact hd | exact sv_get hlt | exact get_svx hlt | exact get_extx hd) lo (min 100 (lo + e)) (by omega) (by omega) (by omega) (by omega)) ?_   -- t31
  simp only [go_sem, ldS_at hd, stX_at hd, ldS_sv hlt, stX_sv hlt, sv_ext hlt, sv_ext_sv hlt, ha, hb1, hmt, hb2, hjd, hb3, hlo, hb4, hdr, hb5, he, hb6, hhi, hb7, hod, hb8]
  try simp (disch := omega) only [wrapI, wrapU]
  refine GCall_of (Order_pc Y _ d b7 (by first | exact hd | exact sv_get hlt | exact get_svx hlt | exact get_extx hd) mtn (by omega)) ?_   -- t35
  simp only [go_sem, ldS_at hd, stX_at hd, ldS_sv hlt, stX_sv hlt, sv_ext hlt, sv_ext_sv hlt, ha, hb1, hmt, hb2, hjd, hb3, hlo, hb4, hdr, hb5, he, hb6, hhi, hb7, hod, hb8]
  try simp (disch := omega) only [wrapI, wrapU]
  try refine And.intro (by repeat' (first | refine And.intro ?_ ?_ | exact GOr_right (fun _ => by simp only [go_sem, ldS_at hd, stX_at hd, ldS_sv hlt, stX_sv hlt, sv_ext hlt, sv_ext_sv hlt, ha, hb1, hmt, hb2, hjd, hb3, hlo, hb4, hdr, hb5, he, hb6, hhi, hb7, hod, hb8]))) ?_
  refine hR _ _ (kq3 _ _ ?_); clear hR R; try clear kq3 kz3
  try simp only [go_sem, ldS_at hd, stX_at hd, ldS_sv hlt, stX_sv hlt, sv_ext hlt, sv_ext_sv hlt, ha, hb1, hmt, hb2, hjd, hb3, hlo, hb4, hdr, hb5, he, hb6, hhi, hb7, hod, hb8]
  refine W_seq fun kz4 kq4 => ?_
  refine W_region [4] fun R hR => ?_   -- r3
  simp only [go_sem, ldS_at hd, stX_at hd, ldS_sv hlt, stX_sv hlt, sv_ext hlt, sv_ext_sv hlt, ha, hb1, hmt, hb2, hjd, hb3, hlo, hb4, hdr, hb5, he, hb6, hhi, hb7, hod, hb8]
  refine hR _ _ (kq4 _ _ ?_); clear hR R; try clear kq4 kz4
  try simp only [go_sem, ldS_at hd, stX_at hd, ldS_sv hlt, stX_sv hlt, sv_ext hlt, sv_ext_sv hlt, ha, hb1, hmt, hb2, hjd, hb3, hlo, hb4, hdr, hb5, he, hb6, hhi, hb7, hod, hb8]
  refine W_ret ?_
  simp only [go_sem, ldS_at hd, stX_at hd, ldS_sv hlt, stX_sv hlt, sv_ext hlt, sv_ext_sv hlt, ha, hb1, hmt, hb2, hjd, hb3, hlo, hb4, hdr, hb5, he, hb6, hhi, hb7, hod, hb8]
  refine ⟨.inr (by trivial), ?_⟩
  first | refine Fin_set hcl (by simp only [go_sem]) (by show resPV Tryz.prog _ _ [.cell 4 24] = some _; simp only [resPV, go_sem]; rfl) (Wk_eq ?_ (by simp only [go_sem])) | refine Fin_set0 hcl (by simp only [go_sem]) (by show resPV Tryz.prog _ _ [.cell 4 24] = some _; simp only [resPV, go_sem]; rfl) (Wk_eq ?_ (by simp only [go_sem]))
  try simp only [go_sem]
  all_goals
    skip
set_option maxHeartbeats 2000000 in
theorem MarksOf_pc (Y : YEnv) (σ : Sg) (d : Nat) (b : Int) (hd : σ.store[d]? = some (some [.int .u64 b])) (s : Scale) (hv : s.V) :
    PC Tryz.prog Y 37 [.ptr d 0, scPV s] σ (ints (marksD s b).1) (σ.setVar d [.int .u64 (marksD s b).2]) := by
  refine PC_of_W Tryz.func37 rfl (by kernel_rfl) Tryz.ntmps37 (by simp) fun hcl hca => ?_
  have hlt := lt_of_get hd
  have q3 := hv.sc
  have q4 := hv.lo
  have q5 := hv.hi
  have q6 := hv.lh
  obtain ⟨N, hN⟩ : ∃ z : Nat, s.schools = z := ⟨s.schools.toNat, by omega⟩
  have hNi : (s.schools : Int) = (N : Int) := hN
  obtain ⟨res, hres⟩ : ∃ r, marksD s b = r := ⟨_, rfl⟩
  rw [hres]
  unfold marksD at hres
  rw [hN, Int.toNat_natCast] at hres
  refine W_seq fun kz1 kq1 => ?_
  refine W_region [0, 3] fun R hR => ?_   -- r0
  simp only [go_sem, ldS_at hd, stX_at hd, ldS_sv hlt, stX_sv hlt, sv_ext hlt, sv_ext_sv hlt]
  refine hR _ _ (kq1 _ _ ?_); clear hR R; try clear kq1 kz1
  try simp only [go_sem, ldS_at hd, stX_at hd, ldS_sv hlt, stX_sv hlt, sv_ext hlt, sv_ext_sv hlt]
  refine W_seq fun kz2 kq2 => ?_
  refine W_region [0, 3, 5] fun R hR => ?_   -- r1
  simp only [go_sem, ldS_at hd, stX_at hd, ldS_sv hlt, stX_sv hlt, sv_ext hlt, sv_ext_sv hlt]
  refine hR _ _ (kq2 _ _ ?_); clear hR R; try clear kq2 kz2
  try simp only [go_sem, ldS_at hd, stX_at hd, ldS_sv hlt, stX_sv hlt, sv_ext hlt, sv_ext_sv hlt]
  refine W_seq fun kz3 kq3 => ?_
  refine W_seq fun kz4 kq4 => ?_
  refine W_region [0, 3, 5, 6] fun R hR => ?_   -- r2
  simp only [go_sem, ldS_at hd, stX_at hd, ldS_sv hlt, stX_sv hlt, sv_ext hlt, sv_ext_sv hlt]
  refine hR _ _ (kq4 _ _ ?_); clear hR R; try clear kq4 kz4
  try simp only [go_sem, ldS_at hd, stX_at hd, ldS_sv hlt, stX_sv hlt, sv_ext hlt, sv_ext_sv hlt]
  refine W_block ?_
  refine W_weak (Weak.room (t := 5) (es := 1) rfl (by simp)) ?_
  refine W_weak (Weak.keep [0, 3, 5, 6]) ?_
  simp only [go_sem, ldS_at hd, stX_at hd, ldS_sv hlt, stX_sv hlt, sv_ext hlt, sv_ext_sv hlt]
  refine W_loopT (α := Nat × (List Int) × Int) (fun ⟨i, acc, b⟩ => [(5, .isl (acc.map I) (.tok σ.rooms.length acc.length 1)), (6, I i)]) (fun ⟨i, acc, b⟩ => (σ.setVar d [.int .u64 b]).ext [some (scCells s)] [acc.length]) (fun ⟨i, acc, b⟩ => i ≤ N ∧ acc.length = i ∧ res = marksC s (N - i) acc b) (fun ⟨i, acc, b⟩ => N - i) ((0, [], b)) rfl (by simp only [go_sem, sv_self hd]) (⟨Nat.zero_le _, rfl, hres.symm⟩) ?_
  rintro ⟨i, acc, b⟩ ⟨hi, hal, hinv⟩
  refine W_seq fun kz5 kq5 => ?_
  refine W_seq fun kz6 kq6 => ?_
  refine W_region [0, 3, 5, 6, 10] fun R hR => ?_   -- r3
  simp only [go_sem, ldS_at hd, stX_at hd, ldS_sv hlt, stX_sv hlt, sv_ext hlt, sv_ext_sv hlt]
  refine hR _ _ (kq6 _ _ ?_); clear hR R; try clear kq6 kz6
  try simp only [go_sem, ldS_at hd, stX_at hd, ldS_sv hlt, stX_sv hlt, sv_ext hlt, sv_ext_sv hlt]
  refine W_cond rfl (fun c1 => ?_) (fun c1 => ?_)
  · -- c1 true
    try simp only [nrm] at c1
    have hiN : i < N := by first | omega | (simp at c1; omega)
    rw [show N - i = (N - (i + 1)) + 1 by omega] at hinv
    simp only [marksC, dbind] at hinv
    obtain ⟨m, hm⟩ : ∃ zz, (mid s.low s.high b).1 = zz := ⟨_, rfl⟩
    obtain ⟨b1, hb1⟩ : ∃ zz, (mid s.low s.high b).2 = zz := ⟨_, rfl⟩
    have dm := mid_bd s.low s.high q6 b
    simp only [hm] at dm
    obtain ⟨x, hx⟩ : ∃ zz, (anyOf [s.low, s.high, m] b1).1 = zz := ⟨_, rfl⟩
    obtain ⟨b2, hb2⟩ : ∃ zz, (anyOf [s.low, s.high, m] b1).2 = zz := ⟨_, rfl⟩
    simp only [hm, hb1, hx, hb2] at hinv
    refine W_skip (kq5 _ _ ?_)
    refine W_seq fun kz7 kq7 => ?_
    refine W_block ?_
    refine W_draw [0, 3, 5, 6] [0, 1, 2, 3, 4, 5, 6, 7, 8, 9, 10, 11, 12, 13, 14, 15, 16] [(0, 13), (0, 15), (1, 13), (2, 13), (3, 13), (4, 13), (5, 13)] [[], [], [], [2], [], [4], [], [], [7], [], [9], [6, 7, 8, 9, 10], [2, 3, 4, 5, 6, 7, 8, 9, 10, 11], [1, 2, 3, 4, 5, 6, 7, 8, 9, 10, 11, 12], [1, 2, 3, 4, 5, 6, 7, 8, 9, 10, 11, 12, 13], [0, 1, 2, 3, 4, 5, 6, 7, 8, 9, 10, 11, 12, 13, 14], [0, 1, 2, 3, 4, 5, 6, 7, 8, 9, 10, 11, 12, 13, 14, 15]] mixed (by kernel_rfl) fun R hR => ?_   -- r5
    simp only [go_sem, ldS_at hd, stX_at hd, ldS_sv hlt, stX_sv hlt, sv_ext hlt, sv_ext_sv hlt, hm, hb1, hx, hb2]
    refine GCall_of (Mid_pc Y _ d b (by first | exact hd | exact sv_get hlt | exact get_svx hlt | exact get_extx hd) s.low s.high (by omega) (by omega) (by omega) (by omega)) ?_   -- t24
    simp only [go_sem, ldS_at hd, stX_at hd, ldS_sv hlt, stX_sv hlt, sv_ext hlt, sv_ext_sv hlt, hm, hb1, hx, hb2]
    refine GCall_of (Any_pc Y _ d b1 (by first | exact hd | exact sv_get hlt | exact get_svx hlt | exact get_extx hd) [s.low, s.high, m] (by simp) (by simp)) ?_   -- t26
    simp only [go_sem, ldS_at hd, stX_at hd, ldS_sv hlt, stX_sv hlt, sv_ext hlt, sv_ext_sv hlt, hm, hb1, hx, hb2]
    try simp (disch := first | omega | (simp only [go_sem] <;> omega)) only [wrapI, wrapU, appX_exact, appX_tok]
    try simp only [go_sem, ldS_at hd, stX_at hd, ldS_sv hlt, stX_sv hlt, sv_ext hlt, sv_ext_sv hlt, hm, hb1, hx, hb2]
    try refine And.intro (by repeat' (first | refine And.intro ?_ ?_ | exact GOr_right (fun _ => by simp only [go_sem, ldS_at hd, stX_at hd, ldS_sv hlt, stX_sv hlt, sv_ext hlt, sv_ext_sv hlt, hm, hb1, hx, hb2]))) ?_
    refine hR _ _ (kq7 _ _ ?_); clear hR R; try clear kq7 kz7
    try simp only [go_sem, ldS_at hd, stX_at hd, ldS_sv hlt, stX_sv hlt, sv_ext hlt, sv_ext_sv hlt, hm, hb1, hx, hb2]
    refine W_region [0, 3, 5, 6] fun R hR => ?_   -- r4
    simp only [go_sem, ldS_at hd, stX_at hd, ldS_sv hlt, stX_sv hlt, sv_ext hlt, sv_ext_sv hlt, hm, hb1, hx, hb2]
    try simp (disch := omega) only [wrapI, wrapU]
    refine hR _ _ ?_; clear hR R
    try simp only [go_sem, ldS_at hd, stX_at hd, ldS_sv hlt, stX_sv hlt, sv_ext hlt, sv_ext_sv hlt, hm, hb1, hx, hb2]
    refine ⟨(i + 1, acc ++ [x], b2), ?_, by (try simp only []); omega, ?_⟩
    · first | exact Weak.refl | exact Weak.eq (by first | rfl | (simp only [go_sem]; done) | (simp only [go_sem]; rfl) | (simp [go_sem]; done) | (simp [go_sem]; omega)) (by first | rfl | (simp only [go_sem]; done) | (simp [go_sem]; done))
    · try dsimp only
      exact ⟨by omega, by simp [hal], hinv⟩
  · -- c1 false
    try simp only [nrm] at c1
    have hie : N = i := by first | omega | (simp at c1; omega)
    subst hie
    rw [Nat.sub_self] at hinv
    simp only [marksC, dret] at hinv
    refine W_exit ?_
    simp only [go_sem, ldS_at hd, stX_at hd, ldS_sv hlt, stX_sv hlt, sv_ext hlt, sv_ext_sv hlt]
    refine kq3 _ _ ?_
    refine W_seq fun kz8 kq8 => ?_
    refine W_region [4] fun R hR => ?_   -- r6
    simp only [go_sem, ldS_at hd, stX_at hd, ldS_sv hlt, stX_sv hlt, sv_ext hlt, sv_ext_sv hlt]
    refine hR _ _ (kq8 _ _ ?_); clear hR R; try clear kq8 kz8
    try simp only [go_sem, ldS_at hd, stX_at hd, ldS_sv hlt, stX_sv hlt, sv_ext hlt, sv_ext_sv hlt]
    refine W_ret ?_
    simp only [go_sem, ldS_at hd, stX_at hd, ldS_sv hlt, stX_sv hlt, sv_ext hlt, sv_ext_sv hlt]
    refine ⟨.inr (by trivial), ?_⟩
    rw [hinv]; refine Fin_set hcl (by simp only [go_sem]) rfl (Wk.ro (by simp only [go_sem]) ?_)
    try simp only [go_sem]
    all_goals
      simp only [go_sem]
set_option maxHeartbeats 2000000 in
theorem Sealed_pc (Y : YEnv) (σ : Sg) (s : Scale) (m j : Int) (l : List Int) (hl : l.length < 2 ^ 40) (hs : s.Ok) :
    PC Tryz.prog Y 55 [scPV s, I m, I j, ints l] σ (evPV (sealedE s m j l)) (σ) := by
  refine PC_of_W Tryz.func55 rfl (by kernel_rfl) Tryz.ntmps55 (by simp) fun hcl hca => ?_
  refine W_seq fun kz1 kq1 => ?_
  refine W_region [1, 2, 3, 4, 8] fun R hR => ?_   -- r0
  simp only [go_sem, sealedE]
  refine hR _ _ (kq1 _ _ ?_); clear hR R; try clear kq1 kz1
  try simp only [go_sem, sealedE]
  refine W_seq fun kz2 kq2 => ?_
  refine W_region [1, 2, 3, 8, 9] fun R hR => ?_   -- r1
  simp only [go_sem, sealedE]
  refine GCall_of (rSeal_pc Y _ s m j l .ro hl hs) ?_   -- t16
  simp only [go_sem, sealedE]
  refine hR _ _ (kq2 _ _ ?_); clear hR R; try clear kq2 kz2
  try simp only [go_sem, sealedE]
  refine W_seq fun kz3 kq3 => ?_
  refine W_region [8] fun R hR => ?_   -- r2
  simp only [go_sem, sealedE]
  refine hR _ _ (kq3 _ _ ?_); clear hR R; try clear kq3 kz3
  try simp only [go_sem, sealedE]
  refine W_ret ?_
  simp only [go_sem, sealedE]
  refine ⟨.inr (by trivial), ?_⟩
  first | refine Fin_same hcl (by show resPV Tryz.prog _ _ [.cell 8 51] = some _; simp only [resPV, go_sem]; rfl) (Wk_eq ?_ (by simp only [go_sem])) | refine Fin_same hcl rfl (Wk_eq ?_ (by simp only [go_sem]))
  try simp only [go_sem]
  all_goals
    first | rfl | simp [sealedE]
end Go.Proofs.YtgelnjmddabgpaaGreat
namespace Go.Proofs.YtgelnjmddabgpaaGreat
open Go Go.RowKit
set_option maxRecDepth 100000
theorem W_regionT {P : Program} {Y : YEnv} {N : Nat} {rd : Option Nat} {lo : Nat × Nat} {id : Nat} {ops : Array Oper} {E : Env} {σ : Sg} {Q : Exit → Env → Sg → Prop} (ks : List Nat) (upd : Env) (σ' : Sg)
    (rest : Q .normal (keep ks (upd ++ E)) σ') (h : ∀ K : Env → Sg → Prop, (∀ E' ρ, keep ks E' = keep ks (upd ++ E) → ρ = σ' → K E' ρ) → GL P Y N ops ops.toList E σ K) : W P Y N rd lo (.region id ops false) E σ Q :=
  W_region ks fun K hK => h K fun E' ρ e e2 => hK E' ρ (by rw [e, e2]; exact rest)
theorem ite_at {α β : Type} {c : Prop} [Decidable c] {f g : α → β} {x : α} : (if c then f else g) x = if c then f x else g x := by split <;> rfl
abbrev Rows2 := List Envl × List (Int × Int)
noncomputable def nightJ (s : Scale) (dec : Bool) (J m : Nat) : Nat → Int → List Envl → List (Int × Int) → D Rows2
  | 0, _, op, ab => dret (op, ab)
  | k + 1, here, op, ab => dbind (rare 5) fun a =>
    if a = true ∧ (0 < here ∨ ((J - (k + 1) : Nat) : Int) < (J : Int) - 1) then nightJ s dec J m k here op (ab ++ [((m : Int), ((J - (k + 1) : Nat) : Int))])
    else if dec = true then dbind (marksD s) fun l => nightJ s dec J m k (here + 1) (op ++ [sealedE s m ((J - (k + 1) : Nat) : Int) l]) ab
    else dbind (rare 3) fun r => if r = true then nightJ s dec J m k (here + 1) op ab else dbind (marksD s) fun l => nightJ s dec J m k (here + 1) (op ++ [sealedE s m ((J - (k + 1) : Nat) : Int) l]) ab
noncomputable def nightM (s : Scale) (dec : Bool) (M J : Nat) : Nat → List Envl → List (Int × Int) → D Rows2
  | 0, op, ab => dret (op, ab)
  | k + 1, op, ab => dbind (nightJ s dec J (M - (k + 1)) J 0 op ab) fun p => nightM s dec M J k p.1 p.2
noncomputable def finesC (sc : Int) : Nat → List (Int × Int) → D (List (Int × Int))
  | 0, fi => dret fi
  | k + 1, fi => dbind (roll sc) fun a => dbind (anyOf [3, 100]) fun y => dbind (roll y) fun p => finesC sc k (fi ++ [(a, p)])
noncomputable def finesD (sc : Int) : D (List (Int × Int)) := dbind (roll 4) fun q => dbind (anyOf [0, 0, q]) fun n => finesC sc n.toNat []
def pickE (op : List Envl) (od : List Int) : List Envl := od.map fun i => (op[i.toNat]?).getD ⟨0, 0, [], 0⟩
noncomputable def nightD (s : Scale) (dec : Bool) : D Night := dbind (nightM s dec s.matters.toNat s.judges.toNat s.matters.toNat [] []) fun p => dbind (finesD s.schools) fun fi => dbind (orderD p.1.length) fun od => dret ⟨pickE p.1 od, p.2, fi⟩
set_option maxHeartbeats 16000000 in
theorem NightOf_pc (Y : YEnv) (σ : Sg) (d : Nat) (b : Int) (hd : σ.store[d]? = some (some [.int .u64 b])) (s : Scale) (hv : s.V) (hs : s.Ok) (dec : Bool) :
    PC Tryz.prog Y 13 [.ptr d 0, scPV s, .bool dec] σ (ngPV (nightD s dec b).1) (σ.setVar d [.int .u64 (nightD s dec b).2]) := by
  refine PC_of_W Tryz.func13 rfl (by kernel_rfl) Tryz.ntmps13 (by simp) fun hcl hca => ?_
  have hlt := lt_of_get hd
  have q1 := hv.mt
  have q2 := hv.jd
  have q3 := hv.sc
  obtain ⟨M, hM⟩ : ∃ z : Nat, s.matters = z := ⟨s.matters.toNat, by omega⟩
  obtain ⟨J, hJ⟩ : ∃ z : Nat, s.judges = z := ⟨s.judges.toNat, by omega⟩
  have hMi : (s.matters : Int) = (M : Int) := hM
  have hJi : (s.judges : Int) = (J : Int) := hJ
  obtain ⟨res, hres⟩ : ∃ r, nightD s dec b = r := ⟨_, rfl⟩
  rw [hres]
  unfold nightD at hres
  simp only [hM, hJ, Int.toNat_natCast, dbind] at hres
  obtain ⟨R0, hR0⟩ : ∃ r, nightM s dec M J M [] [] b = r := ⟨_, rfl⟩
  rw [hR0] at hres
  refine W_seq fun kz1 kq1 => ?_
  refine W_region [0, 2, 4, 6] fun R hR => ?_   -- r0
  simp only [go_sem, ldS_at hd, stX_at hd, ldS_sv hlt, stX_sv hlt, sv_ext hlt, sv_ext_sv hlt]
  refine hR _ _ (kq1 _ _ ?_); clear hR R; try clear kq1 kz1
  try simp only [go_sem, ldS_at hd, stX_at hd, ldS_sv hlt, stX_sv hlt, sv_ext hlt, sv_ext_sv hlt]
  refine W_seq fun kz2 kq2 => ?_
  refine W_region [0, 2, 4, 6, 7] fun R hR => ?_   -- r1
  simp only [go_sem, ldS_at hd, stX_at hd, ldS_sv hlt, stX_sv hlt, sv_ext hlt, sv_ext_sv hlt]
  refine hR _ _ (kq2 _ _ ?_); clear hR R; try clear kq2 kz2
  try simp only [go_sem, ldS_at hd, stX_at hd, ldS_sv hlt, stX_sv hlt, sv_ext hlt, sv_ext_sv hlt]
  refine W_seq fun kz3 kq3 => ?_
  refine W_seq fun kz4 kq4 => ?_
  refine W_region [0, 2, 4, 6, 7, 8] fun R hR => ?_   -- r2
  simp only [go_sem, ldS_at hd, stX_at hd, ldS_sv hlt, stX_sv hlt, sv_ext hlt, sv_ext_sv hlt]
  refine hR _ _ (kq4 _ _ ?_); clear hR R; try clear kq4 kz4
  try simp only [go_sem, ldS_at hd, stX_at hd, ldS_sv hlt, stX_sv hlt, sv_ext hlt, sv_ext_sv hlt]
  refine W_block ?_
  refine W_weak (Weak.roomX (j := 2) (off := 0) (es := 4) rfl rfl (by simp)) ?_
  simp only [go_sem]
  refine W_weak (Weak.roomX (j := 2) (off := 1) (es := 2) rfl rfl (by simp)) ?_
  simp only [go_sem]
  refine W_weak (Weak.roomX (j := 2) (off := 2) (es := 2) rfl rfl (by simp)) ?_
  simp only [go_sem]
  refine W_loopT (α := Nat × (List Envl) × (List (Int × Int)) × Int) (fun ⟨i, op, ab, b⟩ => [(8, I i)]) (fun ⟨i, op, ab, b⟩ => (σ.setVar d [.int .u64 b]).ext [some (scCells s), some [.isl [] .exact, .isl [] .exact, .isl [] .exact], some [.isl (op.map evPV) (.tok σ.rooms.length op.length 4), .isl (ab.map stPV) (.tok (σ.rooms.length + 1) ab.length 2), .isl (([] : List (Int × Int)).map stPV) (.tok (σ.rooms.length + 2) ([] : List (Int × Int)).length 2)]] [op.length, ab.length, ([] : List (Int × Int)).length]) (fun ⟨i, op, ab, b⟩ => i ≤ M ∧ op.length ≤ 5 * i ∧ ab.length ≤ 5 * i ∧ R0 = nightM s dec M J (M - i) op ab b) (fun ⟨i, op, ab, b⟩ => M - i) ((0, [], [], b)) rfl (by simp only [go_sem, sv_self hd]) (⟨Nat.zero_le _, Nat.zero_le _, Nat.zero_le _, hR0.symm⟩) ?_
  rintro ⟨i, op, ab, b⟩ ⟨hi, hl1, hl2, hinv⟩
  refine W_seq fun kz5 kq5 => ?_
  refine W_seq fun kz6 kq6 => ?_
  refine W_region [0, 2, 4, 6, 7, 8, 18] fun R hR => ?_   -- r3
  simp only [go_sem, ldS_at hd, stX_at hd, ldS_sv hlt, stX_sv hlt, sv_ext hlt, sv_ext_sv hlt]
  refine hR _ _ (kq6 _ _ ?_); clear hR R; try clear kq6 kz6
  try simp only [go_sem, ldS_at hd, stX_at hd, ldS_sv hlt, stX_sv hlt, sv_ext hlt, sv_ext_sv hlt]
  refine W_cond rfl (fun c1 => ?_) (fun c1 => ?_)
  · -- c1 true
    try simp only [nrm] at c1
    have hiM : i < M := by first | omega | (simp at c1; omega)
    rw [show M - i = (M - (i + 1)) + 1 by omega] at hinv
    simp only [nightM, dbind] at hinv
    rw [show (M - (M - (i + 1) + 1) : Nat) = i by omega] at hinv
    obtain ⟨R1, hR1⟩ : ∃ z, nightJ s dec J i J 0 op ab b = z := ⟨_, rfl⟩
    rw [hR1] at hinv
    refine W_skip (kq5 _ _ ?_)
    refine W_seq fun kz7 kq7 => ?_
    refine W_block ?_
    refine W_seq fun kz8 kq8 => ?_
    refine W_region [0, 2, 4, 6, 7, 8, 9] fun R hR => ?_   -- r5
    simp only [go_sem, ldS_at hd, stX_at hd, ldS_sv hlt, stX_sv hlt, sv_ext hlt, sv_ext_sv hlt]
    refine hR _ _ (kq8 _ _ ?_); clear hR R; try clear kq8 kz8
    try simp only [go_sem, ldS_at hd, stX_at hd, ldS_sv hlt, stX_sv hlt, sv_ext hlt, sv_ext_sv hlt]
    refine W_seq fun kz9 kq9 => ?_
    refine W_region [0, 2, 4, 6, 7, 8, 9, 10] fun R hR => ?_   -- r6
    simp only [go_sem, ldS_at hd, stX_at hd, ldS_sv hlt, stX_sv hlt, sv_ext hlt, sv_ext_sv hlt]
    refine hR _ _ (kq9 _ _ ?_); clear hR R; try clear kq9 kz9
    try simp only [go_sem, ldS_at hd, stX_at hd, ldS_sv hlt, stX_sv hlt, sv_ext hlt, sv_ext_sv hlt]
    refine W_block ?_
    refine W_loopT (α := Nat × Nat × (List Envl) × (List (Int × Int)) × Int) (fun ⟨j, here, op2, ab2, b⟩ => [(9, I here), (10, I j)]) (fun ⟨j, here, op2, ab2, b⟩ => (σ.setVar d [.int .u64 b]).ext [some (scCells s), some [.isl [] .exact, .isl [] .exact, .isl [] .exact], some [.isl (op2.map evPV) (.tok σ.rooms.length op2.length 4), .isl (ab2.map stPV) (.tok (σ.rooms.length + 1) ab2.length 2), .isl (([] : List (Int × Int)).map stPV) (.tok (σ.rooms.length + 2) ([] : List (Int × Int)).length 2)]] [op2.length, ab2.length, ([] : List (Int × Int)).length]) (fun ⟨j, here, op2, ab2, b⟩ => j ≤ J ∧ here ≤ j ∧ op2.length ≤ 5 * i + j ∧ ab2.length ≤ 5 * i + j ∧ R1 = nightJ s dec J i (J - j) here op2 ab2 b) (fun ⟨j, here, op2, ab2, b⟩ => J - j) ((0, 0, op, ab, b)) rfl (by first | rfl | (simp only [go_sem]; done) | (simp only [go_sem]; rfl)) (⟨Nat.zero_le _, Nat.le_refl _, by omega, by omega, hR1.symm⟩) ?_
    rintro ⟨j, here, op2, ab2, b⟩ ⟨hj, hhe, hl3, hl4, hinv2⟩
    refine W_seq fun kz10 kq10 => ?_
    refine W_seq fun kz11 kq11 => ?_
    refine W_region [0, 2, 4, 6, 7, 8, 9, 10, 24] fun R hR => ?_   -- r7
    simp only [go_sem, ldS_at hd, stX_at hd, ldS_sv hlt, stX_sv hlt, sv_ext hlt, sv_ext_sv hlt]
    refine hR _ _ (kq11 _ _ ?_); clear hR R; try clear kq11 kz11
    try simp only [go_sem, ldS_at hd, stX_at hd, ldS_sv hlt, stX_sv hlt, sv_ext hlt, sv_ext_sv hlt]
    refine W_cond rfl (fun c2 => ?_) (fun c2 => ?_)
    · -- c2 true
      try simp only [nrm] at c2
      have hjJ : j < J := by first | omega | (simp at c2; omega)
      rw [show J - j = (J - (j + 1)) + 1 by omega] at hinv2
      simp only [nightJ, dbind, ite_at] at hinv2
      rw [show (J - (J - (j + 1) + 1) : Nat) = j by omega] at hinv2
      obtain ⟨a5, ha5⟩ : ∃ zz, (rare 5 b).1 = zz := ⟨_, rfl⟩
      obtain ⟨b1, hb1⟩ : ∃ zz, (rare 5 b).2 = zz := ⟨_, rfl⟩
      simp only [ha5, hb1] at hinv2
      refine W_skip (kq10 _ _ ?_)
      refine W_seq fun kz12 kq12 => ?_
      refine W_block ?_
      refine W_seq fun kz13 kq13 => ?_
      refine W_block ?_
      refine W_seq fun kz14 kq14 => ?_
      refine W_regionT [0, 2, 4, 6, 7, 8, 9, 10, 27] [(27, .bool (a5 && (decide ((0 : Int) < (here : Int)) || decide ((j : Int) < (J : Int) - 1))))] ((σ.setVar d [.int .u64 b1]).ext [some (scCells s), some [.isl [] .exact, .isl [] .exact, .isl [] .exact], some [.isl (op2.map evPV) (.tok σ.rooms.length op2.length 4), .isl (ab2.map stPV) (.tok (σ.rooms.length + 1) ab2.length 2), .isl (([] : List (Int × Int)).map stPV) (.tok (σ.rooms.length + 2) ([] : List (Int × Int)).length 2)]] [op2.length, ab2.length, ([] : List (Int × Int)).length]) ?_ fun R hR => ?_   -- r9
      · refine kq14 _ _ ?_
        simp only [go_sem, ldS_at hd, stX_at hd, ldS_sv hlt, stX_sv hlt, sv_ext hlt, sv_ext_sv hlt, ha5, hb1]
        refine W_cond rfl (fun c3 => ?_) (fun c3 => ?_)
        · -- c3 true
          try simp only [nrm] at c3
          refine W_seq fun kz15 kq15 => ?_
          refine W_region [0, 2, 4, 6, 7, 8, 9, 10] fun R hR => ?_   -- r10
          simp only [go_sem, ldS_at hd, stX_at hd, ldS_sv hlt, stX_sv hlt, sv_ext hlt, sv_ext_sv hlt, ha5, hb1]
          try simp (disch := first | omega | (simp only [go_sem] <;> omega)) only [wrapI, wrapU, appX_exact, appX_tok]
          try simp only [go_sem, ldS_at hd, stX_at hd, ldS_sv hlt, stX_sv hlt, sv_ext hlt, sv_ext_sv hlt, ha5, hb1]
          refine hR _ _ (kq15 _ _ ?_); clear hR R; try clear kq15 kz15
          try simp only [go_sem, ldS_at hd, stX_at hd, ldS_sv hlt, stX_sv hlt, sv_ext hlt, sv_ext_sv hlt, ha5, hb1]
          refine W_exit ?_
          simp only [go_sem, ldS_at hd, stX_at hd, ldS_sv hlt, stX_sv hlt, sv_ext hlt, sv_ext_sv hlt, ha5, hb1]
          refine kq12 _ _ ?_
          refine W_region [0, 2, 4, 6, 7, 8, 9, 10] fun R hR => ?_   -- r8
          simp only [go_sem, ldS_at hd, stX_at hd, ldS_sv hlt, stX_sv hlt, sv_ext hlt, sv_ext_sv hlt, ha5, hb1]
          try simp (disch := omega) only [wrapI, wrapU]
          refine hR _ _ ?_; clear hR R
          try simp only [go_sem, ldS_at hd, stX_at hd, ldS_sv hlt, stX_sv hlt, sv_ext hlt, sv_ext_sv hlt, ha5, hb1]
          refine ⟨(j + 1, here, op2, ab2 ++ [((i : Int), (j : Int))], b1), ?_, by (try simp only []); omega, ?_⟩
          · first | exact Weak.refl | exact Weak.eq (by first | rfl | (simp only [go_sem]; done) | (simp only [go_sem]; rfl) | (simp [go_sem]; done) | (simp [go_sem]; omega)) (by first | rfl | (simp only [go_sem]; done) | (simp [go_sem]; done))
          · try dsimp only
            refine ⟨by omega, by omega, ?_, ?_, ?_⟩
            · first | omega | (simp; omega)
            · first | omega | (simp; omega)
            · first
              | (rw [hinv2, if_pos (by simpa using c3)]; done)
              | (rw [hinv2, if_neg (by simpa using c3)]; simp [g1]; done)
              | (rw [hinv2, if_neg (by simpa using c3)]; simp [g1, c4]; done)
        · -- c3 false
          try simp only [nrm] at c3
          refine W_seq fun kz16 kq16 => ?_
          refine W_region [0, 2, 4, 6, 7, 8, 9, 10, 49] fun R hR => ?_   -- r11
          simp only [go_sem, ldS_at hd, stX_at hd, ldS_sv hlt, stX_sv hlt, sv_ext hlt, sv_ext_sv hlt, ha5, hb1]
          refine GWant_split (fun g1 => ?_) (fun g1 => ?_)
          · try simp only [Bool.not_eq_true', Bool.not_eq_false'] at g1
            have n1 := g1; try simp only [nrm] at n1
            obtain ⟨a3, ha3⟩ : ∃ zz, (rare 3 b1).1 = zz := ⟨_, rfl⟩
            obtain ⟨b2, hb2⟩ : ∃ zz, (rare 3 b1).2 = zz := ⟨_, rfl⟩
            simp only [ha3, hb2] at hinv2
            simp only [go_sem, ldS_at hd, stX_at hd, ldS_sv hlt, stX_sv hlt, sv_ext hlt, sv_ext_sv hlt, ha5, hb1, ha3, hb2, g1]
            refine GCall_of (Rare_pc Y _ d b1 (by first | exact hd | exact sv_get hlt | exact get_svx hlt | exact get_extx hd) 3 (by omega)) ?_   -- t53
            simp only [go_sem, ldS_at hd, stX_at hd, ldS_sv hlt, stX_sv hlt, sv_ext hlt, sv_ext_sv hlt, ha5, hb1, ha3, hb2, g1]
            refine hR _ _ (kq16 _ _ ?_); clear hR R; try clear kq16 kz16
            try simp only [go_sem, ldS_at hd, stX_at hd, ldS_sv hlt, stX_sv hlt, sv_ext hlt, sv_ext_sv hlt, ha5, hb1, ha3, hb2]
            refine W_cond rfl (fun c4 => ?_) (fun c4 => ?_)
            · -- c4 true
              try simp only [nrm] at c4
              obtain ⟨ml, hml⟩ : ∃ zz, (marksD s b2).1 = zz := ⟨_, rfl⟩
              obtain ⟨b4, hb4⟩ : ∃ zz, (marksD s b2).2 = zz := ⟨_, rfl⟩
              have dml := marksD_ok hv b2
              simp only [hml] at dml
              have hmln : ml.length < 2 ^ 40 := by have := dml.1; omega
              try simp only [hml, hb4] at hinv2
              refine W_draw [0, 2, 4, 6, 7, 8, 9, 10] [0, 1, 2, 3, 4, 5, 6, 7, 8, 9, 10, 11, 12] [(0, 8), (0, 10), (1, 8), (1, 10), (2, 8), (3, 8), (4, 8)] [[], [0], [], [], [], [], [], [5, 6], [2, 3, 4, 5, 6, 7], [2, 3, 4, 5, 6, 7, 8], [0, 1, 2, 3, 4, 5, 6, 7, 8, 9], [0, 1, 2, 3, 4, 5, 6, 7, 8, 9, 10], [0, 1, 2, 3, 4, 5, 6, 7, 8, 9, 10, 11]] mixed (by kernel_rfl) fun R hR => ?_   -- r12
              simp only [go_sem, ldS_at hd, stX_at hd, ldS_sv hlt, stX_sv hlt, sv_ext hlt, sv_ext_sv hlt, ha5, hb1, ha3, hb2, hml, hb4]
              refine GCall_of (MarksOf_pc Y _ d _ (by first | exact hd | exact sv_get hlt | exact get_svx hlt | exact get_extx hd) s hv) ?_   -- t63
              simp only [go_sem, ldS_at hd, stX_at hd, ldS_sv hlt, stX_sv hlt, sv_ext hlt, sv_ext_sv hlt, ha5, hb1, ha3, hb2, hml, hb4]
              refine GCall_of (Sealed_pc Y _ s i j ml (by omega) hs) ?_   -- t64
              simp only [go_sem, ldS_at hd, stX_at hd, ldS_sv hlt, stX_sv hlt, sv_ext hlt, sv_ext_sv hlt, ha5, hb1, ha3, hb2, hml, hb4]
              try simp (disch := first | omega | (simp only [go_sem] <;> omega)) only [wrapI, wrapU, appX_exact, appX_tok]
              try simp only [go_sem, ldS_at hd, stX_at hd, ldS_sv hlt, stX_sv hlt, sv_ext hlt, sv_ext_sv hlt, ha5, hb1, ha3, hb2, hml, hb4]
              try refine And.intro (by repeat' (first | refine And.intro ?_ ?_ | exact GOr_right (fun _ => by simp only [go_sem, ldS_at hd, stX_at hd, ldS_sv hlt, stX_sv hlt, sv_ext hlt, sv_ext_sv hlt, ha5, hb1, ha3, hb2, hml, hb4]))) ?_
              refine hR _ _ (kq13 _ _ ?_); clear hR R; try clear kq13 kz13
              try simp only [go_sem, ldS_at hd, stX_at hd, ldS_sv hlt, stX_sv hlt, sv_ext hlt, sv_ext_sv hlt, ha5, hb1, ha3, hb2, hml, hb4]
              refine W_region [0, 2, 4, 6, 7, 8, 9, 10] fun R hR => ?_   -- r13
              simp only [go_sem, ldS_at hd, stX_at hd, ldS_sv hlt, stX_sv hlt, sv_ext hlt, sv_ext_sv hlt, ha5, hb1, ha3, hb2, hml, hb4]
              try simp (disch := omega) only [wrapI, wrapU]
              refine hR _ _ (kq12 _ _ ?_); clear hR R; try clear kq12 kz12
              try simp only [go_sem, ldS_at hd, stX_at hd, ldS_sv hlt, stX_sv hlt, sv_ext hlt, sv_ext_sv hlt, ha5, hb1, ha3, hb2, hml, hb4]
              refine W_region [0, 2, 4, 6, 7, 8, 9, 10] fun R hR => ?_   -- r8
              simp only [go_sem, ldS_at hd, stX_at hd, ldS_sv hlt, stX_sv hlt, sv_ext hlt, sv_ext_sv hlt, ha5, hb1, ha3, hb2, hml, hb4]
              try simp (disch := omega) only [wrapI, wrapU]
              refine hR _ _ ?_; clear hR R
              try simp only [go_sem, ldS_at hd, stX_at hd, ldS_sv hlt, stX_sv hlt, sv_ext hlt, sv_ext_sv hlt, ha5, hb1, ha3, hb2, hml, hb4]
              refine ⟨(j + 1, here + 1, op2 ++ [sealedE s i j ml], ab2, b4), ?_, by (try simp only []); omega, ?_⟩
              · first | exact Weak.refl | exact Weak.eq (by first | rfl | (simp only [go_sem]; done) | (simp only [go_sem]; rfl) | (simp [go_sem]; done) | (simp [go_sem]; omega)) (by first | rfl | (simp only [go_sem]; done) | (simp [go_sem]; done))
              · try dsimp only
                refine ⟨by omega, by omega, ?_, ?_, ?_⟩
                · first | omega | (simp; omega)
                · first | omega | (simp; omega)
                · first
                  | (rw [hinv2, if_pos (by simpa using c3)]; done)
                  | (rw [hinv2, if_neg (by simpa using c3)]; simp [g1]; done)
                  | (rw [hinv2, if_neg (by simpa using c3)]; simp [g1, c4]; done)
            · -- c4 false
              try simp only [nrm] at c4
              refine W_skip (kq13 _ _ ?_)
              refine W_region [0, 2, 4, 6, 7, 8, 9, 10] fun R hR => ?_   -- r13
              simp only [go_sem, ldS_at hd, stX_at hd, ldS_sv hlt, stX_sv hlt, sv_ext hlt, sv_ext_sv hlt, ha5, hb1, ha3, hb2]
              try simp (disch := omega) only [wrapI, wrapU]
              refine hR _ _ (kq12 _ _ ?_); clear hR R; try clear kq12 kz12
              try simp only [go_sem, ldS_at hd, stX_at hd, ldS_sv hlt, stX_sv hlt, sv_ext hlt, sv_ext_sv hlt, ha5, hb1, ha3, hb2]
              refine W_region [0, 2, 4, 6, 7, 8, 9, 10] fun R hR => ?_   -- r8
              simp only [go_sem, ldS_at hd, stX_at hd, ldS_sv hlt, stX_sv hlt, sv_ext hlt, sv_ext_sv hlt, ha5, hb1, ha3, hb2]
              try simp (disch := omega) only [wrapI, wrapU]
              refine hR _ _ ?_; clear hR R
              try simp only [go_sem, ldS_at hd, stX_at hd, ldS_sv hlt, stX_sv hlt, sv_ext hlt, sv_ext_sv hlt, ha5, hb1, ha3, hb2]
              refine ⟨(j + 1, here + 1, op2, ab2, b2), ?_, by (try simp only []); omega, ?_⟩
              · first | exact Weak.refl | exact Weak.eq (by first | rfl | (simp only [go_sem]; done) | (simp only [go_sem]; rfl) | (simp [go_sem]; done) | (simp [go_sem]; omega)) (by first | rfl | (simp only [go_sem]; done) | (simp [go_sem]; done))
              · try dsimp only
                refine ⟨by omega, by omega, ?_, ?_, ?_⟩
                · first | omega | (simp; omega)
                · first | omega | (simp; omega)
                · first
                  | (rw [hinv2, if_pos (by simpa using c3)]; done)
                  | (rw [hinv2, if_neg (by simpa using c3)]; simp [g1]; done)
                  | (rw [hinv2, if_neg (by simpa using c3)]; simp [g1, c4]; done)
          · try simp only [Bool.not_eq_true', Bool.not_eq_false'] at g1
            have n1 := g1; try simp only [nrm] at n1
            obtain ⟨ml, hml⟩ : ∃ zz, (marksD s b1).1 = zz := ⟨_, rfl⟩
            obtain ⟨b4, hb4⟩ : ∃ zz, (marksD s b1).2 = zz := ⟨_, rfl⟩
            have dml := marksD_ok hv b1
            simp only [hml] at dml
            have hmln : ml.length < 2 ^ 40 := by have := dml.1; omega
            try simp only [hml, hb4] at hinv2
            simp only [go_sem, ldS_at hd, stX_at hd, ldS_sv hlt, stX_sv hlt, sv_ext hlt, sv_ext_sv hlt, ha5, hb1, hml, hb4, g1]
            refine hR _ _ (kq16 _ _ ?_); clear hR R; try clear kq16 kz16
            try simp only [go_sem, ldS_at hd, stX_at hd, ldS_sv hlt, stX_sv hlt, sv_ext hlt, sv_ext_sv hlt, ha5, hb1, hml, hb4]
            refine W_cond_true rfl ?_
            refine W_draw [0, 2, 4, 6, 7, 8, 9, 10] [0, 1, 2, 3, 4, 5, 6, 7, 8, 9, 10, 11, 12] [(0, 8), (0, 10), (1, 8), (1, 10), (2, 8), (3, 8), (4, 8)] [[], [0], [], [], [], [], [], [5, 6], [2, 3, 4, 5, 6, 7], [2, 3, 4, 5, 6, 7, 8], [0, 1, 2, 3, 4, 5, 6, 7, 8, 9], [0, 1, 2, 3, 4, 5, 6, 7, 8, 9, 10], [0, 1, 2, 3, 4, 5, 6, 7, 8, 9, 10, 11]] mixed (by kernel_rfl) fun R hR => ?_   -- r12
            simp only [go_sem, ldS_at hd, stX_at hd, ldS_sv hlt, stX_sv hlt, sv_ext hlt, sv_ext_sv hlt, ha5, hb1, hml, hb4]
            refine GCall_of (MarksOf_pc Y _ d _ (by first | exact hd | exact sv_get hlt | exact get_svx hlt | exact get_extx hd) s hv) ?_   -- t63
            simp only [go_sem, ldS_at hd, stX_at hd, ldS_sv hlt, stX_sv hlt, sv_ext hlt, sv_ext_sv hlt, ha5, hb1, hml, hb4]
            refine GCall_of (Sealed_pc Y _ s i j ml (by omega) hs) ?_   -- t64
            simp only [go_sem, ldS_at hd, stX_at hd, ldS_sv hlt, stX_sv hlt, sv_ext hlt, sv_ext_sv hlt, ha5, hb1, hml, hb4]
            try simp (disch := first | omega | (simp only [go_sem] <;> omega)) only [wrapI, wrapU, appX_exact, appX_tok]
            try simp only [go_sem, ldS_at hd, stX_at hd, ldS_sv hlt, stX_sv hlt, sv_ext hlt, sv_ext_sv hlt, ha5, hb1, hml, hb4]
            try refine And.intro (by repeat' (first | refine And.intro ?_ ?_ | exact GOr_right (fun _ => by simp only [go_sem, ldS_at hd, stX_at hd, ldS_sv hlt, stX_sv hlt, sv_ext hlt, sv_ext_sv hlt, ha5, hb1, hml, hb4]))) ?_
            refine hR _ _ (kq13 _ _ ?_); clear hR R; try clear kq13 kz13
            try simp only [go_sem, ldS_at hd, stX_at hd, ldS_sv hlt, stX_sv hlt, sv_ext hlt, sv_ext_sv hlt, ha5, hb1, hml, hb4]
            refine W_region [0, 2, 4, 6, 7, 8, 9, 10] fun R hR => ?_   -- r13
            simp only [go_sem, ldS_at hd, stX_at hd, ldS_sv hlt, stX_sv hlt, sv_ext hlt, sv_ext_sv hlt, ha5, hb1, hml, hb4]
            try simp (disch := omega) only [wrapI, wrapU]
            refine hR _ _ (kq12 _ _ ?_); clear hR R; try clear kq12 kz12
            try simp only [go_sem, ldS_at hd, stX_at hd, ldS_sv hlt, stX_sv hlt, sv_ext hlt, sv_ext_sv hlt, ha5, hb1, hml, hb4]
            refine W_region [0, 2, 4, 6, 7, 8, 9, 10] fun R hR => ?_   -- r8
            simp only [go_sem, ldS_at hd, stX_at hd, ldS_sv hlt, stX_sv hlt, sv_ext hlt, sv_ext_sv hlt, ha5, hb1, hml, hb4]
            try simp (disch := omega) only [wrapI, wrapU]
            refine hR _ _ ?_; clear hR R
            try simp only [go_sem, ldS_at hd, stX_at hd, ldS_sv hlt, stX_sv hlt, sv_ext hlt, sv_ext_sv hlt, ha5, hb1, hml, hb4]
            refine ⟨(j + 1, here + 1, op2 ++ [sealedE s i j ml], ab2, b4), ?_, by (try simp only []); omega, ?_⟩
            · first | exact Weak.refl | exact Weak.eq (by first | rfl | (simp only [go_sem]; done) | (simp only [go_sem]; rfl) | (simp [go_sem]; done) | (simp [go_sem]; omega)) (by first | rfl | (simp only [go_sem]; done) | (simp [go_sem]; done))
            · try dsimp only
              refine ⟨by omega, by omega, ?_, ?_, ?_⟩
              · first | omega | (simp; omega)
              · first | omega | (simp; omega)
              · first
                | (rw [hinv2, if_pos (by simpa using c3)]; done)
                | (rw [hinv2, if_neg (by simpa using c3)]; simp [g1]; done)
                | (rw [hinv2, if_neg (by simpa using c3)]; simp [g1, c4]; done)
      · simp only [go_sem, ldS_at hd, stX_at hd, ldS_sv hlt, stX_sv hlt, sv_ext hlt, sv_ext_sv hlt, ha5, hb1]
        refine GCall_of (Rare_pc Y _ d b (by first | exact hd | exact sv_get hlt | exact get_svx hlt | exact get_extx hd) 5 (by omega)) ?_   -- t29
        simp only [go_sem, ldS_at hd, stX_at hd, ldS_sv hlt, stX_sv hlt, sv_ext hlt, sv_ext_sv hlt, ha5, hb1]
        refine GWant_split (fun g2 => ?_) (fun g2 => ?_)
        · try simp only [Bool.not_eq_true', Bool.not_eq_false'] at g2
          have n2 := g2; try simp only [nrm] at n2
          simp only [go_sem, ldS_at hd, stX_at hd, ldS_sv hlt, stX_sv hlt, sv_ext hlt, sv_ext_sv hlt, ha5, hb1, g2]
          refine GWant_split (fun g3 => ?_) (fun g3 => ?_)
          · try simp only [Bool.not_eq_true', Bool.not_eq_false'] at g3
            have n3 := g3; try simp only [nrm] at n3
            simp only [go_sem, ldS_at hd, stX_at hd, ldS_sv hlt, stX_sv hlt, sv_ext hlt, sv_ext_sv hlt, ha5, hb1, g2, g3]
            try simp (disch := omega) only [wrapI, wrapU]
            refine hR _ _ ?_ ?_
            all_goals try simp only [go_sem, ldS_at hd, stX_at hd, ldS_sv hlt, stX_sv hlt, sv_ext hlt, sv_ext_sv hlt, ha5, hb1]
            all_goals
              first | rfl | (simp [*]; done) | (simp [*]; omega)
          · try simp only [Bool.not_eq_true', Bool.not_eq_false'] at g3
            have n3 := g3; try simp only [nrm] at n3
            simp only [go_sem, ldS_at hd, stX_at hd, ldS_sv hlt, stX_sv hlt, sv_ext hlt, sv_ext_sv hlt, ha5, hb1, g2, g3]
            try simp (disch := omega) only [wrapI, wrapU]
            refine hR _ _ ?_ ?_
            all_goals try simp only [go_sem, ldS_at hd, stX_at hd, ldS_sv hlt, stX_sv hlt, sv_ext hlt, sv_ext_sv hlt, ha5, hb1]
            all_goals
              first | rfl | (simp [*]; done) | (simp [*]; omega)
        · try simp only [Bool.not_eq_true', Bool.not_eq_false'] at g2
          have n2 := g2; try simp only [nrm] at n2
          simp only [go_sem, ldS_at hd, stX_at hd, ldS_sv hlt, stX_sv hlt, sv_ext hlt, sv_ext_sv hlt, ha5, hb1, g2]
          try simp (disch := omega) only [wrapI, wrapU]
          refine hR _ _ ?_ ?_
          all_goals try simp only [go_sem, ldS_at hd, stX_at hd, ldS_sv hlt, stX_sv hlt, sv_ext hlt, sv_ext_sv hlt, ha5, hb1]
          all_goals
            first | rfl | (simp [*]; done) | (simp [*]; omega)
    · -- c2 false
      try simp only [nrm] at c2
      have hje : J = j := by first | omega | (simp at c2; omega)
      subst hje
      rw [Nat.sub_self] at hinv2
      simp only [nightJ, dret] at hinv2
      refine W_exit ?_
      simp only [go_sem, ldS_at hd, stX_at hd, ldS_sv hlt, stX_sv hlt, sv_ext hlt, sv_ext_sv hlt]
      refine kq7 _ _ ?_
      refine W_region [0, 2, 4, 6, 7, 8] fun R hR => ?_   -- r4
      simp only [go_sem, ldS_at hd, stX_at hd, ldS_sv hlt, stX_sv hlt, sv_ext hlt, sv_ext_sv hlt]
      try simp (disch := omega) only [wrapI, wrapU]
      refine hR _ _ ?_; clear hR R
      try simp only [go_sem, ldS_at hd, stX_at hd, ldS_sv hlt, stX_sv hlt, sv_ext hlt, sv_ext_sv hlt]
      refine ⟨(i + 1, op2, ab2, b), ?_, by (try simp only []); omega, ?_⟩
      · first | exact Weak.refl | exact Weak.eq (by first | rfl | (simp only [go_sem]; done) | (simp only [go_sem]; rfl) | (simp [go_sem]; done) | (simp [go_sem]; omega)) (by first | rfl | (simp only [go_sem]; done) | (simp [go_sem]; done))
      · try dsimp only
        exact ⟨by omega, by omega, by omega, by rw [hinv, hinv2]⟩
  · -- c1 false
    try simp only [nrm] at c1
    have hie : M = i := by first | omega | (simp at c1; omega)
    subst hie
    rw [Nat.sub_self] at hinv
    simp only [nightM, dret] at hinv
    rw [hinv] at hres
    simp only [finesD, dbind] at hres
    obtain ⟨q4, hq4⟩ : ∃ zz, (roll 4 b).1 = zz := ⟨_, rfl⟩
    obtain ⟨b1, hb1⟩ : ∃ zz, (roll 4 b).2 = zz := ⟨_, rfl⟩
    have dq4 := roll_bd 4 b
    simp only [hq4] at dq4
    obtain ⟨nf, hnf⟩ : ∃ zz, (anyOf [0, 0, q4] b1).1 = zz := ⟨_, rfl⟩
    obtain ⟨b2, hb2⟩ : ∃ zz, (anyOf [0, 0, q4] b1).2 = zz := ⟨_, rfl⟩
    have dnf := anyOf_mem [0, 0, q4] (by simp) b1
    simp only [hnf] at dnf
    simp only [hq4, hb1, hnf, hb2] at hres
    have hnf3 : 0 ≤ nf ∧ nf ≤ 3 := by rcases mem3 dnf with h | h | h <;> omega
    obtain ⟨n4, hn4⟩ : ∃ z : Nat, nf = z := ⟨nf.toNat, by omega⟩
    subst hn4
    simp only [Int.toNat_natCast] at hres
    refine W_exit ?_
    simp only [go_sem, ldS_at hd, stX_at hd, ldS_sv hlt, stX_sv hlt, sv_ext hlt, sv_ext_sv hlt, hq4, hb1, hnf, hb2]
    refine kq3 _ _ ?_
    refine W_seq fun kz17 kq17 => ?_
    refine W_seq fun kz18 kq18 => ?_
    refine W_region [0, 4, 6, 7, 11] fun R hR => ?_   -- r14
    simp only [go_sem, ldS_at hd, stX_at hd, ldS_sv hlt, stX_sv hlt, sv_ext hlt, sv_ext_sv hlt, hq4, hb1, hnf, hb2]
    refine GCall_of (Roll_pc Y _ d b (by first | exact hd | exact sv_get hlt | exact get_svx hlt | exact get_extx hd) 4 (by omega)) ?_   -- t72
    simp only [go_sem, ldS_at hd, stX_at hd, ldS_sv hlt, stX_sv hlt, sv_ext hlt, sv_ext_sv hlt, hq4, hb1, hnf, hb2]
    refine GCall_of (Any_pc Y _ d b1 (by first | exact hd | exact sv_get hlt | exact get_svx hlt | exact get_extx hd) [0, 0, q4] (by simp) (by simp)) ?_   -- t74
    simp only [go_sem, ldS_at hd, stX_at hd, ldS_sv hlt, stX_sv hlt, sv_ext hlt, sv_ext_sv hlt, hq4, hb1, hnf, hb2]
    refine hR _ _ (kq18 _ _ ?_); clear hR R; try clear kq18 kz18
    try simp only [go_sem, ldS_at hd, stX_at hd, ldS_sv hlt, stX_sv hlt, sv_ext hlt, sv_ext_sv hlt, hq4, hb1, hnf, hb2]
    refine W_block ?_
    obtain ⟨R2, hR2⟩ : ∃ z, finesC s.schools n4 [] b2 = z := ⟨_, rfl⟩
    rw [hR2] at hres
    refine W_loopT (α := Nat × (List (Int × Int)) × Int) (fun ⟨k, fi, b⟩ => [(11, I k)]) (fun ⟨k, fi, b⟩ => (σ.setVar d [.int .u64 b]).ext [some (scCells s), some [.isl [] .exact, .isl [] .exact, .isl [] .exact], some [.isl (op.map evPV) (.tok σ.rooms.length op.length 4), .isl (ab.map stPV) (.tok (σ.rooms.length + 1) ab.length 2), .isl (fi.map stPV) (.tok (σ.rooms.length + 2) fi.length 2)]] [op.length, ab.length, fi.length]) (fun ⟨k, fi, b⟩ => fi.length + k ≤ 3 ∧ R2 = finesC s.schools k fi b) (fun ⟨k, fi, b⟩ => k) ((n4, [], b2)) rfl (by first | rfl | (simp only [go_sem]; done) | (simp only [go_sem]; rfl)) (⟨by simp; omega, hR2.symm⟩) ?_
    rintro ⟨k, fi, b⟩ ⟨hk, hinv3⟩
    refine W_seq fun kz19 kq19 => ?_
    refine W_seq fun kz20 kq20 => ?_
    refine W_region [0, 4, 6, 7, 11, 76] fun R hR => ?_   -- r15
    simp only [go_sem, ldS_at hd, stX_at hd, ldS_sv hlt, stX_sv hlt, sv_ext hlt, sv_ext_sv hlt, hq4, hb1, hnf, hb2]
    refine hR _ _ (kq20 _ _ ?_); clear hR R; try clear kq20 kz20
    try simp only [go_sem, ldS_at hd, stX_at hd, ldS_sv hlt, stX_sv hlt, sv_ext hlt, sv_ext_sv hlt, hq4, hb1, hnf, hb2]
    refine W_cond rfl (fun c5 => ?_) (fun c5 => ?_)
    · -- c5 true
      try simp only [nrm] at c5
      obtain ⟨k, rfl⟩ : ∃ z, k = z + 1 := ⟨k - 1, by first | omega | (simp at c5; omega)⟩
      simp only [finesC, dbind] at hinv3
      obtain ⟨fa, hfa⟩ : ∃ zz, (roll s.schools b).1 = zz := ⟨_, rfl⟩
      obtain ⟨b1, hb1⟩ : ∃ zz, (roll s.schools b).2 = zz := ⟨_, rfl⟩
      have dfa := roll_bd s.schools b
      simp only [hfa] at dfa
      obtain ⟨fy, hfy⟩ : ∃ zz, (anyOf [3, 100] b1).1 = zz := ⟨_, rfl⟩
      obtain ⟨b2, hb2⟩ : ∃ zz, (anyOf [3, 100] b1).2 = zz := ⟨_, rfl⟩
      have dfy := anyOf_mem [3, 100] (by simp) b1
      simp only [hfy] at dfy
      obtain ⟨fp, hfp⟩ : ∃ zz, (roll fy b2).1 = zz := ⟨_, rfl⟩
      obtain ⟨b3, hb3⟩ : ∃ zz, (roll fy b2).2 = zz := ⟨_, rfl⟩
      have dfp := roll_bd fy b2
      simp only [hfp] at dfp
      simp only [hfa, hb1, hfy, hb2, hfp, hb3] at hinv3
      have hfyb : 0 ≤ fy ∧ fy ≤ 100 := by rcases mem2 dfy with h | h <;> omega
      refine W_skip (kq19 _ _ ?_)
      refine W_seq fun kz21 kq21 => ?_
      refine W_block ?_
      refine W_draw [0, 4, 6, 7, 11] [0, 1, 2, 3, 4, 5, 6, 7, 8, 9, 10, 11, 12, 13, 14, 15] [(0, 9), (0, 10), (0, 13), (1, 9), (1, 10), (1, 13), (6, 5), (6, 10), (7, 5), (8, 5)] [[], [0], [], [], [3], [2, 3, 4], [], [], [], [2, 3, 4, 5, 7, 8], [2, 3, 4, 5, 6, 7, 8, 9], [2, 3, 4, 5, 6, 7, 8, 9, 10], [2, 3, 4, 5, 6, 7, 8, 9, 10, 11], [0, 1, 2, 3, 4, 5, 6, 7, 8, 9, 10, 11, 12], [0, 1, 2, 3, 4, 5, 6, 7, 8, 9, 10, 11, 12, 13], [0, 1, 2, 3, 4, 5, 6, 7, 8, 9, 10, 11, 12, 13, 14]] mixed (by kernel_rfl) fun R hR => ?_   -- r17
      simp only [go_sem, ldS_at hd, stX_at hd, ldS_sv hlt, stX_sv hlt, sv_ext hlt, sv_ext_sv hlt, hq4, hb1, hnf, hb2, hfa, hb1, hfy, hb2, hfp, hb3]
      refine GCall_of (Roll_pc Y _ d b (by first | exact hd | exact sv_get hlt | exact get_svx hlt | exact get_extx hd) s.schools (by omega)) ?_   -- t84
      simp only [go_sem, ldS_at hd, stX_at hd, ldS_sv hlt, stX_sv hlt, sv_ext hlt, sv_ext_sv hlt, hq4, hb1, hnf, hb2, hfa, hb1, hfy, hb2, hfp, hb3]
      refine GCall_of (Any_pc Y _ d b1 (by first | exact hd | exact sv_get hlt | exact get_svx hlt | exact get_extx hd) [3, 100] (by simp) (by simp)) ?_   -- t88
      simp only [go_sem, ldS_at hd, stX_at hd, ldS_sv hlt, stX_sv hlt, sv_ext hlt, sv_ext_sv hlt, hq4, hb1, hnf, hb2, hfa, hb1, hfy, hb2, hfp, hb3]
      refine GCall_of (Roll_pc Y _ d b2 (by first | exact hd | exact sv_get hlt | exact get_svx hlt | exact get_extx hd) fy (by omega)) ?_   -- t89
      simp only [go_sem, ldS_at hd, stX_at hd, ldS_sv hlt, stX_sv hlt, sv_ext hlt, sv_ext_sv hlt, hq4, hb1, hnf, hb2, hfa, hb1, hfy, hb2, hfp, hb3]
      try simp (disch := first | omega | (simp only [go_sem] <;> omega)) only [wrapI, wrapU, appX_exact, appX_tok]
      try simp only [go_sem, ldS_at hd, stX_at hd, ldS_sv hlt, stX_sv hlt, sv_ext hlt, sv_ext_sv hlt, hq4, hb1, hnf, hb2, hfa, hb1, hfy, hb2, hfp, hb3]
      try refine And.intro (by repeat' (first | refine And.intro ?_ ?_ | exact GOr_right (fun _ => by simp only [go_sem, ldS_at hd, stX_at hd, ldS_sv hlt, stX_sv hlt, sv_ext hlt, sv_ext_sv hlt, hq4, hb1, hnf, hb2, hfa, hb1, hfy, hb2, hfp, hb3]))) ?_
      refine hR _ _ (kq21 _ _ ?_); clear hR R; try clear kq21 kz21
      try simp only [go_sem, ldS_at hd, stX_at hd, ldS_sv hlt, stX_sv hlt, sv_ext hlt, sv_ext_sv hlt, hq4, hb1, hnf, hb2, hfa, hb1, hfy, hb2, hfp, hb3]
      refine W_region [0, 4, 6, 7, 11] fun R hR => ?_   -- r16
      simp only [go_sem, ldS_at hd, stX_at hd, ldS_sv hlt, stX_sv hlt, sv_ext hlt, sv_ext_sv hlt, hq4, hb1, hnf, hb2, hfa, hb1, hfy, hb2, hfp, hb3]
      try simp (disch := omega) only [wrapI, wrapU]
      refine hR _ _ ?_; clear hR R
      try simp only [go_sem, ldS_at hd, stX_at hd, ldS_sv hlt, stX_sv hlt, sv_ext hlt, sv_ext_sv hlt, hq4, hb1, hnf, hb2, hfa, hb1, hfy, hb2, hfp, hb3]
      refine ⟨(k, fi ++ [(fa, fp)], b3), ?_, by (try simp only []); omega, ?_⟩
      · first | exact Weak.refl | exact Weak.eq (by first | rfl | (simp only [go_sem]; done) | (simp only [go_sem]; rfl) | (simp [go_sem]; done) | (simp [go_sem]; omega)) (by first | rfl | (simp only [go_sem]; done) | (simp [go_sem]; done))
      · try dsimp only
        exact ⟨by simp; omega, hinv3⟩
    · -- c5 false
      try simp only [nrm] at c5
      have hke : k = 0 := by first | omega | (simp at c5; omega)
      subst hke
      simp only [finesC, dret] at hinv3
      rw [hinv3] at hres
      simp only [] at hres
      obtain ⟨od, hod⟩ : ∃ zz, (orderD op.length b).1 = zz := ⟨_, rfl⟩
      obtain ⟨b1, hb1⟩ : ∃ zz, (orderD op.length b).2 = zz := ⟨_, rfl⟩
      have dod := orderD_perm op.length b
      simp only [hod] at dod
      simp only [hod, hb1, dret] at hres
      refine W_exit ?_
      simp only [go_sem, ldS_at hd, stX_at hd, ldS_sv hlt, stX_sv hlt, sv_ext hlt, sv_ext_sv hlt, hq4, hb1, hnf, hb2, hod, hb1]
      refine kq17 _ _ ?_
      refine W_seq fun kz22 kq22 => ?_
      refine W_region [6, 7, 12] fun R hR => ?_   -- r18
      simp only [go_sem, ldS_at hd, stX_at hd, ldS_sv hlt, stX_sv hlt, sv_ext hlt, sv_ext_sv hlt, hq4, hb1, hnf, hb2, hod, hb1]
      refine GCall_of (Order_pc Y _ d b (by first | exact hd | exact sv_get hlt | exact get_svx hlt | exact get_extx hd) op.length (by omega)) ?_   -- t98
      simp only [go_sem, ldS_at hd, stX_at hd, ldS_sv hlt, stX_sv hlt, sv_ext hlt, sv_ext_sv hlt, hq4, hb1, hnf, hb2, hod, hb1]
      refine hR _ _ (kq22 _ _ ?_); clear hR R; try clear kq22 kz22
      try simp only [go_sem, ldS_at hd, stX_at hd, ldS_sv hlt, stX_sv hlt, sv_ext hlt, sv_ext_sv hlt, hq4, hb1, hnf, hb2, hod, hb1]
      refine W_seq fun kz23 kq23 => ?_
      refine W_region [6, 7, 12, 13] fun R hR => ?_   -- r19
      simp only [go_sem, ldS_at hd, stX_at hd, ldS_sv hlt, stX_sv hlt, sv_ext hlt, sv_ext_sv hlt, hq4, hb1, hnf, hb2, hod, hb1]
      refine hR _ _ (kq23 _ _ ?_); clear hR R; try clear kq23 kz23
      try simp only [go_sem, ldS_at hd, stX_at hd, ldS_sv hlt, stX_sv hlt, sv_ext hlt, sv_ext_sv hlt, hq4, hb1, hnf, hb2, hod, hb1]
      refine W_seq fun kz24 kq24 => ?_
      refine W_seq fun kz25 kq25 => ?_
      refine W_region [6, 7, 12, 13, 14] fun R hR => ?_   -- r20
      simp only [go_sem, ldS_at hd, stX_at hd, ldS_sv hlt, stX_sv hlt, sv_ext hlt, sv_ext_sv hlt, hq4, hb1, hnf, hb2, hod, hb1]
      refine hR _ _ (kq25 _ _ ?_); clear hR R; try clear kq25 kz25
      try simp only [go_sem, ldS_at hd, stX_at hd, ldS_sv hlt, stX_sv hlt, sv_ext hlt, sv_ext_sv hlt, hq4, hb1, hnf, hb2, hod, hb1]
      refine W_block ?_
      have hol : od.length = op.length := by rw [dod.length_eq]; simp
      refine W_weak (Weak.room (t := 13) (es := 4) rfl (by simp)) ?_
      refine W_weak (Weak.keep [6, 7, 12, 13, 14]) ?_
      simp only [go_sem, ldS_at hd, stX_at hd, ldS_sv hlt, stX_sv hlt, sv_ext hlt, sv_ext_sv hlt, hq4, hb1, hnf, hb2, hod, hb1]
      refine W_loopT (α := Nat) (fun (i : Nat) => [(13, .isl ((pickE op (od.take i)).map evPV) (.tok (σ.rooms.length + 3) i 4)), (14, I i)]) (fun (i : Nat) => (σ.setVar d [.int .u64 b1]).ext [some (scCells s), some [.isl [] .exact, .isl [] .exact, .isl [] .exact], some [.isl (op.map evPV) (.tok σ.rooms.length op.length 4), .isl (ab.map stPV) (.tok (σ.rooms.length + 1) ab.length 2), .isl (fi.map stPV) (.tok (σ.rooms.length + 2) fi.length 2)]] [op.length, ab.length, fi.length, i]) (fun (i : Nat) => i ≤ od.length) (fun (i : Nat) => od.length - i) (0) rfl (by first | rfl | (simp only [go_sem]; done) | (simp only [go_sem]; rfl)) (Nat.zero_le _) ?_
      rintro i hi
      refine W_seq fun kz26 kq26 => ?_
      refine W_seq fun kz27 kq27 => ?_
      refine W_region [6, 7, 12, 13, 14, 102] fun R hR => ?_   -- r21
      simp only [go_sem, ldS_at hd, stX_at hd, ldS_sv hlt, stX_sv hlt, sv_ext hlt, sv_ext_sv hlt, hq4, hb1, hnf, hb2, hod, hb1]
      refine hR _ _ (kq27 _ _ ?_); clear hR R; try clear kq27 kz27
      try simp only [go_sem, ldS_at hd, stX_at hd, ldS_sv hlt, stX_sv hlt, sv_ext hlt, sv_ext_sv hlt, hq4, hb1, hnf, hb2, hod, hb1]
      refine W_cond rfl (fun c6 => ?_) (fun c6 => ?_)
      · -- c6 true
        try simp only [nrm] at c6
        have hi' : i < od.length := by first | omega | (simp at c6; omega)
        obtain ⟨x, hx⟩ : ∃ x, od[i]? = some x := ⟨od[i], by simp [hi']⟩
        obtain ⟨y, rfl, hy⟩ : ∃ y : Nat, x = y ∧ y < op.length := by
          obtain ⟨y, h1, h2⟩ := List.mem_map.1 (dod.mem_iff.1 (List.mem_of_getElem? hx))
          exact ⟨y, h2.symm, List.mem_range.1 h1⟩
        obtain ⟨e, he⟩ : ∃ e, op[y]? = some e := ⟨op[y], by simp [hy]⟩
        have hpl : (pickE op (od.take i)).length = i := by simp [pickE]; omega
        have hpk : pickE op (od.take (i + 1)) = pickE op (od.take i) ++ [e] := by rw [List.take_add_one, hx]; simp [pickE, he]
        refine W_skip (kq26 _ _ ?_)
        refine W_seq fun kz28 kq28 => ?_
        refine W_block ?_
        refine W_draw [6, 7, 12, 13, 14] [0, 1, 2, 3, 4, 5, 6, 7, 8, 9, 10, 11] [] [[], [], [1], [], [], [3, 4], [3, 4, 5], [1, 2, 3, 4, 5, 6], [1, 2, 3, 4, 5, 6, 7], [1, 2, 3, 4, 5, 6, 7, 8], [0, 1, 2, 3, 4, 5, 6, 7, 8, 9], [0, 1, 2, 3, 4, 5, 6, 7, 8, 9, 10]] mixed (by kernel_rfl) fun R hR => ?_   -- r23
        simp only [go_sem, ldS_at hd, stX_at hd, ldS_sv hlt, stX_sv hlt, sv_ext hlt, sv_ext_sv hlt, hq4, hb1, hnf, hb2, hod, hb1, hx, he]
        try simp (disch := first | omega | (simp only [go_sem] <;> omega)) only [wrapI, wrapU, appX_exact, appX_tok]
        try simp only [go_sem, ldS_at hd, stX_at hd, ldS_sv hlt, stX_sv hlt, sv_ext hlt, sv_ext_sv hlt, hq4, hb1, hnf, hb2, hod, hb1, hx, he]
        try refine And.intro (by repeat' (first | refine And.intro ?_ ?_ | exact GOr_right (fun _ => by simp only [go_sem, ldS_at hd, stX_at hd, ldS_sv hlt, stX_sv hlt, sv_ext hlt, sv_ext_sv hlt, hq4, hb1, hnf, hb2, hod, hb1, hx, he]))) ?_
        refine hR _ _ (kq28 _ _ ?_); clear hR R; try clear kq28 kz28
        try simp only [go_sem, ldS_at hd, stX_at hd, ldS_sv hlt, stX_sv hlt, sv_ext hlt, sv_ext_sv hlt, hq4, hb1, hnf, hb2, hod, hb1, hx, he]
        refine W_region [6, 7, 12, 13, 14] fun R hR => ?_   -- r22
        simp only [go_sem, ldS_at hd, stX_at hd, ldS_sv hlt, stX_sv hlt, sv_ext hlt, sv_ext_sv hlt, hq4, hb1, hnf, hb2, hod, hb1, hx, he]
        try simp (disch := omega) only [wrapI, wrapU]
        refine hR _ _ ?_; clear hR R
        try simp only [go_sem, ldS_at hd, stX_at hd, ldS_sv hlt, stX_sv hlt, sv_ext hlt, sv_ext_sv hlt, hq4, hb1, hnf, hb2, hod, hb1, hx, he]
        refine ⟨i + 1, ?_, by (try simp only []); omega, ?_⟩
        · refine Weak.eq (by first | rfl | (simp only [go_sem, hpk, hpl, List.map_append]; done) | (simp [go_sem, hpk, hpl]; done)) ?_
          simp only [go_sem, hpl]
        · try dsimp only
          omega
      · -- c6 false
        try simp only [nrm] at c6
        have hie : od.length = i := by first | omega | (simp at c6; omega)
        subst hie
        simp only [List.take_length, hol]
        refine W_exit ?_
        simp only [go_sem, ldS_at hd, stX_at hd, ldS_sv hlt, stX_sv hlt, sv_ext hlt, sv_ext_sv hlt, hq4, hb1, hnf, hb2, hod, hb1]
        refine kq24 _ _ ?_
        refine W_seq fun kz29 kq29 => ?_
        refine W_region [6, 7] fun R hR => ?_   -- r24
        simp only [go_sem, ldS_at hd, stX_at hd, ldS_sv hlt, stX_sv hlt, sv_ext hlt, sv_ext_sv hlt, hq4, hb1, hnf, hb2, hod, hb1]
        refine hR _ _ (kq29 _ _ ?_); clear hR R; try clear kq29 kz29
        try simp only [go_sem, ldS_at hd, stX_at hd, ldS_sv hlt, stX_sv hlt, sv_ext hlt, sv_ext_sv hlt, hq4, hb1, hnf, hb2, hod, hb1]
        refine W_seq fun kz30 kq30 => ?_
        refine W_region [6] fun R hR => ?_   -- r25
        simp only [go_sem, ldS_at hd, stX_at hd, ldS_sv hlt, stX_sv hlt, sv_ext hlt, sv_ext_sv hlt, hq4, hb1, hnf, hb2, hod, hb1]
        refine hR _ _ (kq30 _ _ ?_); clear hR R; try clear kq30 kz30
        try simp only [go_sem, ldS_at hd, stX_at hd, ldS_sv hlt, stX_sv hlt, sv_ext hlt, sv_ext_sv hlt, hq4, hb1, hnf, hb2, hod, hb1]
        refine W_ret ?_
        simp only [go_sem, ldS_at hd, stX_at hd, ldS_sv hlt, stX_sv hlt, sv_ext hlt, sv_ext_sv hlt, hq4, hb1, hnf, hb2, hod, hb1]
        refine ⟨.inr (by trivial), ?_⟩
        rw [← hres]; refine Fin_set hcl (by simp only [go_sem]) (by show resPV Tryz.prog _ _ [.cell 6 29] = some _; simp only [resPV, go_sem]; rfl) (Wk.ro (by simp only [go_sem]) ?_)
        try simp only [go_sem]
        all_goals
          rw [← hol, List.take_length]
end Go.Proofs.YtgelnjmddabgpaaGreat
