/-
  The law MarksWins: whatever comes in, it answers true and leaves what came in as it was.
  The law MarksWins, walked: at most one surely wins.
  Walks: the chapter's examples checked.
  Walks: lists compared; the chapter's examples.
  Walks: the table of a night that is decided (marks).
  Walks: places, who wins, the table (marks).
  Walks: standings sorted, as the library does it with few of them (marks).
  Walks: totals, places, who wins, who is missing (marks).
-/
import Derived.Test.YtgelnjmddabgpaaPe
import Derived.CallsIn
import Derived.RangeFuncLeaves
import Derived.RangeFuncRecord
import Derived.OrdersIn
import Derived.Below
import Derived.Laws.World
import Derived.Laws.StructEq
import Derived.Laws.Append
import Derived.MapKept
import Derived.ProofKit
import Derived.Carry
import Derived.Handed
import Derived.ChangeCalls
import Derived.RangeFuncIn
import Derived.RangeFuncNested
import Derived.Test.YtgelnjmddabgpaaProg
import Derived.KernelRfl
import Derived.IntWalk
import Derived.Test.YtgelnjmddabgpaaRows
import Derived.Sort.OwnSortedInts
import Derived.Lib.SlicesCompact
import Derived.Shelf.Sort.Plain
import Derived.Shelf.Slices.In.SortNone
import Derived.Shelf.Small.Bits
import Derived.JoinedOf
set_option linter.unusedSimpArgs false
set_option linter.unusedVariables false
namespace Go.Proofs.Ytgelnjmddabgpaa
open Go Go.RowKit
set_option maxRecDepth 100000
theorem aput_ok {s : Scale} {k : Kn} (hk : KnOk s k) {j : Int × Int} {l : List Int} (hl : l = [] ∨ ((l.length : Int) = s.schools ∧ ∀ x, x ∈ l → s.low ≤ x ∧ x ≤ s.high)) : KnOk s (aput j l k) := fun e he => by
  rcases aput_mem he with rfl | he
  · exact hl
  · exact hk e he
theorem openK_ok {s : Scale} : ∀ {l : List Envl} {k : Kn}, KnOk s k → KnOk s (openK s l k).2 := by
  intro l
  induction l with
  | nil => intro k h; exact h
  | cons x l ih =>
    intro k h
    simp only [openK]
    split
    · exact h
    · rename_i h1
      split
      · exact h
      · obtain ⟨_, q2, q3⟩ := marked_ok (s := s) (j := (x.matter, x.judge)) (l := x.marks) (by omega)
        have hn := ih (aput_ok (j := (x.matter, x.judge)) h (.inr ⟨q2, q3⟩))
        repeat' split
        all_goals first | exact h | exact hn
theorem missK_ok {s : Scale} : ∀ {l : List (Int × Int)} {k : Kn}, KnOk s k → KnOk s (missK s l k).2 := by
  intro l
  induction l with
  | nil => intro k h; exact h
  | cons x l ih =>
    intro k h
    simp only [missK]
    split
    · exact h
    · split
      · exact h
      · exact ih (aput_ok h (.inl rfl))
theorem finesR_ok {s : Scale} : ∀ {l : List (Int × Int)}, finesR s l = 0 → ∀ f, f ∈ l → (0 ≤ f.1 ∧ f.1 ≤ s.schools - 1) ∧ 0 ≤ f.2 ∧ f.2 ≤ 1000 := by
  intro l
  induction l with
  | nil => intro _ f hf; cases hf
  | cons x l ih =>
    intro h f hf
    simp only [finesR] at h
    split at h
    · cases h
    · rename_i h1
      split at h
      · cases h
      · rename_i h2
        rcases List.mem_cons.1 hf with rfl | hf
        · simp only [Bool.not_eq_true, Bool.not_eq_false', inR_true] at h1 h2
          exact ⟨h1, h2⟩
        · exact ih h f hf
theorem known_V {s : Scale} {g : Night} (h : knownE s g = 0) : KnV s (knownK s g) g := by
  obtain ⟨hv, h1, h2, h3, h4, h5, h6⟩ := known_ok h
  unfold finesE at h6
  split at h6
  · cases h6
  · rename_i hf
    exact ⟨hv, missK_ok (openK_ok fun e he => by cases he), h5, by omega, finesR_ok h6⟩
theorem chkOrd_ok {m : Int} : ∀ {l p : List Int}, chkOrd m p l = 0 → (∀ x, x ∈ l → 0 ≤ x ∧ x ≤ m - 1) ∧ l.Nodup ∧ ∀ x, x ∈ l → x ∉ p := by
  intro l
  induction l with
  | nil => intro p _; exact ⟨fun x hx => (by cases hx), List.nodup_nil, fun x hx => (by cases hx)⟩
  | cons n l ih =>
    intro p h
    simp only [chkOrd] at h
    split at h
    · cases h
    · rename_i h1
      split at h
      · cases h
      · rename_i h2
        obtain ⟨a1, a2, a3⟩ := ih h
        simp only [Bool.not_eq_true, Bool.not_eq_false', inR_true] at h1
        refine ⟨fun x hx => ?_, List.nodup_cons.2 ⟨fun hm => a3 n hm (by simp), a2⟩, fun x hx hp => ?_⟩
        · rcases List.mem_cons.1 hx with rfl | hx
          · exact h1
          · exact a1 x hx
        · rcases List.mem_cons.1 hx with rfl | hx
          · exact h2 (has_iff.2 hp)
          · exact a3 x hx (List.mem_append.2 (.inl hp))
theorem ptsL_get {s : Scale} {M i : Nat} (hM : s.matters = M) (hi : i < M) (k : Kn) (sc u : Int) : (pointsL s k sc u)[i]? = some (pointsK s k sc i u) := by
  simp [pointsL, toI, hM, hi]
theorem fines_bd {s : Scale} {k : Kn} {g : Night} (hV : KnV s k g) (sc : Int) : 0 ≤ finesOf g.fines sc ∧ finesOf g.fines sc ≤ 10000 := by
  have := sumI_bd (b := 1000) (l := g.fines.map fun f => if f.1 = sc then f.2 else 0) fun x hx => by
    obtain ⟨f, hf, rfl⟩ := List.mem_map.1 hx
    have := hV.fi f hf
    split <;> omega
  have hl := hV.fl
  unfold finesOf
  simp only [List.length_map] at this
  omega
theorem stand_bd {s : Scale} {k : Kn} {g : Night} (hV : KnV s k g) {u : Int} (hu : 0 ≤ u ∧ u ≤ 100) (sc : Int) : -10000 ≤ (standK s k g sc u).total ∧ (standK s k g sc u).total ≤ 3000 := by
  have h1 := sumI_bd (b := 500) (l := pointsL s k sc u) fun x hx => by
    obtain ⟨m, _, rfl⟩ := List.mem_map.1 hx
    exact points_bd hV.v hV.ok hu sc m
  have h2 := fines_bd hV sc
  have q := hV.v.mt
  have hl : (pointsL s k sc u).length = s.matters.toNat := by simp [pointsL, toI]
  simp only [standK]
  rw [hl] at h1
  omega
theorem cmp_ok {s : Scale} {k : Kn} {g : Night} (hV : KnV s k g) {u v : Int} (hu : 0 ≤ u ∧ u ≤ 100) (hv : 0 ≤ v ∧ v ≤ 100) {a b : Int} (ha : 0 ≤ a ∧ a < s.schools) (hb : 0 ≤ b ∧ b < s.schools) : CmpOk s.order (standK s k g a u) (standK s k g b v) := by
  have q1 := hV.v.mt
  have q3 := hV.v.sc
  have h1 := stand_bd hV hu a
  have h2 := stand_bd hV hv b
  obtain ⟨M, hM⟩ : ∃ z : Nat, s.matters = z := ⟨s.matters.toNat, by omega⟩
  refine ⟨by omega, by omega, by simp only [standK]; omega, by simp only [standK]; omega, fun m hm => ?_⟩
  have := (chkOrd_ok hV.v.od).1 m hm
  obtain ⟨i, rfl⟩ : ∃ i : Nat, m = i := ⟨m.toNat, by omega⟩
  have p1 := points_bd hV.v hV.ok hu a i
  have p2 := points_bd hV.v hV.ok hv b i
  exact ⟨i, _, _, rfl, ptsL_get hM (by omega) k a u, ptsL_get hM (by omega) k b v, by omega, by omega⟩
def spUp (s : Scale) (k : Kn) (g : Night) (i : Nat) : List (Int × Int) := (List.range i).map fun (j : Nat) => ((standK s k g j s.low).total, (standK s k g j s.high).total)
theorem spUp_succ (s : Scale) (k : Kn) (g : Night) (i : Nat) : spUp s k g (i + 1) = spUp s k g i ++ [((standK s k g i s.low).total, (standK s k g i s.high).total)] := by simp [spUp, List.range_succ]
def plUp (s : Scale) (k : Kn) (g : Night) (sc own oth : Int) (i : Nat) : Nat := (((List.range i).map fun (j : Nat) => (j : Int)).filter fun j => decide (j ≠ sc) && decide (cmpSt s.order (standK s k g j oth) (standK s k g sc own) < 0)).length
theorem plUp_succ (s : Scale) (k : Kn) (g : Night) (sc own oth : Int) (i : Nat) : plUp s k g sc own oth (i + 1) = plUp s k g sc own oth i + (if (decide ((i : Int) ≠ sc) && decide (cmpSt s.order (standK s k g i oth) (standK s k g sc own) < 0)) = true then 1 else 0) := by
  unfold plUp
  rw [List.range_succ, List.map_append, List.filter_append, List.length_append]
  congr 1
  simp only [List.map_cons, List.map_nil, List.filter_cons, List.filter_nil]
  split <;> rfl
theorem plUp_le (s : Scale) (k : Kn) (g : Night) (sc own oth : Int) (i : Nat) : plUp s k g sc own oth i ≤ i := by
  unfold plUp
  refine Nat.le_trans (List.length_filter_le _ _) (by simp)
theorem plUp_all {s : Scale} {N : Nat} (hN : s.schools = N) (k : Kn) (g : Night) (sc own oth : Int) : placeK s k g sc own oth = 1 + (plUp s k g sc own oth N : Int) := by
  simp only [placeK, plUp, toI, hN, Int.toNat_natCast]
set_option maxHeartbeats 2000000 in
theorem totE_pc (Y : YEnv) (σ : Sg) (s : Scale) (g : Night) (hs : s.Ok) (hg : g.Ok) (hE : knownE s g ≠ 0) :
    PC Try.prog Y 15 [scPV s, ngPV g] σ (.tuple [sts [], I (knownE s g)]) (σ) := by
  refine PC_of_W Try.func15 rfl (by kernel_rfl) Try.ntmps15 (by simp) fun hcl hca => ?_
  refine W_seq fun kz1 kq1 => ?_
  refine W_region [2, 3] fun R hR => ?_   -- r0
  simp only [go_sem]
  refine hR _ _ (kq1 _ _ ?_); clear hR R; try clear kq1 kz1
  try simp only [go_sem]
  refine W_seq fun kz2 kq2 => ?_
  refine W_region [2, 3, 6, 7] fun R hR => ?_   -- r1
  simp only [go_sem]
  refine GCall_of (knownOf_err Y _ s g hs hg hE) ?_   -- t13
  simp only [go_sem]
  refine hR _ _ (kq2 _ _ ?_); clear hR R; try clear kq2 kz2
  try simp only [go_sem]
  refine W_seq fun kz3 kq3 => ?_
  refine W_seq fun kz4 kq4 => ?_
  refine W_region [2, 3, 6, 7, 17] fun R hR => ?_   -- r2
  simp only [go_sem]
  refine hR _ _ (kq4 _ _ ?_); clear hR R; try clear kq4 kz4
  try simp only [go_sem]
  refine W_cond rfl (fun c1 => ?_) (fun c1 => ?_)
  · -- c1 true
    try simp only [nrm] at c1
    refine W_seq fun kz5 kq5 => ?_
    refine W_region [4, 5] fun R hR => ?_   -- r3
    simp only [go_sem]
    refine hR _ _ (kq5 _ _ ?_); clear hR R; try clear kq5 kz5
    try simp only [go_sem]
    refine W_ret ?_
    simp only [go_sem]
    refine ⟨.inr (by trivial), ?_⟩
    refine Fin_same hcl rfl (Wk.ro (by simp only [go_sem]) ?_)
    try simp only [go_sem]
    all_goals
      first | rfl | (simp [PV.ro, PV.roL]; done)
  · -- c1 false
    try simp only [nrm] at c1
    exfalso
    first | exact hE (by omega) | (simp at c1; exact hE (by omega))
set_option maxHeartbeats 2000000 in
theorem totO_pc (Y : YEnv) (σ : Sg) (s : Scale) (g : Night) (hs : s.Ok) (hg : g.Ok) (hE : knownE s g = 0) :
    PC Try.prog Y 15 [scPV s, ngPV g] σ (.tuple [sts ((toI s.schools).map fun i => ((standK s (knownK s g) g i s.low).total, (standK s (knownK s g) g i s.high).total)), I 0]) (σ) := by
  refine PC_of_W Try.func15 rfl (by kernel_rfl) Try.ntmps15 (by simp) fun hcl hca => ?_
  have hV := known_V hE
  obtain ⟨K, hK⟩ : ∃ z, knownK s g = z := ⟨_, rfl⟩
  rw [hK] at hV
  have hv := hV.v
  have q3 := hv.sc
  have q4 := hv.lo
  have q5 := hv.hi
  obtain ⟨N, hN⟩ : ∃ z : Nat, s.schools = z := ⟨s.schools.toNat, by omega⟩
  have hNi : (s.schools : Int) = (N : Int) := hN
  have hkn := fun Y σ => knownOf_ok Y σ s g hs hg hE
  rw [hK] at hkn
  rw [hK]
  have hall : ((toI s.schools).map fun i => ((standK s K g i s.low).total, (standK s K g i s.high).total)) = spUp s K g N := by simp only [toI, hN, Int.toNat_natCast, spUp, List.map_map]; rfl
  rw [hall]
  refine W_seq fun kz1 kq1 => ?_
  refine W_region [2, 3] fun R hR => ?_   -- r0
  simp only [go_sem]
  refine hR _ _ (kq1 _ _ ?_); clear hR R; try clear kq1 kz1
  try simp only [go_sem]
  refine W_seq fun kz2 kq2 => ?_
  refine W_region [2, 3, 6, 7] fun R hR => ?_   -- r1
  simp only [go_sem]
  refine GCall_of (hkn Y _) ?_   -- t13
  simp only [go_sem]
  refine hR _ _ (kq2 _ _ ?_); clear hR R; try clear kq2 kz2
  try simp only [go_sem]
  refine W_seq fun kz3 kq3 => ?_
  refine W_seq fun kz4 kq4 => ?_
  refine W_region [2, 3, 6, 7, 17] fun R hR => ?_   -- r2
  simp only [go_sem]
  refine hR _ _ (kq4 _ _ ?_); clear hR R; try clear kq4 kz4
  try simp only [go_sem]
  refine W_cond_false rfl ?_
  refine W_skip (kq3 _ _ ?_)
  refine W_seq fun kz5 kq5 => ?_
  refine W_region [2, 3, 6, 8] fun R hR => ?_   -- r4
  simp only [go_sem]
  refine hR _ _ (kq5 _ _ ?_); clear hR R; try clear kq5 kz5
  try simp only [go_sem]
  refine W_seq fun kz6 kq6 => ?_
  refine W_seq fun kz7 kq7 => ?_
  refine W_region [2, 3, 6, 8, 20, 21] fun R hR => ?_   -- r5
  simp only [go_sem]
  refine hR _ _ (kq7 _ _ ?_); clear hR R; try clear kq7 kz7
  try simp only [go_sem]
  refine W_block ?_
  refine W_weak (Weak.room (t := 8) (es := 2) rfl (by simp)) ?_
  refine W_weak (Weak.keep [2, 3, 6, 8, 20, 21]) ?_
  simp only [go_sem]
  refine W_loopT (α := Nat) (fun (i : Nat) => [(8, .isl ((spUp s K g i).map stPV) (.tok σ.rooms.length i 2)), (21, I i)]) (fun (i : Nat) => σ.ext [some (scCells s), some (ngCells g), some (scCells s), some (ngCells g), some (.mark :: knE K)] [i]) (fun (i : Nat) => i ≤ N) (fun (i : Nat) => N - i) (0) rfl (by first | rfl | (simp only [go_sem]; done) | (simp only [go_sem]; rfl)) (Nat.zero_le _) ?_
  rintro i hi
  have hsl : (spUp s K g i).length = i := by simp [spUp]
  refine W_seq fun kz8 kq8 => ?_
  refine W_region [2, 3, 6, 8, 20, 21, 22] fun R hR => ?_   -- r6
  simp only [go_sem]
  refine hR _ _ (kq8 _ _ ?_); clear hR R; try clear kq8 kz8
  try simp only [go_sem]
  refine W_seq fun kz9 kq9 => ?_
  refine W_cond rfl (fun c1 => ?_) (fun c1 => ?_)
  · -- c1 true
    try simp only [nrm] at c1
    have hiN : i < N := by first | omega | (simp at c1; omega)
    have hsu := spUp_succ s K g i
    refine W_skip (kq9 _ _ ?_)
    refine W_seq fun kz10 kq10 => ?_
    refine W_block ?_
    refine W_seq fun kz11 kq11 => ?_
    refine W_region [2, 3, 6, 8, 9, 20, 21] fun R hR => ?_   -- r7
    simp only [go_sem]
    refine hR _ _ (kq11 _ _ ?_); clear hR R; try clear kq11 kz11
    try simp only [go_sem]
    refine W_draw [2, 3, 6, 8, 20, 21] [0, 1, 2, 3, 4, 5, 6, 7, 8, 9, 10, 11, 12, 13, 14, 15, 16, 17, 18, 19, 20] [(0, 15), (0, 19), (8, 19), (9, 7), (10, 7), (11, 7), (12, 7), (13, 7), (14, 7)] [[], [], [], [], [], [], [5], [1, 2, 3, 4, 5, 6], [1, 2, 3, 4, 5, 6, 7], [], [], [], [], [], [13], [1, 2, 3, 4, 5, 6, 7, 9, 10, 11, 12, 13, 14], [1, 2, 3, 4, 5, 6, 7, 9, 10, 11, 12, 13, 14, 15], [1, 2, 3, 4, 5, 6, 7, 8, 9, 10, 11, 12, 13, 14, 15, 16], [1, 2, 3, 4, 5, 6, 7, 8, 9, 10, 11, 12, 13, 14, 15, 16, 17], [0, 1, 2, 3, 4, 5, 6, 7, 8, 9, 10, 11, 12, 13, 14, 15, 16, 17, 18], [0, 1, 2, 3, 4, 5, 6, 7, 8, 9, 10, 11, 12, 13, 14, 15, 16, 17, 18, 19]] mixed (by kernel_rfl) fun R hR => ?_   -- r8
    simp only [go_sem]
    refine GCall_of (standing_pc Y _ (σ.store.length + 4) K (Sg.get_ext ..) s g hV i (by omega) s.low (by omega)) ?_   -- t31
    simp only [go_sem]
    refine GCall_of (standing_pc Y _ (σ.store.length + 4) K (Sg.get_ext ..) s g hV i (by omega) s.high (by omega)) ?_   -- t39
    simp only [go_sem]
    try simp (disch := first | omega | (simp only [go_sem] <;> omega)) only [wrapI, wrapU, appX_exact, appX_tok]
    try simp only [go_sem]
    try refine And.intro (by repeat' (first | refine And.intro ?_ ?_ | exact GOr_right (fun _ => by simp only [go_sem]))) ?_
    refine hR _ _ (kq10 _ _ ?_); clear hR R; try clear kq10 kz10
    try simp only [go_sem]
    refine W_region [2, 3, 6, 8, 20, 21] fun R hR => ?_   -- r9
    simp only [go_sem]
    try simp (disch := omega) only [wrapI, wrapU]
    refine hR _ _ ?_; clear hR R
    try simp only [go_sem]
    refine ⟨i + 1, ?_, by (try simp only []); omega, ?_⟩
    · refine Weak.eq ?_ (by simp only [go_sem])
      simp only [go_sem, hsu, List.map_append]
      rfl
    · try dsimp only
      omega
  · -- c1 false
    try simp only [nrm] at c1
    have hie : N = i := by first | omega | (simp at c1; omega)
    subst hie
    refine W_exit ?_
    simp only [go_sem]
    refine kq6 _ _ ?_
    refine W_seq fun kz12 kq12 => ?_
    refine W_region [4, 5] fun R hR => ?_   -- r10
    simp only [go_sem]
    refine hR _ _ (kq12 _ _ ?_); clear hR R; try clear kq12 kz12
    try simp only [go_sem]
    refine W_ret ?_
    simp only [go_sem]
    refine ⟨.inr (by trivial), ?_⟩
    refine Fin_same hcl rfl (Wk.ro (by simp only [go_sem]) ?_)
    try simp only [go_sem]
    all_goals
      simp only [go_sem]
theorem Totals_pc (Y : YEnv) (σ : Sg) (s : Scale) (g : Night) (hs : s.Ok) (hg : g.Ok) : PC Try.prog Y 15 [scPV s, ngPV g] σ (.tuple [sts (totalsA s g).1, I (totalsA s g).2]) σ := by
  unfold totalsA
  by_cases h : knownE s g = 0
  · rw [if_neg (by simpa using h)]; exact totO_pc Y σ s g hs hg h
  · rw [if_pos h]; exact totE_pc Y σ s g hs hg h
set_option maxHeartbeats 4000000 in
theorem place1_pc (Y : YEnv) (σ : Sg) (ik id ib ic ie : Nat) (s : Scale) (k : Kn) (g : Night) (hV : KnV s k g) (sc : Nat) (hsc : (sc : Int) < s.schools) (own oth : Int) (ho : 0 ≤ own ∧ own ≤ 100) (ht : 0 ≤ oth ∧ oth ≤ 100) (h0 : σ.store[ik]? = some (some [.map id])) (hd : σ.store[id]? = some (some (.mark :: knE k))) (hb : σ.store[ib]? = some (some (scCells s))) (hc : σ.store[ic]? = some (some (ngCells g))) (he : σ.store[ie]? = some (some [I sc])) :
    PC Try.prog Y 41 [I own, I oth, .ptr ik 0, .ptr ib 0, .ptr ic 0, .ptr ie 0] σ (I (placeK s k g sc own oth)) (σ) := by
  refine PC_of_W Try.func41 rfl (by kernel_rfl) Try.ntmps41 (by simp) fun hcl hca => ?_
  have q3 := hV.v.sc
  have hol := hV.v.ol
  have q1 := hV.v.mt
  obtain ⟨N, hN⟩ : ∃ z : Nat, s.schools = z := ⟨s.schools.toNat, by omega⟩
  have hNi : (s.schools : Int) = (N : Int) := hN
  have hpl := plUp_all hN k g sc own oth
  refine W_seq fun kz1 kq1 => ?_
  refine W_region [0, 1, 2, 3, 4, 5] fun R hR => ?_   -- r0
  simp only [go_sem, ldS_at h0, ldA_at hb, ldA_at hc, ldS_at he, ldS_at hb, ldS_at (get_extx h0), ldA_at (get_extx hb), ldA_at (get_extx hc), ldS_at (get_extx he), ldS_at (get_extx hb)]
  refine hR _ _ (kq1 _ _ ?_); clear hR R; try clear kq1 kz1
  try simp only [go_sem, ldS_at h0, ldA_at hb, ldA_at hc, ldS_at he, ldS_at hb, ldS_at (get_extx h0), ldA_at (get_extx hb), ldA_at (get_extx hc), ldS_at (get_extx he), ldS_at (get_extx hb)]
  refine W_seq fun kz2 kq2 => ?_
  refine W_region [1, 2, 3, 4, 5, 9, 10] fun R hR => ?_   -- r1
  simp only [go_sem, ldS_at h0, ldA_at hb, ldA_at hc, ldS_at he, ldS_at hb, ldS_at (get_extx h0), ldA_at (get_extx hb), ldA_at (get_extx hc), ldS_at (get_extx he), ldS_at (get_extx hb)]
  refine GCall_of (standing_pc Y _ id k hd s g hV sc hsc own ho) ?_   -- t17
  simp only [go_sem, ldS_at h0, ldA_at hb, ldA_at hc, ldS_at he, ldS_at hb, ldS_at (get_extx h0), ldA_at (get_extx hb), ldA_at (get_extx hc), ldS_at (get_extx he), ldS_at (get_extx hb)]
  refine hR _ _ (kq2 _ _ ?_); clear hR R; try clear kq2 kz2
  try simp only [go_sem, ldS_at h0, ldA_at hb, ldA_at hc, ldS_at he, ldS_at hb, ldS_at (get_extx h0), ldA_at (get_extx hb), ldA_at (get_extx hc), ldS_at (get_extx he), ldS_at (get_extx hb)]
  refine W_seq fun kz3 kq3 => ?_
  refine W_seq fun kz4 kq4 => ?_
  refine W_region [1, 2, 3, 4, 5, 9, 10, 19, 20] fun R hR => ?_   -- r2
  simp only [go_sem, ldS_at h0, ldA_at hb, ldA_at hc, ldS_at he, ldS_at hb, ldS_at (get_extx h0), ldA_at (get_extx hb), ldA_at (get_extx hc), ldS_at (get_extx he), ldS_at (get_extx hb)]
  refine hR _ _ (kq4 _ _ ?_); clear hR R; try clear kq4 kz4
  try simp only [go_sem, ldS_at h0, ldA_at hb, ldA_at hc, ldS_at he, ldS_at hb, ldS_at (get_extx h0), ldA_at (get_extx hb), ldA_at (get_extx hc), ldS_at (get_extx he), ldS_at (get_extx hb)]
  refine W_block ?_
  refine W_loopS (α := Nat) (fun (i : Nat) => [(10, I (1 + (plUp s k g sc own oth i : Int))), (20, I i)]) (fun (i : Nat) => i ≤ N) (fun (i : Nat) => N - i) (0) rfl (Nat.zero_le _) ?_
  rintro i hi
  have hple := plUp_le s k g sc own oth i
  refine W_seq fun kz5 kq5 => ?_
  refine W_region [1, 2, 3, 4, 5, 9, 10, 19, 20, 21] fun R hR => ?_   -- r3
  simp only [go_sem, ldS_at h0, ldA_at hb, ldA_at hc, ldS_at he, ldS_at hb, ldS_at (get_extx h0), ldA_at (get_extx hb), ldA_at (get_extx hc), ldS_at (get_extx he), ldS_at (get_extx hb)]
  refine hR _ _ (kq5 _ _ ?_); clear hR R; try clear kq5 kz5
  try simp only [go_sem, ldS_at h0, ldA_at hb, ldA_at hc, ldS_at he, ldS_at hb, ldS_at (get_extx h0), ldA_at (get_extx hb), ldA_at (get_extx hc), ldS_at (get_extx he), ldS_at (get_extx hb)]
  refine W_seq fun kz6 kq6 => ?_
  refine W_cond rfl (fun c1 => ?_) (fun c1 => ?_)
  · -- c1 true
    try simp only [nrm] at c1
    have hiN : i < N := by first | omega | (simp at c1; omega)
    have hsu := plUp_succ s k g sc own oth i
    refine W_skip (kq6 _ _ ?_)
    refine W_seq fun kz7 kq7 => ?_
    refine W_block ?_
    refine W_seq fun kz8 kq8 => ?_
    refine W_region [1, 2, 3, 4, 5, 9, 10, 11, 19, 20] fun R hR => ?_   -- r4
    simp only [go_sem, ldS_at h0, ldA_at hb, ldA_at hc, ldS_at he, ldS_at hb, ldS_at (get_extx h0), ldA_at (get_extx hb), ldA_at (get_extx hc), ldS_at (get_extx he), ldS_at (get_extx hb)]
    refine hR _ _ (kq8 _ _ ?_); clear hR R; try clear kq8 kz8
    try simp only [go_sem, ldS_at h0, ldA_at hb, ldA_at hc, ldS_at he, ldS_at hb, ldS_at (get_extx h0), ldA_at (get_extx hb), ldA_at (get_extx hc), ldS_at (get_extx he), ldS_at (get_extx hb)]
    refine W_seq fun kz9 kq9 => ?_
    refine W_draw [1, 2, 3, 4, 5, 9, 10, 19, 20, 39] [0, 1, 2, 3, 4, 5, 6, 7, 8, 9, 10, 11, 12, 13, 14, 15, 16] [(4, 14), (5, 14), (6, 14), (13, 12)] [[], [], [0, 1], [0, 1, 2], [0, 1, 2, 3], [0, 1, 2, 3, 4], [0, 1, 2, 3, 4, 5], [0, 1, 2, 3], [0, 1, 2, 3], [0, 1, 2, 3], [0, 1, 2, 3], [0, 1, 2, 3], [0, 1, 2, 3, 7, 8, 9, 10, 11], [0, 1, 2, 3], [0, 1, 2, 3, 4, 5, 6, 7, 8, 9, 10, 11, 12, 13], [0, 1, 2, 3, 4, 5, 6, 7, 8, 9, 10, 11, 12, 13, 14], [0, 1, 2, 3, 4, 5, 6, 7, 8, 9, 10, 11, 12, 13, 14, 15]] mixed (by kernel_rfl) fun R hR => ?_   -- r5
    simp only [go_sem, ldS_at h0, ldA_at hb, ldA_at hc, ldS_at he, ldS_at hb, ldS_at (get_extx h0), ldA_at (get_extx hb), ldA_at (get_extx hc), ldS_at (get_extx he), ldS_at (get_extx hb)]
    refine GWant_split (fun g1 => ?_) (fun g1 => ?_)
    · try simp only [Bool.not_eq_true', Bool.not_eq_false'] at g1
      have n1 := g1; try simp only [nrm] at n1
      have hci : (i : Int) ≠ (sc : Int) := by intro e; rw [e] at g1; simp at g1
      simp only [go_sem, ldS_at h0, ldA_at hb, ldA_at hc, ldS_at he, ldS_at hb, ldS_at (get_extx h0), ldA_at (get_extx hb), ldA_at (get_extx hc), ldS_at (get_extx he), ldS_at (get_extx hb), g1]
      refine GCall_of (standing_pc Y _ id k (get_extx hd) s g hV i (by omega) oth ht) ?_   -- t35
      simp only [go_sem, ldS_at h0, ldA_at hb, ldA_at hc, ldS_at he, ldS_at hb, ldS_at (get_extx h0), ldA_at (get_extx hb), ldA_at (get_extx hc), ldS_at (get_extx he), ldS_at (get_extx hb), g1]
      refine GCall_of (compare_pc Y _ s.order (standK s k g i oth) (standK s k g sc own) (cmp_ok hV ht ho (by omega) (by omega)) (by omega)) ?_   -- t37
      simp only [go_sem, ldS_at h0, ldA_at hb, ldA_at hc, ldS_at he, ldS_at hb, ldS_at (get_extx h0), ldA_at (get_extx hb), ldA_at (get_extx hc), ldS_at (get_extx he), ldS_at (get_extx hb), g1]
      try refine And.intro (by repeat' (first | refine And.intro ?_ ?_ | exact GOr_right (fun _ => by simp only [go_sem, ldS_at h0, ldA_at hb, ldA_at hc, ldS_at he, ldS_at hb, ldS_at (get_extx h0), ldA_at (get_extx hb), ldA_at (get_extx hc), ldS_at (get_extx he), ldS_at (get_extx hb)]))) ?_
      refine hR _ _ (kq9 _ _ ?_); clear hR R; try clear kq9 kz9
      try simp only [go_sem, ldS_at h0, ldA_at hb, ldA_at hc, ldS_at he, ldS_at hb, ldS_at (get_extx h0), ldA_at (get_extx hb), ldA_at (get_extx hc), ldS_at (get_extx he), ldS_at (get_extx hb)]
      refine W_cond rfl (fun c2 => ?_) (fun c2 => ?_)
      · -- c2 true
        try simp only [nrm] at c2
        rw [if_pos (by rw [decide_eq_true hci, decide_eq_true (show cmpSt s.order (standK s k g i oth) (standK s k g sc own) < 0 by omega)]; rfl)] at hsu
        refine W_region [1, 2, 3, 4, 5, 9, 10, 19, 20] fun R hR => ?_   -- r6
        simp only [go_sem, ldS_at h0, ldA_at hb, ldA_at hc, ldS_at he, ldS_at hb, ldS_at (get_extx h0), ldA_at (get_extx hb), ldA_at (get_extx hc), ldS_at (get_extx he), ldS_at (get_extx hb)]
        try simp (disch := omega) only [wrapI, wrapU]
        refine hR _ _ (kq7 _ _ ?_); clear hR R; try clear kq7 kz7
        try simp only [go_sem, ldS_at h0, ldA_at hb, ldA_at hc, ldS_at he, ldS_at hb, ldS_at (get_extx h0), ldA_at (get_extx hb), ldA_at (get_extx hc), ldS_at (get_extx he), ldS_at (get_extx hb)]
        refine W_region [1, 2, 3, 4, 5, 9, 10, 19, 20] fun R hR => ?_   -- r7
        simp only [go_sem, ldS_at h0, ldA_at hb, ldA_at hc, ldS_at he, ldS_at hb, ldS_at (get_extx h0), ldA_at (get_extx hb), ldA_at (get_extx hc), ldS_at (get_extx he), ldS_at (get_extx hb)]
        try simp (disch := omega) only [wrapI, wrapU]
        refine hR _ _ ?_; clear hR R
        try simp only [go_sem, ldS_at h0, ldA_at hb, ldA_at hc, ldS_at he, ldS_at hb, ldS_at (get_extx h0), ldA_at (get_extx hb), ldA_at (get_extx hc), ldS_at (get_extx he), ldS_at (get_extx hb)]
        refine ⟨i + 1, ?_, by (try simp only []); omega, ?_⟩
        · refine Weak.eq ?_ rfl
          rw [hsu]
          try simp only [go_sem]
          first | done | rfl | (simp; done) | (simp; omega)
        · try dsimp only
          omega
      · -- c2 false
        try simp only [nrm] at c2
        rw [if_neg (by rw [decide_eq_false (show ¬ (cmpSt s.order (standK s k g i oth) (standK s k g sc own) < 0) by omega)]; simp)] at hsu
        refine W_skip (kq7 _ _ ?_)
        refine W_region [1, 2, 3, 4, 5, 9, 10, 19, 20] fun R hR => ?_   -- r7
        simp only [go_sem, ldS_at h0, ldA_at hb, ldA_at hc, ldS_at he, ldS_at hb, ldS_at (get_extx h0), ldA_at (get_extx hb), ldA_at (get_extx hc), ldS_at (get_extx he), ldS_at (get_extx hb)]
        try simp (disch := omega) only [wrapI, wrapU]
        refine hR _ _ ?_; clear hR R
        try simp only [go_sem, ldS_at h0, ldA_at hb, ldA_at hc, ldS_at he, ldS_at hb, ldS_at (get_extx h0), ldA_at (get_extx hb), ldA_at (get_extx hc), ldS_at (get_extx he), ldS_at (get_extx hb)]
        refine ⟨i + 1, ?_, by (try simp only []); omega, ?_⟩
        · refine Weak.eq ?_ rfl
          rw [hsu]
          try simp only [go_sem]
          first | done | rfl | (simp; done) | (simp; omega)
        · try dsimp only
          omega
    · try simp only [Bool.not_eq_true', Bool.not_eq_false'] at g1
      have n1 := g1; try simp only [nrm] at n1
      have hci : ¬ ((i : Int) ≠ (sc : Int)) := by intro e; apply e; simpa using g1
      rw [if_neg (by rw [decide_eq_false hci]; simp)] at hsu
      simp only [go_sem, ldS_at h0, ldA_at hb, ldA_at hc, ldS_at he, ldS_at hb, ldS_at (get_extx h0), ldA_at (get_extx hb), ldA_at (get_extx hc), ldS_at (get_extx he), ldS_at (get_extx hb), g1]
      try refine And.intro (by repeat' (first | refine And.intro ?_ ?_ | exact GOr_right (fun _ => by simp only [go_sem, ldS_at h0, ldA_at hb, ldA_at hc, ldS_at he, ldS_at hb, ldS_at (get_extx h0), ldA_at (get_extx hb), ldA_at (get_extx hc), ldS_at (get_extx he), ldS_at (get_extx hb)]))) ?_
      refine hR _ _ (kq9 _ _ ?_); clear hR R; try clear kq9 kz9
      try simp only [go_sem, ldS_at h0, ldA_at hb, ldA_at hc, ldS_at he, ldS_at hb, ldS_at (get_extx h0), ldA_at (get_extx hb), ldA_at (get_extx hc), ldS_at (get_extx he), ldS_at (get_extx hb)]
      refine W_cond_false rfl ?_
      refine W_skip (kq7 _ _ ?_)
      refine W_region [1, 2, 3, 4, 5, 9, 10, 19, 20] fun R hR => ?_   -- r7
      simp only [go_sem, ldS_at h0, ldA_at hb, ldA_at hc, ldS_at he, ldS_at hb, ldS_at (get_extx h0), ldA_at (get_extx hb), ldA_at (get_extx hc), ldS_at (get_extx he), ldS_at (get_extx hb)]
      try simp (disch := omega) only [wrapI, wrapU]
      refine hR _ _ ?_; clear hR R
      try simp only [go_sem, ldS_at h0, ldA_at hb, ldA_at hc, ldS_at he, ldS_at hb, ldS_at (get_extx h0), ldA_at (get_extx hb), ldA_at (get_extx hc), ldS_at (get_extx he), ldS_at (get_extx hb)]
      refine ⟨i + 1, ?_, by (try simp only []); omega, ?_⟩
      · refine Weak.eq ?_ rfl
        rw [hsu]
        try simp only [go_sem]
        first | done | rfl | (simp; done) | (simp; omega)
      · try dsimp only
        omega
  · -- c1 false
    try simp only [nrm] at c1
    have hie : N = i := by first | omega | (simp at c1; omega)
    subst hie
    refine W_exit ?_
    simp only [go_sem, ldS_at h0, ldA_at hb, ldA_at hc, ldS_at he, ldS_at hb, ldS_at (get_extx h0), ldA_at (get_extx hb), ldA_at (get_extx hc), ldS_at (get_extx he), ldS_at (get_extx hb)]
    refine kq3 _ _ ?_
    refine W_seq fun kz10 kq10 => ?_
    refine W_region [8] fun R hR => ?_   -- r8
    simp only [go_sem, ldS_at h0, ldA_at hb, ldA_at hc, ldS_at he, ldS_at hb, ldS_at (get_extx h0), ldA_at (get_extx hb), ldA_at (get_extx hc), ldS_at (get_extx he), ldS_at (get_extx hb)]
    refine hR _ _ (kq10 _ _ ?_); clear hR R; try clear kq10 kz10
    try simp only [go_sem, ldS_at h0, ldA_at hb, ldA_at hc, ldS_at he, ldS_at hb, ldS_at (get_extx h0), ldA_at (get_extx hb), ldA_at (get_extx hc), ldS_at (get_extx he), ldS_at (get_extx hb)]
    refine W_ret ?_
    simp only [go_sem, ldS_at h0, ldA_at hb, ldA_at hc, ldS_at he, ldS_at hb, ldS_at (get_extx h0), ldA_at (get_extx hb), ldA_at (get_extx hc), ldS_at (get_extx he), ldS_at (get_extx hb)]
    refine ⟨.inr (by trivial), ?_⟩
    first | refine Fin_same hcl rfl (Wk_eq ?_ (by simp only [go_sem])) | refine Fin_self hcl rfl (Wk_eq ?_ (by simp only [go_sem]))
    try simp only [go_sem]
    all_goals
      rw [hpl]
end Go.Proofs.Ytgelnjmddabgpaa
namespace Go.Proofs.Ytgelnjmddabgpaa
open Go Go.RowKit
set_option maxRecDepth 100000
theorem row3_cons (x : Stand) (l : List Stand) : rowC ((x :: l).map sdPV) = I x.school :: I x.total :: ints x.points :: rowC (l.map sdPV) := by simp [rowC, sdPV, sdCells]
theorem row3_len : ∀ l : List Stand, (rowC (l.map sdPV)).length = l.length * 3 := by
  intro l
  induction l with
  | nil => rfl
  | cons x l ih => rw [row3_cons]; simp only [List.length_cons, ih]; omega
theorem row3_ld : ∀ {l : List Stand} {j : Nat} {x : Stand}, l[j]? = some x → ((rowC (l.map sdPV)).drop (j * 3)).take 3 = [I x.school, I x.total, ints x.points] := by
  intro l
  induction l with
  | nil => intro j x h; simp at h
  | cons y l ih =>
    intro j x h
    rw [row3_cons]
    cases j with
    | zero =>
      simp only [List.getElem?_cons_zero, Option.some.injEq] at h
      subst h
      simp
    | succ j =>
      simp only [List.getElem?_cons_succ] at h
      rw [show (j + 1) * 3 = j * 3 + 1 + 1 + 1 by omega]
      simp only [List.drop_succ_cons]
      exact ih h
theorem row3_put (x : Stand) : ∀ {l : List Stand} {j : Nat}, j < l.length → (((rowC (l.map sdPV)).set (j * 3) (I x.school)).set (j * 3 + 1) (I x.total)).set (j * 3 + 1 + 1) (ints x.points) = rowC ((l.set j x).map sdPV) := by
  intro l
  induction l with
  | nil => intro j h; simp at h
  | cons y l ih =>
    intro j h
    rw [row3_cons]
    cases j with
    | zero =>
      have e : (y :: l).set 0 x = x :: l := rfl
      rw [e, row3_cons]; simp
    | succ j =>
      rw [List.set_cons_succ, row3_cons, show (j + 1) * 3 = j * 3 + 1 + 1 + 1 by omega]
      simp only [List.set_cons_succ]
      rw [ih (by simpa using h)]
theorem cA_row3 {a b c : Nat} {l : List Stand} : CleanAll a b c (rowC (l.map sdPV)) = True := eq_true fun p hp => by
  simp only [rowC, List.mem_flatMap, List.mem_map] at hp
  obtain ⟨q, ⟨x, _, rfl⟩, hp⟩ := hp
  exact cleans_sd x p hp
attribute [go_sem] cA_row3
theorem ld3 {σ : Sg} {id : Nat} (hlt : id < σ.store.length) {l : List Stand} {j : Nat} {x : Stand} (h : l[j]? = some x) : ldA 3 (σ.setVar id (rowC (l.map sdPV))) id (j * 3) = some (.agg [I x.school, I x.total, ints x.points]) := by
  have hj := (List.getElem?_eq_some_iff.1 h).1
  rw [ldA_at (sv_get hlt), if_pos (by rw [row3_len]; omega), row3_ld h]
/-- One standing sinks to its place. -/
def sink (ord : List Int) : Nat → List Stand → List Stand
  | 0, l => l
  | j + 1, l => match l[j + 1]?, l[j]? with
    | some x, some y => if cmpSt ord x y < 0 then sink ord j ((l.set (j + 1) y).set j x) else l
    | _, _ => l
def sinkAll (ord : List Int) : Nat → Nat → List Stand → List Stand
  | 0, _, l => l
  | k + 1, i, l => sinkAll ord k (i + 1) (sink ord i l)
def sortSd (ord : List Int) (l : List Stand) : List Stand := sinkAll ord (l.length - 1) 1 l
theorem mem_set2 {α : Type} {l : List α} {i j : Nat} {x y z : α} (hx : l[i]? = some x) (hy : l[j]? = some y) (h : z ∈ (l.set i y).set j x) : z ∈ l := by
  rcases List.mem_or_eq_of_mem_set h with h | h
  · rcases List.mem_or_eq_of_mem_set h with h | h
    · exact h
    · exact h ▸ List.mem_of_getElem? hy
  · exact h ▸ List.mem_of_getElem? hx
set_option maxHeartbeats 4000000 in
theorem insSort_pc (Y : YEnv) (σ : Sg) (id : Nat) (ord : List Int) (l : List Stand) (hd : σ.store[id]? = some (some (rowC (l.map sdPV)))) (hC : ∀ a b, a ∈ l → b ∈ l → CmpOk ord a b) (hol : ord.length < 2 ^ 40) (hl : 0 < l.length ∧ l.length ≤ 12) :
    PC Try.prog Y 82 [.gsl id l.length 3, I 0, I l.length, .func (.func 42) [.agg [ints ord]] []] σ (.tuple []) (σ.setVar id (rowC ((sortSd ord l).map sdPV))) := by
  refine PC_of_W Try.func82 rfl (by kernel_rfl) Try.ntmps82 (by simp) fun hcl hca => ?_
  have hlt := lt_of_get hd
  obtain ⟨res, hres⟩ : ∃ r, sortSd ord l = r := ⟨_, rfl⟩
  rw [hres]
  obtain ⟨n, hn⟩ : ∃ z, l.length = z := ⟨_, rfl⟩
  rw [hn] at hl ⊢
  refine W_seq fun kz1 kq1 => ?_
  refine W_region [0, 1, 2, 3, 8] fun R hR => ?_   -- r0
  simp only [go_sem, ldS_at hd, stX_at hd, ldS_sv hlt, stX_sv hlt, sv_ext hlt, sv_ext_sv hlt]
  try simp (disch := omega) only [wrapI, wrapU]
  refine hR _ _ (kq1 _ _ ?_); clear hR R; try clear kq1 kz1
  try simp only [go_sem, ldS_at hd, stX_at hd, ldS_sv hlt, stX_sv hlt, sv_ext hlt, sv_ext_sv hlt]
  refine W_block ?_
  refine W_loopT (α := Nat × (List Stand)) (fun ⟨i, m⟩ => [(8, I i)]) (fun ⟨i, m⟩ => σ.setVar id (rowC (m.map sdPV))) (fun ⟨i, m⟩ => 1 ≤ i ∧ i ≤ n ∧ m.length = n ∧ (∀ x, x ∈ m → x ∈ l) ∧ res = sinkAll ord (n - i) i m) (fun ⟨i, m⟩ => n - i) ((1, l)) rfl (by show σ.setVar id _ = σ; exact sv_self hd) (⟨Nat.le_refl _, by omega, hn, fun x hx => hx, by rw [← hres, sortSd, hn]⟩) ?_
  rintro ⟨i, m⟩ ⟨hi1, hi, hml, hmm, hinv⟩
  refine W_seq fun kz2 kq2 => ?_
  refine W_seq fun kz3 kq3 => ?_
  refine W_region [0, 1, 2, 3, 8, 14] fun R hR => ?_   -- r1
  simp only [go_sem, ldS_at hd, stX_at hd, ldS_sv hlt, stX_sv hlt, sv_ext hlt, sv_ext_sv hlt]
  refine hR _ _ (kq3 _ _ ?_); clear hR R; try clear kq3 kz3
  try simp only [go_sem, ldS_at hd, stX_at hd, ldS_sv hlt, stX_sv hlt, sv_ext hlt, sv_ext_sv hlt]
  refine W_cond rfl (fun c1 => ?_) (fun c1 => ?_)
  · -- c1 true
    try simp only [nrm] at c1
    have hin : i < n := by first | omega | (simp at c1; omega)
    rw [show n - i = (n - (i + 1)) + 1 by omega] at hinv
    simp only [sinkAll] at hinv
    refine W_skip (kq2 _ _ ?_)
    refine W_seq fun kz4 kq4 => ?_
    refine W_block ?_
    refine W_seq fun kz5 kq5 => ?_
    refine W_region [0, 1, 2, 3, 8, 9] fun R hR => ?_   -- r3
    simp only [go_sem, ldS_at hd, stX_at hd, ldS_sv hlt, stX_sv hlt, sv_ext hlt, sv_ext_sv hlt]
    refine hR _ _ (kq5 _ _ ?_); clear hR R; try clear kq5 kz5
    try simp only [go_sem, ldS_at hd, stX_at hd, ldS_sv hlt, stX_sv hlt, sv_ext hlt, sv_ext_sv hlt]
    refine W_block ?_
    refine W_loopT (α := Nat × (List Stand)) (fun ⟨j, m2⟩ => [(9, I j)]) (fun ⟨j, m2⟩ => σ.setVar id (rowC (m2.map sdPV))) (fun ⟨j, m2⟩ => j ≤ i ∧ m2.length = n ∧ (∀ x, x ∈ m2 → x ∈ l) ∧ sink ord i m = sink ord j m2) (fun ⟨j, m2⟩ => j) ((i, m)) rfl (by first | rfl | (simp only [go_sem]; done) | (simp only [go_sem]; rfl)) (⟨Nat.le_refl _, hml, hmm, rfl⟩) ?_
    rintro ⟨j, m2⟩ ⟨hj, hm2l, hm2, hsk⟩
    refine W_seq fun kz6 kq6 => ?_
    refine W_seq fun kz7 kq7 => ?_
    refine W_draw [0, 1, 2, 3, 8, 9, 34] [0, 1, 2, 3, 4, 5, 6, 7, 8, 9, 10, 11, 12, 13, 14, 15, 16] [] [[], [], [0, 1], [0, 1, 2], [0, 1, 2, 3], [0, 1, 2, 3], [0, 1, 2, 3], [0, 1, 2, 3, 5, 6], [0, 1, 2, 3, 5, 6, 7], [0, 1, 2, 3], [0, 1, 2, 3], [0, 1, 2, 3, 10], [0, 1, 2, 3, 9, 10, 11], [0, 1, 2, 3, 9, 10, 11, 12], [0, 1, 2, 3, 4, 5, 6, 7, 8, 9, 10, 11, 12, 13], [0, 1, 2, 3, 4, 5, 6, 7, 8, 9, 10, 11, 12, 13, 14], [0, 1, 2, 3, 4, 5, 6, 7, 8, 9, 10, 11, 12, 13, 14, 15]] mixed (by kernel_rfl) fun R hR => ?_   -- r4
    simp only [go_sem, ldS_at hd, stX_at hd, ldS_sv hlt, stX_sv hlt, sv_ext hlt, sv_ext_sv hlt]
    refine GWant_split (fun g1 => ?_) (fun g1 => ?_)
    · try simp only [Bool.not_eq_true', Bool.not_eq_false'] at g1
      have n1 := g1; try simp only [nrm] at n1
      obtain ⟨q, rfl⟩ : ∃ q, j = q + 1 := ⟨j - 1, by first | omega | (simp at g1; omega)⟩
      obtain ⟨x, hx⟩ : ∃ z, m2[q + 1]? = some z := ⟨m2[q + 1]'(by omega), by simp⟩
      obtain ⟨y, hy⟩ : ∃ z, m2[q]? = some z := ⟨m2[q]'(by omega), by simp⟩
      have hsk2 : sink ord (q + 1) m2 = if cmpSt ord x y < 0 then sink ord q ((m2.set (q + 1) y).set q x) else m2 := by simp only [sink, hx, hy]
      have hq1 : ((q + 1 : Nat) : Int) < (n : Int) := by omega
      have hq0 : ((q : Nat) : Int) < (n : Int) := by omega
      have hz1 : (0 : Int) ≤ ((q + 1 : Nat) : Int) := by omega
      have hqw : IntKind.i64.wrap (((q + 1 : Nat) : Int) - 1) = (q : Int) := by rw [wrapI (by omega) (by omega)]; omega
      have l1 := ld3 hlt hx
      have l2 := ld3 hlt hy
      have s1 : decide ((q + 1) * 3 + 3 ≤ (rowC (List.map sdPV m2)).length) = true := by rw [row3_len]; simp; omega
      have s2 : decide (q * 3 + 3 ≤ (rowC (List.map sdPV (m2.set (q + 1) y))).length) = true := by rw [row3_len]; simp; omega
      have s3 := row3_put y (l := m2) (j := q + 1) (by omega)
      have s4 := row3_put x (l := m2.set (q + 1) y) (j := q) (by simp; omega)
      simp only [go_sem, ldS_at hd, stX_at hd, ldS_sv hlt, stX_sv hlt, sv_ext hlt, sv_ext_sv hlt, hqw, hq1, hq0, iaM_nat (Int.ofNat_lt.1 hq1), iaM_nat (Int.ofNat_lt.1 hq0), Nat.zero_add, l1, l2, s1, s2, s3, s4, g1]
      try simp (disch := omega) only [wrapI, wrapU]
      refine GCall_of (compare_pc Y _ ord x y (hC x y (hm2 x (List.mem_of_getElem? hx)) (hm2 y (List.mem_of_getElem? hy))) hol) ?_   -- t32
      simp only [go_sem, ldS_at hd, stX_at hd, ldS_sv hlt, stX_sv hlt, sv_ext hlt, sv_ext_sv hlt, hqw, hq1, hq0, iaM_nat (Int.ofNat_lt.1 hq1), iaM_nat (Int.ofNat_lt.1 hq0), Nat.zero_add, l1, l2, s1, s2, s3, s4, g1]
      try simp (disch := omega) only [wrapI, wrapU]
      try refine And.intro (by repeat' (first | refine And.intro ?_ ?_ | exact GOr_right (fun _ => by simp only [go_sem, ldS_at hd, stX_at hd, ldS_sv hlt, stX_sv hlt, sv_ext hlt, sv_ext_sv hlt, hqw, hq1, hq0, iaM_nat (Int.ofNat_lt.1 hq1), iaM_nat (Int.ofNat_lt.1 hq0), Nat.zero_add, l1, l2, s1, s2, s3, s4]))) ?_
      refine hR _ _ (kq7 _ _ ?_); clear hR R; try clear kq7 kz7
      try simp only [go_sem, ldS_at hd, stX_at hd, ldS_sv hlt, stX_sv hlt, sv_ext hlt, sv_ext_sv hlt, hqw, hq1, hq0, iaM_nat (Int.ofNat_lt.1 hq1), iaM_nat (Int.ofNat_lt.1 hq0), Nat.zero_add, l1, l2, s1, s2, s3, s4]
      refine W_cond rfl (fun c2 => ?_) (fun c2 => ?_)
      · -- c2 true
        try simp only [nrm] at c2
        skip
        refine W_skip (kq6 _ _ ?_)
        refine W_seq fun kz8 kq8 => ?_
        refine W_block ?_
        refine W_draw [0, 1, 2, 3, 8, 9] [0, 1, 2, 3, 4, 5, 6, 7, 8, 9, 10, 11, 12, 13, 14, 15, 16, 17] [(2, 17), (3, 17), (4, 17)] [[], [], [], [], [3], [], [], [6], [5, 6, 7], [5, 6, 7, 8], [], [], [10, 11], [10, 11, 12], [0, 1, 5, 6, 7, 8, 9, 10, 11, 12, 13], [0, 1, 5, 6, 7, 8, 9, 10, 11, 12, 13, 14], [0, 1, 2, 3, 4, 5, 6, 7, 8, 9, 10, 11, 12, 13, 14, 15], [0, 1, 2, 3, 4, 5, 6, 7, 8, 9, 10, 11, 12, 13, 14, 15, 16]] mixed (by kernel_rfl) fun R hR => ?_   -- r6
        simp only [go_sem, ldS_at hd, stX_at hd, ldS_sv hlt, stX_sv hlt, sv_ext hlt, sv_ext_sv hlt, hqw, hq1, hq0, iaM_nat (Int.ofNat_lt.1 hq1), iaM_nat (Int.ofNat_lt.1 hq0), Nat.zero_add, l1, l2, s1, s2, s3, s4]
        try simp (disch := omega) only [wrapI, wrapU]
        try refine And.intro (by repeat' (first | refine And.intro ?_ ?_ | exact GOr_right (fun _ => by simp only [go_sem, ldS_at hd, stX_at hd, ldS_sv hlt, stX_sv hlt, sv_ext hlt, sv_ext_sv hlt, hqw, hq1, hq0, iaM_nat (Int.ofNat_lt.1 hq1), iaM_nat (Int.ofNat_lt.1 hq0), Nat.zero_add, l1, l2, s1, s2, s3, s4]))) ?_
        refine hR _ _ (kq8 _ _ ?_); clear hR R; try clear kq8 kz8
        try simp only [go_sem, ldS_at hd, stX_at hd, ldS_sv hlt, stX_sv hlt, sv_ext hlt, sv_ext_sv hlt, hqw, hq1, hq0, iaM_nat (Int.ofNat_lt.1 hq1), iaM_nat (Int.ofNat_lt.1 hq0), Nat.zero_add, l1, l2, s1, s2, s3, s4]
        refine W_region [0, 1, 2, 3, 8, 9] fun R hR => ?_   -- r5
        simp only [go_sem, ldS_at hd, stX_at hd, ldS_sv hlt, stX_sv hlt, sv_ext hlt, sv_ext_sv hlt, hqw, hq1, hq0, iaM_nat (Int.ofNat_lt.1 hq1), iaM_nat (Int.ofNat_lt.1 hq0), Nat.zero_add, l1, l2, s1, s2, s3, s4]
        try simp (disch := omega) only [wrapI, wrapU]
        refine hR _ _ ?_; clear hR R
        try simp only [go_sem, ldS_at hd, stX_at hd, ldS_sv hlt, stX_sv hlt, sv_ext hlt, sv_ext_sv hlt, hqw, hq1, hq0, iaM_nat (Int.ofNat_lt.1 hq1), iaM_nat (Int.ofNat_lt.1 hq0), Nat.zero_add, l1, l2, s1, s2, s3, s4]
        refine ⟨(q, (m2.set (q + 1) y).set q x), ?_, by (try simp only []); omega, ?_⟩
        · first | exact Weak.refl | exact Weak.eq (by first | rfl | (simp only [go_sem]; done) | (simp only [go_sem]; rfl) | (simp [go_sem]; done) | (simp [go_sem]; omega)) (by first | rfl | (simp only [go_sem]; done) | (simp [go_sem]; done))
        · try dsimp only
          refine ⟨by omega, by simp [hm2l], fun z hz => hm2 z (mem_set2 hx hy hz), ?_⟩
          rw [hsk, hsk2, if_pos (by simpa using c2)]
      · -- c2 false
        try simp only [nrm] at c2
        skip
        refine W_exit ?_
        simp only [go_sem, ldS_at hd, stX_at hd, ldS_sv hlt, stX_sv hlt, sv_ext hlt, sv_ext_sv hlt, hqw, hq1, hq0, iaM_nat (Int.ofNat_lt.1 hq1), iaM_nat (Int.ofNat_lt.1 hq0), Nat.zero_add, l1, l2, s1, s2, s3, s4]
        refine kq4 _ _ ?_
        refine W_region [0, 1, 2, 3, 8] fun R hR => ?_   -- r2
        simp only [go_sem, ldS_at hd, stX_at hd, ldS_sv hlt, stX_sv hlt, sv_ext hlt, sv_ext_sv hlt, hqw, hq1, hq0, iaM_nat (Int.ofNat_lt.1 hq1), iaM_nat (Int.ofNat_lt.1 hq0), Nat.zero_add, l1, l2, s1, s2, s3, s4]
        try simp (disch := omega) only [wrapI, wrapU]
        refine hR _ _ ?_; clear hR R
        try simp only [go_sem, ldS_at hd, stX_at hd, ldS_sv hlt, stX_sv hlt, sv_ext hlt, sv_ext_sv hlt, hqw, hq1, hq0, iaM_nat (Int.ofNat_lt.1 hq1), iaM_nat (Int.ofNat_lt.1 hq0), Nat.zero_add, l1, l2, s1, s2, s3, s4]
        refine ⟨(i + 1, m2), ?_, by (try simp only []); omega, ?_⟩
        · first | exact Weak.refl | exact Weak.eq (by first | rfl | (simp only [go_sem]; done) | (simp only [go_sem]; rfl) | (simp [go_sem]; done) | (simp [go_sem]; omega)) (by first | rfl | (simp only [go_sem]; done) | (simp [go_sem]; done))
        · try dsimp only
          refine ⟨by omega, by omega, hm2l, hm2, ?_⟩
          rw [hinv, hsk]
          first
          | rw [hsk2, if_neg (by simpa using c2)]
          | (have hj0 : j = 0 := by first | omega | (simp at g1; omega)
             subst hj0; rfl)
    · try simp only [Bool.not_eq_true', Bool.not_eq_false'] at g1
      have n1 := g1; try simp only [nrm] at n1
      simp only [go_sem, ldS_at hd, stX_at hd, ldS_sv hlt, stX_sv hlt, sv_ext hlt, sv_ext_sv hlt, g1]
      try simp (disch := omega) only [wrapI, wrapU]
      try refine And.intro (by repeat' (first | refine And.intro ?_ ?_ | exact GOr_right (fun _ => by simp only [go_sem, ldS_at hd, stX_at hd, ldS_sv hlt, stX_sv hlt, sv_ext hlt, sv_ext_sv hlt]))) ?_
      refine hR _ _ (kq7 _ _ ?_); clear hR R; try clear kq7 kz7
      try simp only [go_sem, ldS_at hd, stX_at hd, ldS_sv hlt, stX_sv hlt, sv_ext hlt, sv_ext_sv hlt]
      refine W_cond_false rfl ?_
      refine W_exit ?_
      simp only [go_sem, ldS_at hd, stX_at hd, ldS_sv hlt, stX_sv hlt, sv_ext hlt, sv_ext_sv hlt]
      refine kq4 _ _ ?_
      refine W_region [0, 1, 2, 3, 8] fun R hR => ?_   -- r2
      simp only [go_sem, ldS_at hd, stX_at hd, ldS_sv hlt, stX_sv hlt, sv_ext hlt, sv_ext_sv hlt]
      try simp (disch := omega) only [wrapI, wrapU]
      refine hR _ _ ?_; clear hR R
      try simp only [go_sem, ldS_at hd, stX_at hd, ldS_sv hlt, stX_sv hlt, sv_ext hlt, sv_ext_sv hlt]
      refine ⟨(i + 1, m2), ?_, by (try simp only []); omega, ?_⟩
      · first | exact Weak.refl | exact Weak.eq (by first | rfl | (simp only [go_sem]; done) | (simp only [go_sem]; rfl) | (simp [go_sem]; done) | (simp [go_sem]; omega)) (by first | rfl | (simp only [go_sem]; done) | (simp [go_sem]; done))
      · try dsimp only
        refine ⟨by omega, by omega, hm2l, hm2, ?_⟩
        rw [hinv, hsk]
        first
        | rw [hsk2, if_neg (by simpa using c2)]
        | (have hj0 : j = 0 := by first | omega | (simp at g1; omega)
           subst hj0; rfl)
  · -- c1 false
    try simp only [nrm] at c1
    have hie : n = i := by first | omega | (simp at c1; omega)
    subst hie
    rw [Nat.sub_self] at hinv
    simp only [sinkAll] at hinv
    subst hinv
    refine W_exit ?_
    simp only [go_sem, ldS_at hd, stX_at hd, ldS_sv hlt, stX_sv hlt, sv_ext hlt, sv_ext_sv hlt]
    try simp only [go_sem, ldS_at hd, stX_at hd, ldS_sv hlt, stX_sv hlt, sv_ext hlt, sv_ext_sv hlt]
    refine ⟨.inl (by trivial), ?_⟩
    first | refine Fin_set hcl (by simp only [go_sem]) rfl (Wk_eq ?_ (by simp only [go_sem])) | refine Fin_set0 hcl (by simp only [go_sem]) rfl (Wk_eq ?_ (by simp only [go_sem]))
    try simp only [go_sem]
    all_goals
      skip
set_option maxHeartbeats 2000000 in
theorem pdqSort_pc (Y : YEnv) (σ : Sg) (id : Nat) (ord : List Int) (l : List Stand) (hd : σ.store[id]? = some (some (rowC (l.map sdPV)))) (hC : ∀ a b, a ∈ l → b ∈ l → CmpOk ord a b) (hol : ord.length < 2 ^ 40) (hl : 0 < l.length ∧ l.length ≤ 12) (lim : Int) :
    PC Try.prog Y 67 [.gsl id l.length 3, I 0, I l.length, I lim, .func (.func 42) [.agg [ints ord]] []] σ (.tuple []) (σ.setVar id (rowC ((sortSd ord l).map sdPV))) := by
  refine PC_of_W Try.func67 rfl (by kernel_rfl) Try.ntmps67 (by simp) fun hcl hca => ?_
  have hlt := lt_of_get hd
  have hl2 : (l.length : Int) ≤ 12 := by omega
  refine W_seq fun kz1 kq1 => ?_
  refine W_region [0, 1, 2, 3, 4, 10] fun R hR => ?_   -- r0
  simp only [go_sem, ldS_at hd, stX_at hd, ldS_sv hlt, stX_sv hlt, sv_ext hlt, sv_ext_sv hlt]
  refine hR _ _ (kq1 _ _ ?_); clear hR R; try clear kq1 kz1
  try simp only [go_sem, ldS_at hd, stX_at hd, ldS_sv hlt, stX_sv hlt, sv_ext hlt, sv_ext_sv hlt]
  refine W_seq fun kz2 kq2 => ?_
  refine W_region [0, 1, 2, 3, 4, 10, 11] fun R hR => ?_   -- r1
  simp only [go_sem, ldS_at hd, stX_at hd, ldS_sv hlt, stX_sv hlt, sv_ext hlt, sv_ext_sv hlt]
  refine hR _ _ (kq2 _ _ ?_); clear hR R; try clear kq2 kz2
  try simp only [go_sem, ldS_at hd, stX_at hd, ldS_sv hlt, stX_sv hlt, sv_ext hlt, sv_ext_sv hlt]
  refine W_block ?_
  refine W_loopS (α := Nat) (fun (z : Nat) => []) (fun (z : Nat) => True) (fun (z : Nat) => 0) (0) rfl (trivial) ?_
  rintro z _
  refine W_block ?_
  refine W_seq fun kz3 kq3 => ?_
  refine W_region [0, 1, 2, 3, 4, 10, 11, 12] fun R hR => ?_   -- r2
  simp only [go_sem, ldS_at hd, stX_at hd, ldS_sv hlt, stX_sv hlt, sv_ext hlt, sv_ext_sv hlt]
  try simp (disch := omega) only [wrapI, wrapU]
  refine hR _ _ (kq3 _ _ ?_); clear hR R; try clear kq3 kz3
  try simp only [go_sem, ldS_at hd, stX_at hd, ldS_sv hlt, stX_sv hlt, sv_ext hlt, sv_ext_sv hlt]
  refine W_seq fun kz4 kq4 => ?_
  refine W_seq fun kz5 kq5 => ?_
  refine W_region [0, 1, 2, 3, 4, 10, 11, 12, 25] fun R hR => ?_   -- r3
  simp only [go_sem, ldS_at hd, stX_at hd, ldS_sv hlt, stX_sv hlt, sv_ext hlt, sv_ext_sv hlt]
  refine hR _ _ (kq5 _ _ ?_); clear hR R; try clear kq5 kz5
  try simp only [go_sem, ldS_at hd, stX_at hd, ldS_sv hlt, stX_sv hlt, sv_ext hlt, sv_ext_sv hlt]
  refine W_cond rfl (fun c1 => ?_) (fun c1 => ?_)
  · -- c1 true
    try simp only [nrm] at c1
    refine W_seq fun kz6 kq6 => ?_
    refine W_region [] fun R hR => ?_   -- r4
    simp only [go_sem, ldS_at hd, stX_at hd, ldS_sv hlt, stX_sv hlt, sv_ext hlt, sv_ext_sv hlt]
    refine GCall_of (insSort_pc Y _ id ord l hd hC hol hl) ?_   -- t30
    simp only [go_sem, ldS_at hd, stX_at hd, ldS_sv hlt, stX_sv hlt, sv_ext hlt, sv_ext_sv hlt]
    refine hR _ _ (kq6 _ _ ?_); clear hR R; try clear kq6 kz6
    try simp only [go_sem, ldS_at hd, stX_at hd, ldS_sv hlt, stX_sv hlt, sv_ext hlt, sv_ext_sv hlt]
    refine W_ret ?_
    simp only [go_sem, ldS_at hd, stX_at hd, ldS_sv hlt, stX_sv hlt, sv_ext hlt, sv_ext_sv hlt]
    refine ⟨.inr (by trivial), ?_⟩
    first | refine Fin_set hcl (by simp only [go_sem]) rfl (Wk_eq ?_ (by simp only [go_sem])) | refine Fin_set0 hcl (by simp only [go_sem]) rfl (Wk_eq ?_ (by simp only [go_sem]))
    try simp only [go_sem]
    all_goals
      skip
  · -- c1 false
    try simp only [nrm] at c1
    exfalso
    first | omega | (simp at c1; omega)
set_option maxHeartbeats 2000000 in
theorem sortFunc_pc (Y : YEnv) (σ : Sg) (id : Nat) (ord : List Int) (l : List Stand) (hd : σ.store[id]? = some (some (rowC (l.map sdPV)))) (hC : ∀ a b, a ∈ l → b ∈ l → CmpOk ord a b) (hol : ord.length < 2 ^ 40) (hl : 0 < l.length ∧ l.length ≤ 12) :
    PC Try.prog Y 44 [.gsl id l.length 3, .func (.func 42) [.agg [ints ord]] []] σ (.tuple []) (σ.setVar id (rowC ((sortSd ord l).map sdPV))) := by
  refine PC_of_W Try.func44 rfl (by kernel_rfl) Try.ntmps44 (by simp) fun hcl hca => ?_
  have hlt := lt_of_get hd
  refine W_seq fun kz1 kq1 => ?_
  refine W_region [0, 1, 4] fun R hR => ?_   -- r0
  simp only [go_sem, ldS_at hd, stX_at hd, ldS_sv hlt, stX_sv hlt, sv_ext hlt, sv_ext_sv hlt]
  refine hR _ _ (kq1 _ _ ?_); clear hR R; try clear kq1 kz1
  try simp only [go_sem, ldS_at hd, stX_at hd, ldS_sv hlt, stX_sv hlt, sv_ext hlt, sv_ext_sv hlt]
  refine W_region [] fun R hR => ?_   -- r1
  simp only [go_sem, ldS_at hd, stX_at hd, ldS_sv hlt, stX_sv hlt, sv_ext hlt, sv_ext_sv hlt]
  try simp (disch := omega) only [wrapI, wrapU]
  refine GCall_of (bitsLen_pc Y _ l.length (by omega) (by omega)) ?_   -- t11
  simp only [go_sem, ldS_at hd, stX_at hd, ldS_sv hlt, stX_sv hlt, sv_ext hlt, sv_ext_sv hlt]
  try simp (disch := omega) only [wrapI, wrapU]
  refine GCall_of (pdqSort_pc Y _ id ord l hd hC hol hl _) ?_   -- t13
  simp only [go_sem, ldS_at hd, stX_at hd, ldS_sv hlt, stX_sv hlt, sv_ext hlt, sv_ext_sv hlt]
  try simp (disch := omega) only [wrapI, wrapU]
  refine hR _ _ ?_; clear hR R
  try simp only [go_sem, ldS_at hd, stX_at hd, ldS_sv hlt, stX_sv hlt, sv_ext hlt, sv_ext_sv hlt]
  try simp only [go_sem, ldS_at hd, stX_at hd, ldS_sv hlt, stX_sv hlt, sv_ext hlt, sv_ext_sv hlt]
  refine ⟨.inl (by trivial), ?_⟩
  first | refine Fin_set hcl (by simp only [go_sem]) rfl (Wk_eq ?_ (by simp only [go_sem])) | refine Fin_set0 hcl (by simp only [go_sem]) rfl (Wk_eq ?_ (by simp only [go_sem]))
  try simp only [go_sem]
  all_goals
    skip
end Go.Proofs.Ytgelnjmddabgpaa
namespace Go.Proofs.Ytgelnjmddabgpaa
open Go Go.RowKit
set_option maxRecDepth 100000
/-- Standings that grow in place: nothing yet, or the last of a row of variables (those before it are gone). -/
def glS (n : Nat) (out : List Stand) : PV := match out with
  | [] => .gnil
  | _ :: t => .gsl (n + t.length) (t.length + 1) 3
def gsS (out : List Stand) : List (Option (List PV)) := match out with
  | [] => []
  | _ :: t => List.replicate t.length none ++ [some (rowC (out.map sdPV))]
theorem appendAny_gs {P : Program} {σ : Sg} {t t' : TypeId} {n : Nat} {out : List Stand} {y : PV} : appendAny P σ t t' (glS n out) y = appendG P σ t t' (glS n out) y := by cases out <;> rfl
attribute [go_sem] appendAny_gs
section
variable {σ : Sg} {A : List (Option (List PV))} {rm : List Nat} {ys : List LState} {out : List Stand}
theorem gsS_get {x : Stand} : (A ++ gsS (x :: out))[A.length + out.length]? = some (some (rowC ((x :: out).map sdPV))) := by
  have : A.length + out.length = (A ++ List.replicate out.length (none : Option (List PV))).length := by simp
  rw [this, gsS, ← List.append_assoc]
  exact get_mid
theorem gsS_set {x : Stand} {y : Option (List PV)} : (A ++ gsS (x :: out)).set (A.length + out.length) y = A ++ (List.replicate out.length none ++ [y]) := by
  have : A.length + out.length = (A ++ List.replicate out.length (none : Option (List PV))).length := by simp
  rw [this, gsS, ← List.append_assoc, ← List.append_assoc]
  exact set_mid
theorem appG_gs (b : Nat) (x : Stand) (h : (out.length + 1) * b ≤ 2 ^ 47) : appG 3 b (σ.ext (A ++ gsS out) rm ys) (glS (σ.store.length + A.length) out) [.agg [I x.school, I x.total, ints x.points]] = some (glS (σ.store.length + A.length) (out ++ [x]), σ.ext (A ++ gsS (out ++ [x])) rm ys) := by
  cases out with
  | nil =>
    rw [glS, appG_nil (by rfl) (by simp) (by simpa using h)]
    simp [gsS, glS, rowC, Sg.push_ext, Sg.len_ext, sdPV, sdCells]
  | cons y out =>
    simp only [glS]
    rw [appG_more (cs := rowC ((y :: out).map sdPV)) (by rw [Nat.add_assoc, Sg.get_ext]; exact gsS_get) (by rw [row3_len]; simp) (by rfl) (by simp) (by simpa using h)]
    rw [Nat.add_assoc (Sg.store σ).length, Sg.drop_ext, gsS_set]
    simp only [Sg.push_ext, Sg.len_ext]
    have e : List.replicate (out ++ [x]).length (none : Option (List PV)) = List.replicate out.length none ++ [none] := by simp [List.replicate_succ']
    simp only [List.cons_append, gsS, e, glS]
    have e2 : rowC ((y :: (out ++ [x])).map sdPV) = rowC ((y :: out).map sdPV) ++ rowC [.agg [I x.school, I x.total, ints x.points]] := by
      simp [rowC, sdPV, sdCells]
    rw [e2]
    simp [Nat.add_assoc]
end
theorem sink_len (ord : List Int) : ∀ (j : Nat) (l : List Stand), (sink ord j l).length = l.length := by
  intro j
  induction j with
  | zero => intro l; rfl
  | succ j ih =>
    intro l
    simp only [sink]
    split
    · split
      · rw [ih]; simp
      · rfl
    · rfl
theorem sinkAll_len (ord : List Int) : ∀ (k i : Nat) (l : List Stand), (sinkAll ord k i l).length = l.length := by
  intro k
  induction k with
  | zero => intro i l; rfl
  | succ k ih => intro i l; simp only [sinkAll, ih, sink_len]
theorem sortSd_len (ord : List Int) (l : List Stand) : (sortSd ord l).length = l.length := sinkAll_len _ _ _ _
theorem sort_gs (Y : YEnv) (σ : Sg) (A : List (Option (List PV))) (rm : List Nat) (ord : List Int) (out : List Stand) (hC : ∀ a b, a ∈ out → b ∈ out → CmpOk ord a b) (hol : ord.length < 2 ^ 40) (hl : 0 < out.length ∧ out.length ≤ 12) :
    PC Try.prog Y 44 [glS (σ.store.length + A.length) out, .func (.func 42) [.agg [ints ord]] []] (σ.ext (A ++ gsS out) rm) (.tuple []) (σ.ext (A ++ gsS (sortSd ord out)) rm) := by
  cases out with
  | nil => simp at hl
  | cons x out =>
    have h1 := sortFunc_pc Y (σ.ext (A ++ gsS (x :: out)) rm) (σ.store.length + A.length + out.length) ord (x :: out) (by rw [Nat.add_assoc, Sg.get_ext]; exact gsS_get) hC hol hl
    rw [Nat.add_assoc, Sg.set_ext, gsS_set] at h1
    have e : A ++ (List.replicate out.length none ++ [some (rowC ((sortSd ord (x :: out)).map sdPV))]) = A ++ gsS (sortSd ord (x :: out)) := by
      have hs := sortSd_len ord (x :: out)
      cases hc : sortSd ord (x :: out) with
      | nil => rw [hc] at hs; simp at hs
      | cons y s =>
        rw [hc] at hs
        simp only [List.length_cons] at hs
        simp only [gsS]
        rw [show out.length = s.length by omega]
    rw [e] at h1
    simp only [glS]
    rw [Nat.add_assoc]
    exact h1
theorem glS_sort (n : Nat) (ord : List Int) (out : List Stand) : glS n (sortSd ord out) = glS n out := by
  have hl := sortSd_len ord out
  cases h : sortSd ord out with
  | nil =>
    rw [h] at hl
    cases out with
    | nil => rfl
    | cons x out => simp at hl
  | cons y s =>
    rw [h] at hl
    cases out with
    | nil => simp at hl
    | cons x out => simp only [List.length_cons] at hl; simp only [glS]; rw [show s.length = out.length by omega]
def sdUp (s : Scale) (k : Kn) (g : Night) (i : Nat) : List Stand := (List.range i).map fun (j : Nat) => standK s k g j 0
theorem sdUp_succ (s : Scale) (k : Kn) (g : Night) (i : Nat) : sdUp s k g (i + 1) = sdUp s k g i ++ [standK s k g i 0] := by simp [sdUp, List.range_succ]
/-- The table as the program makes it. -/
def tblP (s : Scale) (k : Kn) (g : Night) : List Stand := sortSd s.order (sdUp s k g s.schools.toNat)
def tableP (s : Scale) (g : Night) : List Stand × Int :=
  if knownE s g ≠ 0 then ([], knownE s g) else if sealedK s (knownK s g) ≠ [] then ([], 11) else (tblP s (knownK s g) g, 0)
set_option maxHeartbeats 2000000 in
theorem plcE_pc (Y : YEnv) (σ : Sg) (s : Scale) (g : Night) (hs : s.Ok) (hg : g.Ok) (sc : Int) (hE : knownE s g ≠ 0) :
    PC Try.prog Y 16 [scPV s, ngPV g, I sc] σ (.tuple [.agg [I 0, I 0], I (knownE s g)]) (σ) := by
  refine PC_of_W Try.func16 rfl (by kernel_rfl) Try.ntmps16 (by simp) fun hcl hca => ?_
  refine W_seq fun kz1 kq1 => ?_
  refine W_region [3, 4, 5, 6] fun R hR => ?_   -- r0
  simp only [go_sem]
  refine hR _ _ (kq1 _ _ ?_); clear hR R; try clear kq1 kz1
  try simp only [go_sem]
  refine W_seq fun kz2 kq2 => ?_
  refine W_region [3, 4, 5, 6, 8, 9] fun R hR => ?_   -- r1
  simp only [go_sem]
  refine GCall_of (knownOf_err Y _ s g hs hg hE) ?_   -- t14
  simp only [go_sem]
  refine hR _ _ (kq2 _ _ ?_); clear hR R; try clear kq2 kz2
  try simp only [go_sem]
  refine W_seq fun kz3 kq3 => ?_
  refine W_seq fun kz4 kq4 => ?_
  refine W_region [3, 4, 5, 6, 8, 9, 18] fun R hR => ?_   -- r2
  simp only [go_sem]
  refine hR _ _ (kq4 _ _ ?_); clear hR R; try clear kq4 kz4
  try simp only [go_sem]
  refine W_cond rfl (fun c1 => ?_) (fun c1 => ?_)
  · -- c1 true
    try simp only [nrm] at c1
    refine W_seq fun kz5 kq5 => ?_
    refine W_region [6, 7] fun R hR => ?_   -- r3
    simp only [go_sem]
    refine hR _ _ (kq5 _ _ ?_); clear hR R; try clear kq5 kz5
    try simp only [go_sem]
    refine W_ret ?_
    simp only [go_sem]
    refine ⟨.inr (by trivial), ?_⟩
    first | refine Fin_same hcl (by show resPV Try.prog _ _ [.cell 6 48, .tmp 7] = some _; simp only [resPV, go_sem]; rfl) (Wk_eq ?_ (by simp only [go_sem])) | refine Fin_same hcl rfl (Wk_eq ?_ (by simp only [go_sem]))
    try simp only [go_sem]
    all_goals
      first | rfl | (simp_all; done) | (simp_all; omega)
  · -- c1 false
    try simp only [nrm] at c1
    exfalso
    first | exact hE (by omega) | (simp at c1; exact hE (by omega))
set_option maxHeartbeats 2000000 in
theorem plcO_pc (Y : YEnv) (σ : Sg) (s : Scale) (g : Night) (hs : s.Ok) (hg : g.Ok) (sc : Int) (hE : knownE s g = 0) :
    PC Try.prog Y 16 [scPV s, ngPV g, I sc] σ (.tuple [.agg [I (placeA s g sc).1.1, I (placeA s g sc).1.2], I (placeA s g sc).2]) (σ) := by
  refine PC_of_W Try.func16 rfl (by kernel_rfl) Try.ntmps16 (by simp) fun hcl hca => ?_
  have hV := known_V hE
  obtain ⟨K, hK⟩ : ∃ z, knownK s g = z := ⟨_, rfl⟩
  rw [hK] at hV
  have hv := hV.v
  have q3 := hv.sc
  have q4 := hv.lo
  have q5 := hv.hi
  obtain ⟨N, hN⟩ : ∃ z : Nat, s.schools = z := ⟨s.schools.toNat, by omega⟩
  have hNi : (s.schools : Int) = (N : Int) := hN
  have hkn := fun Y σ => knownOf_ok Y σ s g hs hg hE
  rw [hK] at hkn
  refine W_seq fun kz1 kq1 => ?_
  refine W_region [3, 4, 5, 6] fun R hR => ?_   -- r0
  simp only [go_sem]
  refine hR _ _ (kq1 _ _ ?_); clear hR R; try clear kq1 kz1
  try simp only [go_sem]
  refine W_seq fun kz2 kq2 => ?_
  refine W_region [3, 4, 5, 6, 8, 9] fun R hR => ?_   -- r1
  simp only [go_sem]
  refine GCall_of (hkn Y _) ?_   -- t14
  simp only [go_sem]
  refine hR _ _ (kq2 _ _ ?_); clear hR R; try clear kq2 kz2
  try simp only [go_sem]
  refine W_seq fun kz3 kq3 => ?_
  refine W_seq fun kz4 kq4 => ?_
  refine W_region [3, 4, 5, 6, 8, 9, 18] fun R hR => ?_   -- r2
  simp only [go_sem]
  refine hR _ _ (kq4 _ _ ?_); clear hR R; try clear kq4 kz4
  try simp only [go_sem]
  refine W_cond_false rfl ?_
  refine W_skip (kq3 _ _ ?_)
  refine W_seq fun kz5 kq5 => ?_
  refine W_seq fun kz6 kq6 => ?_
  refine W_region [3, 4, 5, 6, 8, 26] fun R hR => ?_   -- r4
  simp only [go_sem]
  try simp (disch := omega) only [wrapI, wrapU]
  refine GCall_of (in_pc Y _ sc 0 _) ?_   -- t25
  simp only [go_sem]
  try simp (disch := omega) only [wrapI, wrapU]
  refine hR _ _ (kq6 _ _ ?_); clear hR R; try clear kq6 kz6
  try simp only [go_sem]
  refine W_cond rfl (fun c1 => ?_) (fun c1 => ?_)
  · -- c1 true
    try simp only [nrm] at c1
    refine W_seq fun kz7 kq7 => ?_
    refine W_region [6, 7] fun R hR => ?_   -- r5
    simp only [go_sem]
    refine hR _ _ (kq7 _ _ ?_); clear hR R; try clear kq7 kz7
    try simp only [go_sem]
    refine W_ret ?_
    simp only [go_sem]
    refine ⟨.inr (by trivial), ?_⟩
    first | refine Fin_same hcl (by show resPV Try.prog _ _ [.cell 6 48, .tmp 7] = some _; simp only [resPV, go_sem]; rfl) (Wk_eq ?_ (by simp only [go_sem])) | refine Fin_same hcl rfl (Wk_eq ?_ (by simp only [go_sem]))
    try simp only [go_sem]
    all_goals
      clear hNi hN; simp [placeA, hE, hK, *]
  · -- c1 false
    try simp only [nrm] at c1
    have hin : inR sc 0 (s.schools - 1) = true := c1
    have hin2 := hin
    simp only [inR_true] at hin2
    obtain ⟨n, rfl⟩ : ∃ n : Nat, sc = n := ⟨sc.toNat, by omega⟩
    refine W_skip (kq5 _ _ ?_)
    refine W_seq fun kz8 kq8 => ?_
    refine W_region [3, 6, 10] fun R hR => ?_   -- r6
    simp only [go_sem]
    refine hR _ _ (kq8 _ _ ?_); clear hR R; try clear kq8 kz8
    try simp only [go_sem]
    refine W_seq fun kz9 kq9 => ?_
    refine W_draw [6, 7] [0, 1, 2, 3, 4, 5, 6, 7, 8, 9, 10, 11, 12, 13, 14] [(6, 5), (7, 5), (8, 5), (9, 5), (10, 5)] [[], [], [1], [], [3], [0, 1, 2, 3, 4], [], [], [7], [], [9], [0, 1, 2, 3, 4, 5, 6, 7, 8, 9, 10], [0, 1, 2, 3, 4, 5, 6, 7, 8, 9, 10, 11], [0, 1, 2, 3, 4, 5, 6, 7, 8, 9, 10, 11, 12], [0, 1, 2, 3, 4, 5, 6, 7, 8, 9, 10, 11, 12, 13]] mixed (by kernel_rfl) fun R hR => ?_   -- r7
    simp only [go_sem]
    refine GCall_of (place1_pc Y _ (σ.store.length + 7) (σ.store.length + 6) (σ.store.length) (σ.store.length + 1) (σ.store.length + 2) s K g hV n (by omega) s.high s.low (by omega) (by omega) (Sg.get_ext ..) (Sg.get_ext ..) (Sg.get_ext0 ..) (Sg.get_ext ..) (Sg.get_ext ..)) ?_   -- t34
    simp only [go_sem]
    refine GCall_of (place1_pc Y _ (σ.store.length + 7) (σ.store.length + 6) (σ.store.length) (σ.store.length + 1) (σ.store.length + 2) s K g hV n (by omega) s.low s.high (by omega) (by omega) (Sg.get_ext ..) (Sg.get_ext ..) (Sg.get_ext0 ..) (Sg.get_ext ..) (Sg.get_ext ..)) ?_   -- t40
    simp only [go_sem]
    try refine And.intro (by repeat' (first | refine And.intro ?_ ?_ | exact GOr_right (fun _ => by simp only [go_sem]))) ?_
    refine hR _ _ (kq9 _ _ ?_); clear hR R; try clear kq9 kz9
    try simp only [go_sem]
    refine W_ret ?_
    simp only [go_sem]
    refine ⟨.inr (by trivial), ?_⟩
    first | refine Fin_same hcl (by show resPV Try.prog _ _ [.cell 6 48, .tmp 7] = some _; simp only [resPV, go_sem]; rfl) (Wk_eq ?_ (by simp only [go_sem])) | refine Fin_same hcl rfl (Wk_eq ?_ (by simp only [go_sem]))
    try simp only [go_sem]
    all_goals
      clear hNi hN; simp [placeA, hE, hK, *]
theorem Place_pc (Y : YEnv) (σ : Sg) (s : Scale) (g : Night) (hs : s.Ok) (hg : g.Ok) (sc : Int) : PC Try.prog Y 16 [scPV s, ngPV g, I sc] σ (.tuple [.agg [I (placeA s g sc).1.1, I (placeA s g sc).1.2], I (placeA s g sc).2]) σ := by
  by_cases h : knownE s g = 0
  · exact plcO_pc Y σ s g hs hg sc h
  · have e : placeA s g sc = ((0, 0), knownE s g) := by unfold placeA; rw [if_pos h]
    rw [e]; exact plcE_pc Y σ s g hs hg sc h
set_option maxHeartbeats 2000000 in
theorem Wins_pc (Y : YEnv) (σ : Sg) (s : Scale) (g : Night) (hs : s.Ok) (hg : g.Ok) (sc : Int) :
    PC Try.prog Y 23 [scPV s, ngPV g, I sc] σ (.tuple [I (winsA s g sc).1, I (winsA s g sc).2]) (σ) := by
  refine PC_of_W Try.func23 rfl (by kernel_rfl) Try.ntmps23 (by simp) fun hcl hca => ?_
  refine W_seq fun kz1 kq1 => ?_
  refine W_region [2, 3, 4] fun R hR => ?_   -- r0
  simp only [go_sem]
  refine hR _ _ (kq1 _ _ ?_); clear hR R; try clear kq1 kz1
  try simp only [go_sem]
  refine W_seq fun kz2 kq2 => ?_
  refine W_region [8, 9] fun R hR => ?_   -- r1
  simp only [go_sem]
  refine GCall_of (Place_pc Y _ s g hs hg sc) ?_   -- t14
  simp only [go_sem]
  refine hR _ _ (kq2 _ _ ?_); clear hR R; try clear kq2 kz2
  try simp only [go_sem]
  refine W_seq fun kz3 kq3 => ?_
  refine W_block ?_
  refine W_seq fun kz4 kq4 => ?_
  refine W_region [8, 9, 17] fun R hR => ?_   -- r2
  simp only [go_sem]
  refine hR _ _ (kq4 _ _ ?_); clear hR R; try clear kq4 kz4
  try simp only [go_sem]
  refine W_cond rfl (fun c1 => ?_) (fun c1 => ?_)
  · -- c1 true
    try simp only [nrm] at c1
    refine W_seq fun kz5 kq5 => ?_
    refine W_region [6, 7] fun R hR => ?_   -- r3
    simp only [go_sem]
    refine hR _ _ (kq5 _ _ ?_); clear hR R; try clear kq5 kz5
    try simp only [go_sem]
    refine W_ret ?_
    simp only [go_sem]
    refine ⟨.inr (by trivial), ?_⟩
    first | refine Fin_same hcl rfl (Wk_eq ?_ (by simp only [go_sem])) | refine Fin_self hcl rfl (Wk_eq ?_ (by simp only [go_sem]))
    try simp only [go_sem]
    all_goals
      simp [winsA, *]
  · -- c1 false
    try simp only [nrm] at c1
    refine W_seq fun kz6 kq6 => ?_
    refine W_region [8, 21] fun R hR => ?_   -- r4
    simp only [go_sem]
    refine hR _ _ (kq6 _ _ ?_); clear hR R; try clear kq6 kz6
    try simp only [go_sem]
    refine W_cond rfl (fun c2 => ?_) (fun c2 => ?_)
    · -- c2 true
      try simp only [nrm] at c2
      refine W_seq fun kz7 kq7 => ?_
      refine W_region [6, 7] fun R hR => ?_   -- r5
      simp only [go_sem]
      refine hR _ _ (kq7 _ _ ?_); clear hR R; try clear kq7 kz7
      try simp only [go_sem]
      refine W_ret ?_
      simp only [go_sem]
      refine ⟨.inr (by trivial), ?_⟩
      first | refine Fin_same hcl rfl (Wk_eq ?_ (by simp only [go_sem])) | refine Fin_self hcl rfl (Wk_eq ?_ (by simp only [go_sem]))
      try simp only [go_sem]
      all_goals
        simp [winsA, *]
    · -- c2 false
      try simp only [nrm] at c2
      refine W_seq fun kz8 kq8 => ?_
      refine W_region [25] fun R hR => ?_   -- r6
      simp only [go_sem]
      refine hR _ _ (kq8 _ _ ?_); clear hR R; try clear kq8 kz8
      try simp only [go_sem]
      refine W_cond rfl (fun c3 => ?_) (fun c3 => ?_)
      · -- c3 true
        try simp only [nrm] at c3
        refine W_seq fun kz9 kq9 => ?_
        refine W_region [6, 7] fun R hR => ?_   -- r7
        simp only [go_sem]
        refine hR _ _ (kq9 _ _ ?_); clear hR R; try clear kq9 kz9
        try simp only [go_sem]
        refine W_ret ?_
        simp only [go_sem]
        refine ⟨.inr (by trivial), ?_⟩
        first | refine Fin_same hcl rfl (Wk_eq ?_ (by simp only [go_sem])) | refine Fin_self hcl rfl (Wk_eq ?_ (by simp only [go_sem]))
        try simp only [go_sem]
        all_goals
          simp [winsA, *]
      · -- c3 false
        try simp only [nrm] at c3
        refine W_skip (kq3 _ _ ?_)
        refine W_seq fun kz10 kq10 => ?_
        refine W_region [6, 7] fun R hR => ?_   -- r8
        simp only [go_sem]
        refine hR _ _ (kq10 _ _ ?_); clear hR R; try clear kq10 kz10
        try simp only [go_sem]
        refine W_ret ?_
        simp only [go_sem]
        refine ⟨.inr (by trivial), ?_⟩
        first | refine Fin_same hcl rfl (Wk_eq ?_ (by simp only [go_sem])) | refine Fin_self hcl rfl (Wk_eq ?_ (by simp only [go_sem]))
        try simp only [go_sem]
        all_goals
          simp [winsA, *]
set_option maxHeartbeats 2000000 in
theorem tabE_pc (Y : YEnv) (σ : Sg) (s : Scale) (g : Night) (hs : s.Ok) (hg : g.Ok) (hE : knownE s g ≠ 0) :
    PC Try.prog Y 17 [scPV s, ngPV g] σ (.tuple [sds [], I (knownE s g)]) (σ) := by
  refine PC_of_W Try.func17 rfl (by kernel_rfl) Try.ntmps17 (by simp) fun hcl hca => ?_
  refine W_seq fun kz1 kq1 => ?_
  refine W_region [2, 3, 4, 5] fun R hR => ?_   -- r0
  simp only [go_sem]
  refine hR _ _ (kq1 _ _ ?_); clear hR R; try clear kq1 kz1
  try simp only [go_sem]
  refine W_seq fun kz2 kq2 => ?_
  refine W_region [2, 3, 4, 5, 6, 7] fun R hR => ?_   -- r1
  simp only [go_sem]
  refine GCall_of (knownOf_err Y _ s g hs hg hE) ?_   -- t14
  simp only [go_sem]
  refine hR _ _ (kq2 _ _ ?_); clear hR R; try clear kq2 kz2
  try simp only [go_sem]
  refine W_seq fun kz3 kq3 => ?_
  refine W_seq fun kz4 kq4 => ?_
  refine W_region [2, 3, 4, 5, 6, 7, 18] fun R hR => ?_   -- r2
  simp only [go_sem]
  refine hR _ _ (kq4 _ _ ?_); clear hR R; try clear kq4 kz4
  try simp only [go_sem]
  refine W_cond rfl (fun c1 => ?_) (fun c1 => ?_)
  · -- c1 true
    try simp only [nrm] at c1
    refine W_seq fun kz5 kq5 => ?_
    refine W_region [4, 5] fun R hR => ?_   -- r3
    simp only [go_sem]
    refine hR _ _ (kq5 _ _ ?_); clear hR R; try clear kq5 kz5
    try simp only [go_sem]
    refine W_ret ?_
    simp only [go_sem]
    refine ⟨.inr (by trivial), ?_⟩
    refine Fin_same hcl (by show resPV Try.prog _ _ [.cell 4 51, .cell 5 44] = some _; simp only [resPV, go_sem]; rfl) (Wk.ro (by simp only [go_sem]) ?_)
    try simp only [go_sem]
    all_goals
      first | rfl | (simp [PV.ro, PV.roL]; done)
  · -- c1 false
    try simp only [nrm] at c1
    exfalso
    first | exact hE (by omega) | (simp at c1; exact hE (by omega))
set_option maxHeartbeats 2000000 in
theorem tabS_pc (Y : YEnv) (σ : Sg) (s : Scale) (g : Night) (hs : s.Ok) (hg : g.Ok) (hE : knownE s g = 0) (hne0 : sealedK s (knownK s g) ≠ []) :
    PC Try.prog Y 17 [scPV s, ngPV g] σ (.tuple [sds [], I 11]) (σ) := by
  refine PC_of_W Try.func17 rfl (by kernel_rfl) Try.ntmps17 (by simp) fun hcl hca => ?_
  have hV := known_V hE
  obtain ⟨K, hK⟩ : ∃ z, knownK s g = z := ⟨_, rfl⟩
  rw [hK] at hV
  have hv := hV.v
  have q3 := hv.sc
  have q4 := hv.lo
  have q5 := hv.hi
  obtain ⟨N, hN⟩ : ∃ z : Nat, s.schools = z := ⟨s.schools.toNat, by omega⟩
  have hNi : (s.schools : Int) = (N : Int) := hN
  have hkn := fun Y σ => knownOf_ok Y σ s g hs hg hE
  rw [hK] at hkn
  have hne : sealedK s K ≠ [] := by rw [← hK]; exact hne0
  refine W_seq fun kz1 kq1 => ?_
  refine W_region [2, 3, 4, 5] fun R hR => ?_   -- r0
  simp only [go_sem]
  refine hR _ _ (kq1 _ _ ?_); clear hR R; try clear kq1 kz1
  try simp only [go_sem]
  refine W_seq fun kz2 kq2 => ?_
  refine W_region [2, 3, 4, 5, 6, 7] fun R hR => ?_   -- r1
  simp only [go_sem]
  refine GCall_of (hkn Y _) ?_   -- t14
  simp only [go_sem]
  refine hR _ _ (kq2 _ _ ?_); clear hR R; try clear kq2 kz2
  try simp only [go_sem]
  refine W_seq fun kz3 kq3 => ?_
  refine W_seq fun kz4 kq4 => ?_
  refine W_region [2, 3, 4, 5, 6, 7, 18] fun R hR => ?_   -- r2
  simp only [go_sem]
  refine hR _ _ (kq4 _ _ ?_); clear hR R; try clear kq4 kz4
  try simp only [go_sem]
  refine W_cond_false rfl ?_
  refine W_skip (kq3 _ _ ?_)
  refine W_seq fun kz5 kq5 => ?_
  refine W_seq fun kz6 kq6 => ?_
  refine W_region [2, 3, 4, 5, 6, 22] fun R hR => ?_   -- r4
  simp only [go_sem]
  refine GCall_of (sealed_pc Y _ (σ.store.length + 6) (by simp only [go_sem] <;> omega) s) ?_   -- t22
  simp only [go_sem]
  refine hR _ _ (kq6 _ _ ?_); clear hR R; try clear kq6 kz6
  try simp only [go_sem]
  refine W_block ?_
  have hLc : ∀ (z : Int) (n r yy : Nat), σ.store.length + 9 ≤ n → CleanLs n r yy [some (scCells s), some (ngCells g), some [.isl [] .exact], some [I z], some (scCells s), some (ngCells g), some (.mark :: knE K), some [.map (σ.store.length + 6)], some (scCells s)] := fun z n r yy h => by
    have c1 := cleans_ng (a := n) (b := r) (c := yy) g
    have c2 := cleans_sc (a := n) (b := r) (c := yy) s
    have c3 : CleanAll n r yy (knE K) := cA_kn.mpr trivial
    have c1' : CleanAll n r yy (ngCells g) := c1
    have c2' : CleanAll n r yy (scCells s) := c2
    simp only [CleanLs_cons, CleanLs_nil, CleanAll_cons, CleanAll_nil, Cl_map, Cl_mark, Cl_isl, OwnLt_exact, Cl_int, c1', c2', c3, true_and, and_true]
    omega
  refine W_rangeFunc (gf := 66) (v := .tuple []) (s := .done .ret) (σ5 := σ.ext [some (scCells s), some (ngCells g), some [.isl [] .exact], some [I 11], some (scCells s), some (ngCells g), some (.mark :: knE K), some [.map (σ.store.length + 6)], some (scCells s)] [] [.done .ret]) rfl (by simp) (fun args ρ b' ρ' => ∃ m n : Nat, args = [.agg [I m, I n]] ∧ b' = false ∧ ρ = (σ.ext [some (scCells s), some (ngCells g), some [.isl [] .exact], some [I 0], some (scCells s), some (ngCells g), some (.mark :: knE K), some [.map (σ.store.length + 6)], some (scCells s)] [] [.ready]).ext [some [.yield σ.ys.length], some (scCells s), some [I m, I n]] [] [.busy] ∧ ρ' = (σ.ext [some (scCells s), some (ngCells g), some [.isl [] .exact], some [I 11], some (scCells s), some (ngCells g), some (.mark :: knE K), some [.map (σ.store.length + 6)], some (scCells s)] [] [.done .ret]).ext [some [.yield σ.ys.length], some (scCells s), some [I m, I n]] [] [.busy]) ?_ ?_ ?_ ?_ ?_
  · rintro args τ b τ' ⟨m, n, rfl, rfl, rfl, rfl⟩
    refine ⟨rfl, ?_, ?_⟩
    · simp only [go_sem]
    · simp only [go_sem]
      refine W_skip ?_
      simp only [go_sem, putAll]
      skip
      refine W_post_weak ?_
      refine W_block ?_
      refine W_seq fun kz7 kq7 => ?_
      refine W_region [4, 5] fun R hR => ?_   -- r5
      simp only [go_sem, putAll]
      refine hR _ _ (kq7 _ _ ?_); clear hR R; try clear kq7 kz7
      try simp only [go_sem, putAll]
      refine W_ret ?_
      simp only [go_sem, putAll]
      refine ⟨[], _, Weak.keep [], ?_⟩
      simp only [RoundEnd, go_sem]
  · have hst := sealedB_pc (Y.at σ.ys.length (fun args ρ b' ρ' => ∃ m n : Nat, args = [.agg [I m, I n]] ∧ b' = false ∧ ρ = (σ.ext [some (scCells s), some (ngCells g), some [.isl [] .exact], some [I 0], some (scCells s), some (ngCells g), some (.mark :: knE K), some [.map (σ.store.length + 6)], some (scCells s)] [] [.ready]).ext [some [.yield σ.ys.length], some (scCells s), some [I m, I n]] [] [.busy] ∧ ρ' = (σ.ext [some (scCells s), some (ngCells g), some [.isl [] .exact], some [I 11], some (scCells s), some (ngCells g), some (.mark :: knE K), some [.map (σ.store.length + 6)], some (scCells s)] [] [.done .ret]).ext [some [.yield σ.ys.length], some (scCells s), some [I m, I n]] [] [.busy])) σ σ.ys.length (σ.store.length + 8) (σ.store.length + 7) (σ.store.length + 6) s hv K (σ.ext [some (scCells s), some (ngCells g), some [.isl [] .exact], some [I 0], some (scCells s), some (ngCells g), some (.mark :: knE K), some [.map (σ.store.length + 6)], some (scCells s)] [] [.ready]) (σ.ext [some (scCells s), some (ngCells g), some [.isl [] .exact], some [I 11], some (scCells s), some (ngCells g), some (.mark :: knE K), some [.map (σ.store.length + 6)], some (scCells s)] [] [.done .ret])
      (Sg.get_ext ..) (Sg.get_ext ..) (Sg.get_ext ..) (by simp only [go_sem]) (by simp only [go_sem]) (by simp only [go_sem]) (fun _ => CleanSg_ext hcl (hLc 11 _ _ _ (by simp only [go_sem] <;> omega))) hne
      (fun m n _ => by rw [YEnv.at_self]; exact ⟨m, n, rfl, rfl, rfl, rfl⟩)
    simp only [go_sem] at hst ⊢
    exact hst
  · simp only [go_sem]
  · simp only [go_sem]
    exact CleanCut_ext hcl (by first | omega | (simp only [go_sem] <;> omega)) (by first | omega | (simp only [go_sem] <;> omega)) (Nat.le_refl _) (hLc 11 _ _ _ (by first | omega | (simp only [go_sem] <;> omega)))
  · simp only [go_sem]
    simp only [AfterLoop]
    refine W_ret ?_
    simp only [go_sem]
    refine ⟨.inr (by trivial), ?_⟩
    refine Fin_same hcl (by show resPV Try.prog _ _ [.cell 4 51, .cell 5 44] = some _; simp only [resPV, go_sem]; rfl) (Wk.ro (by simp only [go_sem]) ?_)
    rfl
end Go.Proofs.Ytgelnjmddabgpaa
namespace Go.Proofs.Ytgelnjmddabgpaa
open Go Go.RowKit
set_option maxRecDepth 100000
theorem Weak.freezeS {N : Nat} {lo : Nat × Nat} {E : Env} {σ : Sg} {t : Nat} {A : List (Option (List PV))} {rm : List Nat} {ys : List LState} {out : List Stand} (ht : E.get t = glS (σ.store.length + A.length) out) (hne : out ≠ []) :
    Weak N lo E (σ.ext (A ++ gsS out) rm ys) (E.put (some t) (.isl (out.map sdPV) .ro)) (σ.ext (A ++ List.replicate out.length none) rm ys) := by
  cases out with
  | nil => exact absurd rfl hne
  | cons z zs =>
    have h := Weak.freeze (N := N) (lo := lo) (E := E) (σ := σ.ext (A ++ gsS (z :: zs)) rm ys) (t := t) (id := σ.store.length + (A.length + zs.length)) (len := zs.length + 1) (es := 3) (l := (z :: zs).map sdPV) (by rw [ht]; simp only [glS, Nat.add_assoc]) (by rw [Sg.get_ext]; exact gsS_get) (by simp) (fun q hq => by obtain ⟨x, _, rfl⟩ := List.mem_map.1 hq; rfl)
    rw [Sg.drop_ext, gsS_set] at h
    have e : List.replicate (z :: zs).length (none : Option (List PV)) = List.replicate zs.length none ++ [none] := by simp [List.replicate_succ']
    rw [e]
    exact h
set_option maxHeartbeats 4000000 in
theorem tabO_pc (Y : YEnv) (σ : Sg) (s : Scale) (g : Night) (hs : s.Ok) (hg : g.Ok) (hE : knownE s g = 0) (hne0 : sealedK s (knownK s g) = []) :
    PC Try.prog Y 17 [scPV s, ngPV g] σ (.tuple [sds (tblP s (knownK s g) g), I 0]) (σ) := by
  refine PC_of_W Try.func17 rfl (by kernel_rfl) Try.ntmps17 (by simp) fun hcl hca => ?_
  have hV := known_V hE
  obtain ⟨K, hK⟩ : ∃ z, knownK s g = z := ⟨_, rfl⟩
  rw [hK] at hV
  have hv := hV.v
  have q3 := hv.sc
  have q4 := hv.lo
  have q5 := hv.hi
  obtain ⟨N, hN⟩ : ∃ z : Nat, s.schools = z := ⟨s.schools.toNat, by omega⟩
  have hNi : (s.schools : Int) = (N : Int) := hN
  have hkn := fun Y σ => knownOf_ok Y σ s g hs hg hE
  rw [hK] at hkn
  have hne : sealedK s K = [] := by rw [← hK]; exact hne0
  have htb : tblP s (knownK s g) g = sortSd s.order (sdUp s K g N) := by rw [hK, tblP, hN, Int.toNat_natCast]
  rw [htb]
  have hol := hv.ol
  have q1 := hv.mt
  refine W_seq fun kz1 kq1 => ?_
  refine W_region [2, 3, 4, 5] fun R hR => ?_   -- r0
  simp only [go_sem]
  refine hR _ _ (kq1 _ _ ?_); clear hR R; try clear kq1 kz1
  try simp only [go_sem]
  refine W_seq fun kz2 kq2 => ?_
  refine W_region [2, 3, 4, 5, 6, 7] fun R hR => ?_   -- r1
  simp only [go_sem]
  refine GCall_of (hkn Y _) ?_   -- t14
  simp only [go_sem]
  refine hR _ _ (kq2 _ _ ?_); clear hR R; try clear kq2 kz2
  try simp only [go_sem]
  refine W_seq fun kz3 kq3 => ?_
  refine W_seq fun kz4 kq4 => ?_
  refine W_region [2, 3, 4, 5, 6, 7, 18] fun R hR => ?_   -- r2
  simp only [go_sem]
  refine hR _ _ (kq4 _ _ ?_); clear hR R; try clear kq4 kz4
  try simp only [go_sem]
  refine W_cond_false rfl ?_
  refine W_skip (kq3 _ _ ?_)
  refine W_seq fun kz5 kq5 => ?_
  refine W_seq fun kz6 kq6 => ?_
  refine W_region [2, 3, 4, 5, 6, 22] fun R hR => ?_   -- r4
  simp only [go_sem]
  refine GCall_of (sealed_pc Y _ (σ.store.length + 6) (by simp only [go_sem] <;> omega) s) ?_   -- t22
  simp only [go_sem]
  refine hR _ _ (kq6 _ _ ?_); clear hR R; try clear kq6 kz6
  try simp only [go_sem]
  refine W_block ?_
  have hLc : ∀ (z : Int) (n r yy : Nat), σ.store.length + 9 ≤ n → CleanLs n r yy [some (scCells s), some (ngCells g), some [.isl [] .exact], some [I z], some (scCells s), some (ngCells g), some (.mark :: knE K), some [.map (σ.store.length + 6)], some (scCells s)] := fun z n r yy h => by
    have c1 := cleans_ng (a := n) (b := r) (c := yy) g
    have c2 := cleans_sc (a := n) (b := r) (c := yy) s
    have c3 : CleanAll n r yy (knE K) := cA_kn.mpr trivial
    have c1' : CleanAll n r yy (ngCells g) := c1
    have c2' : CleanAll n r yy (scCells s) := c2
    simp only [CleanLs_cons, CleanLs_nil, CleanAll_cons, CleanAll_nil, Cl_map, Cl_mark, Cl_isl, OwnLt_exact, Cl_int, c1', c2', c3, true_and, and_true]
    omega
  refine W_rangeFunc (gf := 66) (v := .tuple []) (s := .ready) (σ5 := σ.ext [some (scCells s), some (ngCells g), some [.isl [] .exact], some [I 0], some (scCells s), some (ngCells g), some (.mark :: knE K), some [.map (σ.store.length + 6)], some (scCells s)] [] [.ready]) rfl (by simp) (fun _ _ _ _ => False) ?_ ?_ ?_ ?_ ?_
  · intro args τ b τ' h; exact h.elim
  · have hst := sealedA_pc (Y.at σ.ys.length (fun _ _ _ _ => False)) σ σ.ys.length (σ.store.length + 8) (σ.store.length + 7) (σ.store.length + 6) s hv K (fun _ => σ.ext [some (scCells s), some (ngCells g), some [.isl [] .exact], some [I 0], some (scCells s), some (ngCells g), some (.mark :: knE K), some [.map (σ.store.length + 6)], some (scCells s)] [] [.ready])
      (fun _ _ => Sg.get_ext ..) (fun _ _ => Sg.get_ext ..) (fun _ _ => Sg.get_ext ..) (fun _ _ => ⟨rfl, rfl, rfl⟩) (fun h _ _ => h)
      (fun c m n h => by rw [hne] at h; simp at h)
    simp only [go_sem] at hst ⊢
    exact hst
  · simp only [go_sem]
  · simp only [go_sem]
    exact CleanCut_ext hcl (by first | omega | (simp only [go_sem] <;> omega)) (by first | omega | (simp only [go_sem] <;> omega)) (Nat.le_refl _) (hLc 0 _ _ _ (by first | omega | (simp only [go_sem] <;> omega)))
  · simp only [AfterLoop, go_sem]
    refine kq5 _ _ ?_
    refine W_seq fun kz7 kq7 => ?_
    refine W_region [2, 3, 4, 5, 6, 8] fun R hR => ?_   -- r6
    simp only [go_sem]
    refine hR _ _ (kq7 _ _ ?_); clear hR R; try clear kq7 kz7
    try simp only [go_sem]
    refine W_seq fun kz8 kq8 => ?_
    refine W_seq fun kz9 kq9 => ?_
    refine W_region [2, 3, 4, 5, 6, 8, 25, 26] fun R hR => ?_   -- r7
    simp only [go_sem]
    refine hR _ _ (kq9 _ _ ?_); clear hR R; try clear kq9 kz9
    try simp only [go_sem]
    refine W_block ?_
    refine W_weak (Weak.gnil (t := 8) rfl) ?_
    refine W_weak (Weak.keep [2, 3, 4, 5, 6, 8, 25, 26]) ?_
    simp only [go_sem]
    refine W_loopT (α := Nat) (fun (i : Nat) => [(8, glS (σ.store.length + 9) (sdUp s K g i)), (26, I i)]) (fun (i : Nat) => σ.ext ([some (scCells s), some (ngCells g), some [.isl [] .exact], some [I 0], some (scCells s), some (ngCells g), some (.mark :: knE K), some [.map (σ.store.length + 6)], some (scCells s)] ++ gsS (sdUp s K g i)) []) (fun (i : Nat) => i ≤ N) (fun (i : Nat) => N - i) (0) rfl (by first | rfl | (simp only [go_sem]; done) | (simp only [go_sem]; rfl)) (Nat.zero_le _) ?_
    rintro i hi
    refine W_seq fun kz10 kq10 => ?_
    refine W_region [2, 3, 4, 5, 6, 8, 25, 26, 27] fun R hR => ?_   -- r8
    simp only [go_sem]
    refine hR _ _ (kq10 _ _ ?_); clear hR R; try clear kq10 kz10
    try simp only [go_sem]
    refine W_seq fun kz11 kq11 => ?_
    refine W_cond rfl (fun c1 => ?_) (fun c1 => ?_)
    · -- c1 true
      try simp only [nrm] at c1
      have hiN : i < N := by first | omega | (simp at c1; omega)
      have hsu := sdUp_succ s K g i
      have hsl : (sdUp s K g i).length = i := by simp [sdUp]
      have happ := appG_gs (σ := σ) (A := [some (scCells s), some (ngCells g), some [.isl [] .exact], some [I 0], some (scCells s), some (ngCells g), some (.mark :: knE K), some [.map (σ.store.length + 6)], some (scCells s)]) (rm := []) (ys := []) (out := sdUp s K g i) 40 (standK s K g i 0) (by omega)
      rw [← hsu] at happ
      simp only [go_sem, List.length_cons, List.length_nil] at happ
      refine W_skip (kq11 _ _ ?_)
      refine W_seq fun kz12 kq12 => ?_
      refine W_block ?_
      refine W_seq fun kz13 kq13 => ?_
      refine W_region [2, 3, 4, 5, 6, 8, 9, 25, 26] fun R hR => ?_   -- r9
      simp only [go_sem, happ]
      refine hR _ _ (kq13 _ _ ?_); clear hR R; try clear kq13 kz13
      try simp only [go_sem, happ]
      refine W_region [2, 3, 4, 5, 6, 8, 25, 26] fun R hR => ?_   -- r10
      simp only [go_sem, happ]
      refine GCall_of (standing_pc Y _ (σ.store.length + 6) K (Sg.get_ext ..) s g hV i (by omega) 0 (by omega)) ?_   -- t34
      simp only [go_sem, happ]
      try simp (disch := first | omega | (simp only [go_sem] <;> omega)) only [wrapI, wrapU, appX_exact, appX_tok]
      try simp only [go_sem, happ]
      refine hR _ _ (kq12 _ _ ?_); clear hR R; try clear kq12 kz12
      try simp only [go_sem, happ]
      refine W_region [2, 3, 4, 5, 6, 8, 25, 26] fun R hR => ?_   -- r11
      simp only [go_sem, happ]
      try simp (disch := omega) only [wrapI, wrapU]
      refine hR _ _ ?_; clear hR R
      try simp only [go_sem, happ]
      refine ⟨i + 1, ?_, by (try simp only []); omega, ?_⟩
      · exact Weak.refl
      · try dsimp only
        omega
    · -- c1 false
      try simp only [nrm] at c1
      have hie : N = i := by first | omega | (simp at c1; omega)
      subst hie
      have hsl : (sdUp s K g N).length = N := by simp [sdUp]
      have hCmp : ∀ a b, a ∈ sdUp s K g N → b ∈ sdUp s K g N → CmpOk s.order a b := fun a b ha hb => by
        obtain ⟨x, hx, rfl⟩ := List.mem_map.1 ha
        obtain ⟨y, hy, rfl⟩ := List.mem_map.1 hb
        have h1 := List.mem_range.1 hx
        have h2 := List.mem_range.1 hy
        exact cmp_ok hV (by omega) (by omega) (by omega) (by omega)
      refine W_exit ?_
      simp only [go_sem]
      refine kq8 _ _ ?_
      refine W_seq fun kz14 kq14 => ?_
      refine W_region [4, 5, 8, 10] fun R hR => ?_   -- r12
      simp only [go_sem]
      refine hR _ _ (kq14 _ _ ?_); clear hR R; try clear kq14 kz14
      try simp only [go_sem]
      refine W_seq fun kz15 kq15 => ?_
      refine W_region [4, 5, 8] fun R hR => ?_   -- r13
      simp only [go_sem]
      refine GCall_of (sort_gs Y σ [_, _, _, _, _, _, _, _, _] [] s.order (sdUp s K g N) hCmp (by omega) (by omega)) ?_   -- t44
      simp only [go_sem]
      refine hR _ _ (kq15 _ _ ?_); clear hR R; try clear kq15 kz15
      try simp only [go_sem]
      refine W_seq fun kz16 kq16 => ?_
      have hne3 : sortSd s.order (sdUp s K g N) ≠ [] := fun e => by
        have := sortSd_len s.order (sdUp s K g N)
        rw [e, hsl] at this
        simp at this; omega
      refine W_weak (Weak.freezeS (t := 8) (A := [_, _, _, _, _, _, _, _, _]) (out := sortSd s.order (sdUp s K g N)) (by rw [glS_sort]; rfl) hne3) ?_
      refine W_weak (Weak.keep [4, 5, 8]) ?_
      simp only [go_sem]
      refine W_region [4, 5] fun R hR => ?_   -- r14
      simp only [go_sem]
      refine hR _ _ (kq16 _ _ ?_); clear hR R; try clear kq16 kz16
      try simp only [go_sem]
      refine W_ret ?_
      simp only [go_sem]
      refine ⟨.inr (by trivial), ?_⟩
      refine Fin_same hcl (by show resPV Try.prog _ _ [.cell 4 51, .cell 5 44] = some _; simp only [resPV, go_sem]; rfl) (Wk.ro (by simp only [go_sem]) ?_)
      try simp only [go_sem]
      all_goals
        first | rfl | simp only [go_sem]
theorem Table_pc (Y : YEnv) (σ : Sg) (s : Scale) (g : Night) (hs : s.Ok) (hg : g.Ok) : PC Try.prog Y 17 [scPV s, ngPV g] σ (.tuple [sds (tableP s g).1, I (tableP s g).2]) σ := by
  unfold tableP
  by_cases h : knownE s g = 0
  · rw [if_neg (by simpa using h)]
    by_cases h2 : sealedK s (knownK s g) = []
    · rw [if_neg (by simpa using h2)]; exact tabO_pc Y σ s g hs hg h h2
    · rw [if_pos h2]; exact tabS_pc Y σ s g hs hg h h2
  · rw [if_pos h]; exact tabE_pc Y σ s g hs hg h
end Go.Proofs.Ytgelnjmddabgpaa
namespace Go.Proofs.Ytgelnjmddabgpaa
open Go Go.RowKit
set_option maxRecDepth 100000
def insI (x : Int) : List Int → List Int
  | [] => [x]
  | y :: l => if x ≤ y then x :: y :: l else y :: insI x l
def isortI : List Int → List Int
  | [] => []
  | x :: l => insI x (isortI l)
theorem sorted_sortI (l : List Int) : (sortI l).Pairwise (· ≤ ·) := by
  have h := List.pairwise_mergeSort (le := fun (a b : Int) => decide (a ≤ b)) (by intro a b c h1 h2; simp at *; omega) (by intro a b; simp; omega) l
  exact h.imp fun h => by simpa using h
theorem perm_sortI (l : List Int) : (sortI l).Perm l := List.mergeSort_perm l _
theorem insI_perm (x : Int) : ∀ l : List Int, (insI x l).Perm (x :: l) := by
  intro l
  induction l with
  | nil => exact .refl _
  | cons y l ih =>
    simp only [insI]
    split
    · exact .refl _
    · exact (ih.cons y).trans (.swap x y l)
theorem insI_sorted (x : Int) : ∀ {l : List Int}, l.Pairwise (· ≤ ·) → (insI x l).Pairwise (· ≤ ·) := by
  intro l
  induction l with
  | nil => intro _; simp [insI]
  | cons y l ih =>
    intro h
    obtain ⟨h1, h2⟩ := List.pairwise_cons.1 h
    simp only [insI]
    split
    · rename_i hxy
      exact List.pairwise_cons.2 ⟨fun z hz => by rcases List.mem_cons.1 hz with rfl | hz; exact hxy; exact Int.le_trans hxy (h1 z hz), h⟩
    · rename_i hxy
      refine List.pairwise_cons.2 ⟨fun z hz => ?_, ih h2⟩
      rcases List.mem_cons.1 ((insI_perm x l).mem_iff.1 hz) with rfl | hz
      · omega
      · exact h1 z hz
theorem isortI_perm : ∀ l : List Int, (isortI l).Perm l := by
  intro l
  induction l with
  | nil => exact .refl _
  | cons x l ih => exact (insI_perm x _).trans (ih.cons x)
theorem isortI_sorted : ∀ l : List Int, (isortI l).Pairwise (· ≤ ·) := by
  intro l
  induction l with
  | nil => exact .nil
  | cons x l ih => exact insI_sorted x ih
theorem sorted_unique : ∀ {l m : List Int}, l.Perm m → l.Pairwise (· ≤ ·) → m.Pairwise (· ≤ ·) → l = m := by
  intro l
  induction l with
  | nil => intro m h _ _; exact h.nil_eq
  | cons x l ih =>
    intro m h h1 h2
    obtain ⟨a1, a2⟩ := List.pairwise_cons.1 h1
    cases m with
    | nil => exact absurd h.length_eq (by simp)
    | cons y m =>
      obtain ⟨b1, b2⟩ := List.pairwise_cons.1 h2
      have e : x = y := by
        have hx : x ∈ y :: m := h.mem_iff.1 (by simp)
        have hy : y ∈ x :: l := h.mem_iff.2 (by simp)
        rcases List.mem_cons.1 hx with e | hx
        · exact e
        · rcases List.mem_cons.1 hy with e | hy
          · exact e.symm
          · have := b1 x hx; have := a1 y hy; omega
      subst e
      rw [ih ((List.perm_cons x).1 h) a2 b2]
theorem sortI_eq : sortI = isortI := by
  funext l
  exact sorted_unique ((perm_sortI l).trans (isortI_perm l).symm) (sorted_sortI l) (isortI_sorted l)
def exScale : Scale := ⟨3, 2, 3, 1, 50, 100, [1, 0]⟩
def exNight : Night := ⟨[⟨0, 0, [100, 90, 80], 633⟩, ⟨0, 1, [90, 100, 80], 655⟩, ⟨0, 2, [95, 95, 95], 707⟩, ⟨1, 0, [80, 90, 100], 774⟩, ⟨1, 1, [100, 70, 90], 736⟩], [(1, 2)], [(2, 5)]⟩
def exBefore : Night := ⟨[⟨0, 0, [100, 90, 80], 633⟩, ⟨0, 1, [90, 100, 80], 655⟩, ⟨0, 2, [95, 95, 95], 707⟩, ⟨1, 0, [80, 90, 100], 774⟩], [(1, 2)], [(2, 5)]⟩
theorem exTable : tableP exScale exNight = ([⟨0, 385, [195, 190]⟩, ⟨2, 365, [175, 195]⟩, ⟨1, 365, [195, 170]⟩], 0) := by
  simp only [tableP, tblP, sdUp, standK, pointsL, pointsK, sortI_eq]
  decide +kernel
theorem exTotals : totalsA exScale exBefore = ([(340, 385), (355, 390), (345, 370)], 0) := by
  simp only [totalsA, standK, pointsL, pointsK, sortI_eq]
  decide +kernel
theorem exPlace : placeA exScale exBefore 0 = ((1, 3), 0) := by
  simp only [placeA, placeK, standK, pointsL, pointsK, sortI_eq]
  decide +kernel
theorem exScale_ok : exScale.Ok := ⟨by decide⟩
theorem exNight_ok : exNight.Ok := ⟨by decide, by decide, by decide, by decide⟩
theorem exBefore_ok : exBefore.Ok := ⟨by decide, by decide, by decide, by decide⟩
set_option maxHeartbeats 2000000 in
theorem EqInts_pc (Y : YEnv) (σ : Sg) (xs ys : List Int) (o o2 : Own) (hx : xs.length < 2 ^ 50) :
    PC Try.prog Y 31 [.isl (xs.map I) o, .isl (ys.map I) o2] σ (.bool (decide (xs = ys))) (σ) := by
  refine PC_of_W Try.func31 rfl (by kernel_rfl) Try.ntmps31 (by simp) fun hcl hca => ?_
  refine W_seq fun kz1 kq1 => ?_
  refine W_region [0, 1] fun R hR => ?_   -- r0
  simp only [go_sem]
  refine hR _ _ (kq1 _ _ ?_); clear hR R; try clear kq1 kz1
  try simp only [go_sem]
  refine W_seq fun kz2 kq2 => ?_
  refine W_seq fun kz3 kq3 => ?_
  refine W_region [0, 1, 10] fun R hR => ?_   -- r1
  simp only [go_sem]
  refine hR _ _ (kq3 _ _ ?_); clear hR R; try clear kq3 kz3
  try simp only [go_sem]
  refine W_cond rfl (fun c1 => ?_) (fun c1 => ?_)
  · -- c1 true
    try simp only [nrm] at c1
    refine W_seq fun kz4 kq4 => ?_
    refine W_region [4] fun R hR => ?_   -- r2
    simp only [go_sem]
    refine hR _ _ (kq4 _ _ ?_); clear hR R; try clear kq4 kz4
    try simp only [go_sem]
    refine W_ret ?_
    simp only [go_sem]
    refine ⟨.inr (by trivial), ?_⟩
    first | refine Fin_same hcl rfl (Wk_eq ?_ (by simp only [go_sem])) | refine Fin_self hcl rfl (Wk_eq ?_ (by simp only [go_sem]))
    try simp only [go_sem]
    all_goals
      simp; intro h; subst h; exact c1 rfl
  · -- c1 false
    try simp only [nrm] at c1
    refine W_skip (kq2 _ _ ?_)
    refine W_seq fun kz5 kq5 => ?_
    refine W_seq fun kz6 kq6 => ?_
    refine W_region [0, 1, 5] fun R hR => ?_   -- r3
    simp only [go_sem]
    refine hR _ _ (kq6 _ _ ?_); clear hR R; try clear kq6 kz6
    try simp only [go_sem]
    refine W_block ?_
    refine W_loopS (α := Nat) (fun (i : Nat) => [(5, I i)]) (fun (i : Nat) => i ≤ xs.length ∧ xs.take i = ys.take i) (fun (i : Nat) => xs.length - i) (0) rfl (⟨Nat.zero_le _, rfl⟩) ?_
    rintro i ⟨hi, ht⟩
    refine W_seq fun kz7 kq7 => ?_
    refine W_seq fun kz8 kq8 => ?_
    refine W_region [0, 1, 5, 14] fun R hR => ?_   -- r4
    simp only [go_sem]
    refine hR _ _ (kq8 _ _ ?_); clear hR R; try clear kq8 kz8
    try simp only [go_sem]
    refine W_cond rfl (fun c2 => ?_) (fun c2 => ?_)
    · -- c2 true
      try simp only [nrm] at c2
      have hi' : i < xs.length := by first | assumption | omega
      obtain ⟨x, hxi⟩ : ∃ x, xs[i]? = some x := ⟨xs[i], by simp⟩
      obtain ⟨y, hyi⟩ : ∃ y, ys[i]? = some y := ⟨ys[i]'(by omega), by simp⟩
      refine W_skip (kq7 _ _ ?_)
      refine W_seq fun kz9 kq9 => ?_
      refine W_block ?_
      refine W_seq fun kz10 kq10 => ?_
      refine W_draw [0, 1, 5, 25] [0, 1, 2, 3, 4, 5, 6, 7, 8] [] [[], [], [0, 1], [0, 1, 2], [], [], [4, 5], [4, 5, 6], [0, 1, 2, 3, 4, 5, 6, 7]] mixed (by kernel_rfl) fun R hR => ?_   -- r6
      simp only [go_sem, hxi, hyi]
      try refine And.intro (by repeat' (first | refine And.intro ?_ ?_ | exact GOr_right (fun _ => by simp only [go_sem, hxi, hyi]))) ?_
      refine hR _ _ (kq10 _ _ ?_); clear hR R; try clear kq10 kz10
      try simp only [go_sem, hxi, hyi]
      refine W_cond rfl (fun c3 => ?_) (fun c3 => ?_)
      · -- c3 true
        try simp only [nrm] at c3
        refine W_seq fun kz11 kq11 => ?_
        refine W_region [4] fun R hR => ?_   -- r7
        simp only [go_sem, hxi, hyi]
        refine hR _ _ (kq11 _ _ ?_); clear hR R; try clear kq11 kz11
        try simp only [go_sem, hxi, hyi]
        refine W_ret ?_
        simp only [go_sem, hxi, hyi]
        refine ⟨.inr (by trivial), ?_⟩
        first | refine Fin_same hcl rfl (Wk_eq ?_ (by simp only [go_sem])) | refine Fin_self hcl rfl (Wk_eq ?_ (by simp only [go_sem]))
        try simp only [go_sem]
        all_goals
          simp; intro h; subst h; rw [hxi] at hyi; injection hyi with h; exact c3 h
      · -- c3 false
        try simp only [nrm] at c3
        refine W_skip (kq9 _ _ ?_)
        refine W_region [0, 1, 5] fun R hR => ?_   -- r5
        simp only [go_sem, hxi, hyi]
        try simp (disch := omega) only [wrapI, wrapU]
        refine hR _ _ ?_; clear hR R
        try simp only [go_sem, hxi, hyi]
        refine ⟨i + 1, ?_, by (try simp only []); omega, ?_⟩
        · first | exact Weak.refl | exact Weak.eq (by first | rfl | (simp only [go_sem]; done) | (simp only [go_sem]; rfl) | (simp [go_sem]; done) | (simp [go_sem] <;> omega)) (by first | rfl | (simp only [go_sem]; done) | (simp [go_sem]; done))
        · try dsimp only
          refine ⟨hi', ?_⟩
          rw [List.take_add_one, List.take_add_one, ht, hxi, hyi, c3]
    · -- c2 false
      try simp only [nrm] at c2
      have hie : i = xs.length := by omega
      subst hie
      have hxy : xs = ys := by rw [List.take_length] at ht; rw [c1, List.take_length] at ht; exact ht
      refine W_exit ?_
      simp only [go_sem]
      refine kq5 _ _ ?_
      refine W_seq fun kz12 kq12 => ?_
      refine W_region [4] fun R hR => ?_   -- r8
      simp only [go_sem]
      refine hR _ _ (kq12 _ _ ?_); clear hR R; try clear kq12 kz12
      try simp only [go_sem]
      refine W_ret ?_
      simp only [go_sem]
      refine ⟨.inr (by trivial), ?_⟩
      first | refine Fin_same hcl rfl (Wk_eq ?_ (by simp only [go_sem])) | refine Fin_self hcl rfl (Wk_eq ?_ (by simp only [go_sem]))
      try simp only [go_sem]
      all_goals
        simp [hxy]
theorem eqSp {a b c d : Int} : eqPV Try.prog 48 (.agg [.int .i64 a, .int .i64 b]) (.agg [.int .i64 c, .int .i64 d]) = some (decide ((a, b) = (c, d))) := by
  rw [eqs48]
  refine congrArg some ?_
  rw [Bool.eq_iff_iff]
  simp
attribute [go_sem high] eqSp
set_option maxHeartbeats 2000000 in
theorem EqSpans_pc (Y : YEnv) (σ : Sg) (xs ys : List (Int × Int)) (o o2 : Own) (hx : xs.length < 2 ^ 50) :
    PC Try.prog Y 18 [.isl (xs.map stPV) o, .isl (ys.map stPV) o2] σ (.bool (decide (xs = ys))) (σ) := by
  refine PC_of_W Try.func18 rfl (by kernel_rfl) Try.ntmps18 (by simp) fun hcl hca => ?_
  refine W_seq fun kz1 kq1 => ?_
  refine W_region [0, 1] fun R hR => ?_   -- r0
  simp only [go_sem]
  refine hR _ _ (kq1 _ _ ?_); clear hR R; try clear kq1 kz1
  try simp only [go_sem]
  refine W_seq fun kz2 kq2 => ?_
  refine W_seq fun kz3 kq3 => ?_
  refine W_region [0, 1, 10] fun R hR => ?_   -- r1
  simp only [go_sem]
  refine hR _ _ (kq3 _ _ ?_); clear hR R; try clear kq3 kz3
  try simp only [go_sem]
  refine W_cond rfl (fun c1 => ?_) (fun c1 => ?_)
  · -- c1 true
    try simp only [nrm] at c1
    refine W_seq fun kz4 kq4 => ?_
    refine W_region [4] fun R hR => ?_   -- r2
    simp only [go_sem]
    refine hR _ _ (kq4 _ _ ?_); clear hR R; try clear kq4 kz4
    try simp only [go_sem]
    refine W_ret ?_
    simp only [go_sem]
    refine ⟨.inr (by trivial), ?_⟩
    first | refine Fin_same hcl rfl (Wk_eq ?_ (by simp only [go_sem])) | refine Fin_self hcl rfl (Wk_eq ?_ (by simp only [go_sem]))
    try simp only [go_sem]
    all_goals
      simp; intro h; subst h; exact c1 rfl
  · -- c1 false
    try simp only [nrm] at c1
    refine W_skip (kq2 _ _ ?_)
    refine W_seq fun kz5 kq5 => ?_
    refine W_seq fun kz6 kq6 => ?_
    refine W_region [0, 1, 5] fun R hR => ?_   -- r3
    simp only [go_sem]
    refine hR _ _ (kq6 _ _ ?_); clear hR R; try clear kq6 kz6
    try simp only [go_sem]
    refine W_block ?_
    refine W_loopS (α := Nat) (fun (i : Nat) => [(5, I i)]) (fun (i : Nat) => i ≤ xs.length ∧ xs.take i = ys.take i) (fun (i : Nat) => xs.length - i) (0) rfl (⟨Nat.zero_le _, rfl⟩) ?_
    rintro i ⟨hi, ht⟩
    refine W_seq fun kz7 kq7 => ?_
    refine W_seq fun kz8 kq8 => ?_
    refine W_region [0, 1, 5, 14] fun R hR => ?_   -- r4
    simp only [go_sem]
    refine hR _ _ (kq8 _ _ ?_); clear hR R; try clear kq8 kz8
    try simp only [go_sem]
    refine W_cond rfl (fun c2 => ?_) (fun c2 => ?_)
    · -- c2 true
      try simp only [nrm] at c2
      have hi' : i < xs.length := by first | assumption | omega
      obtain ⟨x, hxi⟩ : ∃ x, xs[i]? = some x := ⟨xs[i], by simp⟩
      obtain ⟨y, hyi⟩ : ∃ y, ys[i]? = some y := ⟨ys[i]'(by omega), by simp⟩
      refine W_skip (kq7 _ _ ?_)
      refine W_seq fun kz9 kq9 => ?_
      refine W_block ?_
      refine W_seq fun kz10 kq10 => ?_
      refine W_draw [0, 1, 5, 25] [0, 1, 2, 3, 4, 5, 6, 7, 8] [] [[], [], [0, 1], [0, 1, 2], [], [], [4, 5], [4, 5, 6], [0, 1, 2, 3, 4, 5, 6, 7]] mixed (by kernel_rfl) fun R hR => ?_   -- r6
      simp only [go_sem, hxi, hyi]
      try refine And.intro (by repeat' (first | refine And.intro ?_ ?_ | exact GOr_right (fun _ => by simp only [go_sem, hxi, hyi]))) ?_
      refine hR _ _ (kq10 _ _ ?_); clear hR R; try clear kq10 kz10
      try simp only [go_sem, hxi, hyi]
      refine W_cond rfl (fun c3 => ?_) (fun c3 => ?_)
      · -- c3 true
        try simp only [nrm] at c3
        refine W_seq fun kz11 kq11 => ?_
        refine W_region [4] fun R hR => ?_   -- r7
        simp only [go_sem, hxi, hyi]
        refine hR _ _ (kq11 _ _ ?_); clear hR R; try clear kq11 kz11
        try simp only [go_sem, hxi, hyi]
        refine W_ret ?_
        simp only [go_sem, hxi, hyi]
        refine ⟨.inr (by trivial), ?_⟩
        first | refine Fin_same hcl rfl (Wk_eq ?_ (by simp only [go_sem])) | refine Fin_self hcl rfl (Wk_eq ?_ (by simp only [go_sem]))
        try simp only [go_sem]
        all_goals
          simp; intro h; subst h; rw [hxi] at hyi; injection hyi with h; subst h; simp at c3
      · -- c3 false
        try simp only [nrm] at c3
        refine W_skip (kq9 _ _ ?_)
        refine W_region [0, 1, 5] fun R hR => ?_   -- r5
        simp only [go_sem, hxi, hyi]
        try simp (disch := omega) only [wrapI, wrapU]
        refine hR _ _ ?_; clear hR R
        try simp only [go_sem, hxi, hyi]
        refine ⟨i + 1, ?_, by (try simp only []); omega, ?_⟩
        · first | exact Weak.refl | exact Weak.eq (by first | rfl | (simp only [go_sem]; done) | (simp only [go_sem]; rfl) | (simp [go_sem]; done) | (simp [go_sem] <;> omega)) (by first | rfl | (simp only [go_sem]; done) | (simp [go_sem]; done))
        · try dsimp only
          refine ⟨hi', ?_⟩
          rw [List.take_add_one, List.take_add_one, ht, hxi, hyi, show x = y by obtain ⟨a, b⟩ := x; obtain ⟨c, d⟩ := y; simpa using c3]
    · -- c2 false
      try simp only [nrm] at c2
      have hie : i = xs.length := by omega
      subst hie
      have hxy : xs = ys := by rw [List.take_length] at ht; rw [c1, List.take_length] at ht; exact ht
      refine W_exit ?_
      simp only [go_sem]
      refine kq5 _ _ ?_
      refine W_seq fun kz12 kq12 => ?_
      refine W_region [4] fun R hR => ?_   -- r8
      simp only [go_sem]
      refine hR _ _ (kq12 _ _ ?_); clear hR R; try clear kq12 kz12
      try simp only [go_sem]
      refine W_ret ?_
      simp only [go_sem]
      refine ⟨.inr (by trivial), ?_⟩
      first | refine Fin_same hcl rfl (Wk_eq ?_ (by simp only [go_sem])) | refine Fin_self hcl rfl (Wk_eq ?_ (by simp only [go_sem]))
      try simp only [go_sem]
      all_goals
        simp [hxy]
set_option maxHeartbeats 2000000 in
theorem EqTables_pc (Y : YEnv) (σ : Sg) (xs ys : List Stand) (o o2 : Own) (hx : xs.length < 2 ^ 50) (hy : ∀ x, x ∈ xs → x.points.length < 2 ^ 40) :
    PC Try.prog Y 19 [.isl (xs.map sdPV) o, .isl (ys.map sdPV) o2] σ (.bool (decide (xs = ys))) (σ) := by
  refine PC_of_W Try.func19 rfl (by kernel_rfl) Try.ntmps19 (by simp) fun hcl hca => ?_
  refine W_seq fun kz1 kq1 => ?_
  refine W_region [0, 1] fun R hR => ?_   -- r0
  simp only [go_sem]
  refine hR _ _ (kq1 _ _ ?_); clear hR R; try clear kq1 kz1
  try simp only [go_sem]
  refine W_seq fun kz2 kq2 => ?_
  refine W_seq fun kz3 kq3 => ?_
  refine W_region [0, 1, 10] fun R hR => ?_   -- r1
  simp only [go_sem]
  refine hR _ _ (kq3 _ _ ?_); clear hR R; try clear kq3 kz3
  try simp only [go_sem]
  refine W_cond rfl (fun c1 => ?_) (fun c1 => ?_)
  · -- c1 true
    try simp only [nrm] at c1
    refine W_seq fun kz4 kq4 => ?_
    refine W_region [4] fun R hR => ?_   -- r2
    simp only [go_sem]
    refine hR _ _ (kq4 _ _ ?_); clear hR R; try clear kq4 kz4
    try simp only [go_sem]
    refine W_ret ?_
    simp only [go_sem]
    refine ⟨.inr (by trivial), ?_⟩
    first | refine Fin_same hcl rfl (Wk_eq ?_ (by simp only [go_sem])) | refine Fin_self hcl rfl (Wk_eq ?_ (by simp only [go_sem]))
    try simp only [go_sem]
    all_goals
      simp; intro h; subst h; exact c1 rfl
  · -- c1 false
    try simp only [nrm] at c1
    refine W_skip (kq2 _ _ ?_)
    refine W_seq fun kz5 kq5 => ?_
    refine W_seq fun kz6 kq6 => ?_
    refine W_region [0, 1, 5] fun R hR => ?_   -- r3
    simp only [go_sem]
    refine hR _ _ (kq6 _ _ ?_); clear hR R; try clear kq6 kz6
    try simp only [go_sem]
    refine W_block ?_
    refine W_loopS (α := Nat) (fun (i : Nat) => [(5, I i)]) (fun (i : Nat) => i ≤ xs.length ∧ xs.take i = ys.take i) (fun (i : Nat) => xs.length - i) (0) rfl (⟨Nat.zero_le _, rfl⟩) ?_
    rintro i ⟨hi, ht⟩
    refine W_seq fun kz7 kq7 => ?_
    refine W_seq fun kz8 kq8 => ?_
    refine W_region [0, 1, 5, 14] fun R hR => ?_   -- r4
    simp only [go_sem]
    refine hR _ _ (kq8 _ _ ?_); clear hR R; try clear kq8 kz8
    try simp only [go_sem]
    refine W_cond rfl (fun c2 => ?_) (fun c2 => ?_)
    · -- c2 true
      try simp only [nrm] at c2
      have hi' : i < xs.length := by first | assumption | omega
      obtain ⟨x, hxi⟩ : ∃ x, xs[i]? = some x := ⟨xs[i], by simp⟩
      obtain ⟨y, hyi⟩ : ∃ y, ys[i]? = some y := ⟨ys[i]'(by omega), by simp⟩
      refine W_skip (kq7 _ _ ?_)
      refine W_seq fun kz9 kq9 => ?_
      refine W_block ?_
      refine W_seq fun kz10 kq10 => ?_
      refine W_draw [0, 1, 5, 54] [0, 1, 2, 3, 4, 5, 6, 7, 8, 9, 10, 11, 12, 13, 14, 15, 16, 17, 18, 19, 20, 21, 22, 23, 24, 25, 26, 27, 28, 29, 30, 31, 32, 33, 34, 35, 36, 37] [] [[], [], [0, 1], [0, 1, 2], [0, 1, 2, 3], [], [], [5, 6], [5, 6, 7], [5, 6, 7, 8], [0, 1, 2, 3, 4, 5, 6, 7, 8, 9], [0, 1, 2, 3, 4, 5, 6, 7, 8, 9, 10], [0, 1, 2, 3, 4, 5, 6, 7, 8, 9, 10, 11], [0, 1, 2, 3, 4, 5, 6, 7, 8, 9, 10, 11], [0, 1, 2, 3, 4, 5, 6, 7, 8, 9, 10, 11, 12, 13], [0, 1, 2, 3, 4, 5, 6, 7, 8, 9, 10, 11, 12, 13, 14], [0, 1, 2, 3, 4, 5, 6, 7, 8, 9, 10, 11, 12, 13, 14, 15], [0, 1, 2, 3, 4, 5, 6, 7, 8, 9, 10, 11], [0, 1, 2, 3, 4, 5, 6, 7, 8, 9, 10, 11], [0, 1, 2, 3, 4, 5, 6, 7, 8, 9, 10, 11, 17, 18], [0, 1, 2, 3, 4, 5, 6, 7, 8, 9, 10, 11, 17, 18, 19], [0, 1, 2, 3, 4, 5, 6, 7, 8, 9, 10, 11, 17, 18, 19, 20], [0, 1, 2, 3, 4, 5, 6, 7, 8, 9, 10, 11, 12, 13, 14, 15, 16, 17, 18, 19, 20, 21], [0, 1, 2, 3, 4, 5, 6, 7, 8, 9, 10, 11, 12, 13, 14, 15, 16, 17, 18, 19, 20, 21, 22], [0, 1, 2, 3, 4, 5, 6, 7, 8, 9, 10, 11, 12, 13, 14, 15, 16, 17, 18, 19, 20, 21, 22, 23], [0, 1, 2, 3, 4, 5, 6, 7, 8, 9, 10, 11, 12, 13, 14, 15, 16, 17, 18, 19, 20, 21, 22, 23, 24], [0, 1, 2, 3, 4, 5, 6, 7, 8, 9, 10, 11, 12, 13, 14, 15, 16, 17, 18, 19, 20, 21, 22, 23, 24], [0, 1, 2, 3, 4, 5, 6, 7, 8, 9, 10, 11, 12, 13, 14, 15, 16, 17, 18, 19, 20, 21, 22, 23, 24, 25, 26], [0, 1, 2, 3, 4, 5, 6, 7, 8, 9, 10, 11, 12, 13, 14, 15, 16, 17, 18, 19, 20, 21, 22, 23, 24, 25, 26, 27], [0, 1, 2, 3, 4, 5, 6, 7, 8, 9, 10, 11, 12, 13, 14, 15, 16, 17, 18, 19, 20, 21, 22, 23, 24, 25, 26, 27, 28], [0, 1, 2, 3, 4, 5, 6, 7, 8, 9, 10, 11, 12, 13, 14, 15, 16, 17, 18, 19, 20, 21, 22, 23, 24], [0, 1, 2, 3, 4, 5, 6, 7, 8, 9, 10, 11, 12, 13, 14, 15, 16, 17, 18, 19, 20, 21, 22, 23, 24], [0, 1, 2, 3, 4, 5, 6, 7, 8, 9, 10, 11, 12, 13, 14, 15, 16, 17, 18, 19, 20, 21, 22, 23, 24, 30, 31], [0, 1, 2, 3, 4, 5, 6, 7, 8, 9, 10, 11, 12, 13, 14, 15, 16, 17, 18, 19, 20, 21, 22, 23, 24, 30, 31, 32], [0, 1, 2, 3, 4, 5, 6, 7, 8, 9, 10, 11, 12, 13, 14, 15, 16, 17, 18, 19, 20, 21, 22, 23, 24, 30, 31, 32, 33], [0, 1, 2, 3, 4, 5, 6, 7, 8, 9, 10, 11, 12, 13, 14, 15, 16, 17, 18, 19, 20, 21, 22, 23, 24, 25, 26, 27, 28, 29, 30, 31, 32, 33, 34], [0, 1, 2, 3, 4, 5, 6, 7, 8, 9, 10, 11, 12, 13, 14, 15, 16, 17, 18, 19, 20, 21, 22, 23, 24, 25, 26, 27, 28, 29, 30, 31, 32, 33, 34, 35], [0, 1, 2, 3, 4, 5, 6, 7, 8, 9, 10, 11, 12, 13, 14, 15, 16, 17, 18, 19, 20, 21, 22, 23, 24, 25, 26, 27, 28, 29, 30, 31, 32, 33, 34, 35, 36]] mixed (by kernel_rfl) fun R hR => ?_   -- r6
      simp only [go_sem, hxi, hyi]
      refine GWant_split (fun g1 => ?_) (fun g1 => ?_)
      · try simp only [Bool.not_eq_true', Bool.not_eq_false'] at g1
        have n1 := g1; try simp only [nrm] at n1
        simp only [go_sem, hxi, hyi, g1]
        refine GWant_split (fun g2 => ?_) (fun g2 => ?_)
        · try simp only [Bool.not_eq_true', Bool.not_eq_false'] at g2
          have n2 := g2; try simp only [nrm] at n2
          simp only [go_sem, hxi, hyi, g1, g2]
          refine GCall_of (EqInts_pc Y _ x.points y.points .ro .ro (by have := hy x (List.mem_of_getElem? hxi); omega)) ?_   -- t52
          simp only [go_sem, hxi, hyi, g1, g2]
          try refine And.intro (by repeat' (first | refine And.intro ?_ ?_ | exact GOr_right (fun _ => by simp only [go_sem, hxi, hyi]))) ?_
          refine hR _ _ (kq10 _ _ ?_); clear hR R; try clear kq10 kz10
          try simp only [go_sem, hxi, hyi]
          refine W_cond rfl (fun c3 => ?_) (fun c3 => ?_)
          · -- c3 true
            try simp only [nrm] at c3
            refine W_seq fun kz11 kq11 => ?_
            refine W_region [4] fun R hR => ?_   -- r7
            simp only [go_sem, hxi, hyi]
            refine hR _ _ (kq11 _ _ ?_); clear hR R; try clear kq11 kz11
            try simp only [go_sem, hxi, hyi]
            refine W_ret ?_
            simp only [go_sem, hxi, hyi]
            refine ⟨.inr (by trivial), ?_⟩
            first | refine Fin_same hcl rfl (Wk_eq ?_ (by simp only [go_sem])) | refine Fin_self hcl rfl (Wk_eq ?_ (by simp only [go_sem]))
            try simp only [go_sem]
            all_goals
              simp; intro h; subst h; rw [hxi] at hyi; injection hyi with h; subst h; simp_all
          · -- c3 false
            try simp only [nrm] at c3
            refine W_skip (kq9 _ _ ?_)
            refine W_region [0, 1, 5] fun R hR => ?_   -- r5
            simp only [go_sem, hxi, hyi]
            try simp (disch := omega) only [wrapI, wrapU]
            refine hR _ _ ?_; clear hR R
            try simp only [go_sem, hxi, hyi]
            refine ⟨i + 1, ?_, by (try simp only []); omega, ?_⟩
            · first | exact Weak.refl | exact Weak.eq (by first | rfl | (simp only [go_sem]; done) | (simp only [go_sem]; rfl) | (simp [go_sem]; done) | (simp [go_sem] <;> omega)) (by first | rfl | (simp only [go_sem]; done) | (simp [go_sem]; done))
            · try dsimp only
              refine ⟨hi', ?_⟩
              rw [List.take_add_one, List.take_add_one, ht, hxi, hyi, show x = y by obtain ⟨a, b, c⟩ := x; obtain ⟨a2, b2, c2⟩ := y; simp_all]
        · try simp only [Bool.not_eq_true', Bool.not_eq_false'] at g2
          have n2 := g2; try simp only [nrm] at n2
          simp only [go_sem, hxi, hyi, g1, g2]
          try refine And.intro (by repeat' (first | refine And.intro ?_ ?_ | exact GOr_right (fun _ => by simp only [go_sem, hxi, hyi]))) ?_
          refine hR _ _ (kq10 _ _ ?_); clear hR R; try clear kq10 kz10
          try simp only [go_sem, hxi, hyi]
          refine W_cond_true rfl ?_
          refine W_seq fun kz12 kq12 => ?_
          refine W_region [4] fun R hR => ?_   -- r7
          simp only [go_sem, hxi, hyi]
          refine hR _ _ (kq12 _ _ ?_); clear hR R; try clear kq12 kz12
          try simp only [go_sem, hxi, hyi]
          refine W_ret ?_
          simp only [go_sem, hxi, hyi]
          refine ⟨.inr (by trivial), ?_⟩
          first | refine Fin_same hcl rfl (Wk_eq ?_ (by simp only [go_sem])) | refine Fin_self hcl rfl (Wk_eq ?_ (by simp only [go_sem]))
          try simp only [go_sem]
          all_goals
            simp; intro h; subst h; rw [hxi] at hyi; injection hyi with h; subst h; simp_all
      · try simp only [Bool.not_eq_true', Bool.not_eq_false'] at g1
        have n1 := g1; try simp only [nrm] at n1
        simp only [go_sem, hxi, hyi, g1]
        try refine And.intro (by repeat' (first | refine And.intro ?_ ?_ | exact GOr_right (fun _ => by simp only [go_sem, hxi, hyi]))) ?_
        refine hR _ _ (kq10 _ _ ?_); clear hR R; try clear kq10 kz10
        try simp only [go_sem, hxi, hyi]
        refine W_cond_true rfl ?_
        refine W_seq fun kz13 kq13 => ?_
        refine W_region [4] fun R hR => ?_   -- r7
        simp only [go_sem, hxi, hyi]
        refine hR _ _ (kq13 _ _ ?_); clear hR R; try clear kq13 kz13
        try simp only [go_sem, hxi, hyi]
        refine W_ret ?_
        simp only [go_sem, hxi, hyi]
        refine ⟨.inr (by trivial), ?_⟩
        first | refine Fin_same hcl rfl (Wk_eq ?_ (by simp only [go_sem])) | refine Fin_self hcl rfl (Wk_eq ?_ (by simp only [go_sem]))
        try simp only [go_sem]
        all_goals
          simp; intro h; subst h; rw [hxi] at hyi; injection hyi with h; subst h; simp_all
    · -- c2 false
      try simp only [nrm] at c2
      have hie : i = xs.length := by omega
      subst hie
      have hxy : xs = ys := by rw [List.take_length] at ht; rw [c1, List.take_length] at ht; exact ht
      refine W_exit ?_
      simp only [go_sem]
      refine kq5 _ _ ?_
      refine W_seq fun kz14 kq14 => ?_
      refine W_region [4] fun R hR => ?_   -- r8
      simp only [go_sem]
      refine hR _ _ (kq14 _ _ ?_); clear hR R; try clear kq14 kz14
      try simp only [go_sem]
      refine W_ret ?_
      simp only [go_sem]
      refine ⟨.inr (by trivial), ?_⟩
      first | refine Fin_same hcl rfl (Wk_eq ?_ (by simp only [go_sem])) | refine Fin_self hcl rfl (Wk_eq ?_ (by simp only [go_sem]))
      try simp only [go_sem]
      all_goals
        simp [hxy]
set_option maxHeartbeats 2000000 in
theorem span_pc (Y : YEnv) (σ : Sg) (a b : Int) :
    PC Try.prog Y 48 [I a, I b] σ (.agg [I a, I b]) (σ) := by
  refine PC_of_W Try.func48 rfl (by kernel_rfl) Try.ntmps48 (by simp) fun hcl hca => ?_
  refine W_seq fun kz1 kq1 => ?_
  refine W_region [0, 1, 4] fun R hR => ?_   -- r0
  simp only [go_sem]
  refine hR _ _ (kq1 _ _ ?_); clear hR R; try clear kq1 kz1
  try simp only [go_sem]
  refine W_seq fun kz2 kq2 => ?_
  refine W_region [4] fun R hR => ?_   -- r1
  simp only [go_sem]
  refine hR _ _ (kq2 _ _ ?_); clear hR R; try clear kq2 kz2
  try simp only [go_sem]
  refine W_ret ?_
  simp only [go_sem]
  refine ⟨.inr (by trivial), ?_⟩
  first | refine Fin_same hcl (by show resPV Try.prog _ _ [.cell 4 48] = some _; simp only [resPV, go_sem]; rfl) (Wk_eq ?_ (by simp only [go_sem])) | refine Fin_same hcl rfl (Wk_eq ?_ (by simp only [go_sem]))
  try simp only [go_sem]
  all_goals
    first | rfl | (simp_all; done) | (simp_all; omega)
set_option maxHeartbeats 2000000 in
theorem scale_pc (Y : YEnv) (σ : Sg)  :
    PC Try.prog Y 45 [] σ (scPV exScale) (σ) := by
  refine PC_of_W Try.func45 rfl (by kernel_rfl) Try.ntmps45 (by simp) fun hcl hca => ?_
  refine W_seq fun kz1 kq1 => ?_
  refine W_region [0] fun R hR => ?_   -- r0
  simp only [go_sem]
  refine hR _ _ (kq1 _ _ ?_); clear hR R; try clear kq1 kz1
  try simp only [go_sem]
  refine W_seq fun kz2 kq2 => ?_
  refine W_region [0] fun R hR => ?_   -- r1
  simp only [go_sem]
  refine hR _ _ (kq2 _ _ ?_); clear hR R; try clear kq2 kz2
  try simp only [go_sem]
  refine W_ret ?_
  simp only [go_sem]
  refine ⟨.inr (by trivial), ?_⟩
  refine Fin_same hcl (by show resPV Try.prog _ _ [.cell 0 26] = some _; simp only [resPV, go_sem]; rfl) (Wk.ro (by simp only [go_sem]) ?_)
  try simp only [go_sem]
  all_goals
    rfl
set_option maxHeartbeats 2000000 in
theorem night_pc (Y : YEnv) (σ : Sg)  :
    PC Try.prog Y 46 [] σ (ngPV exNight) (σ) := by
  refine PC_of_W Try.func46 rfl (by kernel_rfl) Try.ntmps46 (by simp) fun hcl hca => ?_
  refine W_seq fun kz1 kq1 => ?_
  refine W_region [0] fun R hR => ?_   -- r0
  simp only [go_sem]
  refine hR _ _ (kq1 _ _ ?_); clear hR R; try clear kq1 kz1
  try simp only [go_sem]
  refine W_seq fun kz2 kq2 => ?_
  refine W_region [0] fun R hR => ?_   -- r1
  simp only [go_sem]
  refine hR _ _ (kq2 _ _ ?_); clear hR R; try clear kq2 kz2
  try simp only [go_sem]
  refine W_ret ?_
  simp only [go_sem]
  refine ⟨.inr (by trivial), ?_⟩
  refine Fin_same hcl (by show resPV Try.prog _ _ [.cell 0 32] = some _; simp only [resPV, go_sem]; rfl) (Wk.ro (by simp only [go_sem]) ?_)
  try simp only [go_sem]
  all_goals
    rfl
set_option maxHeartbeats 2000000 in
theorem before_pc (Y : YEnv) (σ : Sg)  :
    PC Try.prog Y 47 [] σ (ngPV exBefore) (σ) := by
  refine PC_of_W Try.func47 rfl (by kernel_rfl) Try.ntmps47 (by simp) fun hcl hca => ?_
  refine W_seq fun kz1 kq1 => ?_
  refine W_region [0] fun R hR => ?_   -- r0
  simp only [go_sem]
  refine hR _ _ (kq1 _ _ ?_); clear hR R; try clear kq1 kz1
  try simp only [go_sem]
  refine W_seq fun kz2 kq2 => ?_
  refine W_region [0, 1] fun R hR => ?_   -- r1
  simp only [go_sem]
  refine GCall_of (night_pc Y _) ?_   -- t2
  simp only [go_sem]
  refine hR _ _ (kq2 _ _ ?_); clear hR R; try clear kq2 kz2
  try simp only [go_sem]
  refine W_seq fun kz3 kq3 => ?_
  have hz4 : ((0 : Int) ≤ 4) = True := by decide
  have hb4 : (Int.toNat 4 ≤ exNight.opened.length) = True := by decide
  refine W_region [0, 1] fun R hR => ?_   -- r2
  simp only [go_sem, hz4, hb4]
  refine hR _ _ (kq3 _ _ ?_); clear hR R; try clear kq3 kz3
  try simp only [go_sem]
  refine W_seq fun kz4 kq4 => ?_
  refine W_region [0] fun R hR => ?_   -- r3
  simp only [go_sem]
  refine hR _ _ (kq4 _ _ ?_); clear hR R; try clear kq4 kz4
  try simp only [go_sem]
  refine W_ret ?_
  simp only [go_sem]
  refine ⟨.inr (by trivial), ?_⟩
  refine Fin_same hcl (by show resPV Try.prog _ _ [.cell 0 32] = some _; simp only [resPV, go_sem]; rfl) (Wk.ro (by simp only [go_sem]) ?_)
  try simp only [go_sem]
  all_goals
    rfl
end Go.Proofs.Ytgelnjmddabgpaa
namespace Go.Proofs.Ytgelnjmddabgpaa
open Go Go.RowKit
set_option maxRecDepth 100000
def exTab : List Stand := [⟨0, 385, [195, 190]⟩, ⟨2, 365, [175, 195]⟩, ⟨1, 365, [195, 170]⟩]
def exTot : List (Int × Int) := [(340, 385), (355, 390), (345, 370)]
set_option maxHeartbeats 4000000 in
theorem awake_pc (Y : YEnv) (σ : Sg)  :
    PC Try.prog Y 20 [] σ (.bool true) (σ) := by
  refine PC_of_W Try.func20 rfl (by kernel_rfl) Try.ntmps20 (by simp) fun hcl hca => ?_
  refine W_seq fun kz1 kq1 => ?_
  refine W_region [] fun R hR => ?_   -- r0
  simp only [go_sem]
  refine hR _ _ (kq1 _ _ ?_); clear hR R; try clear kq1 kz1
  try simp only [go_sem]
  refine W_seq fun kz2 kq2 => ?_
  refine W_region [1, 2] fun R hR => ?_   -- r1
  simp only [go_sem]
  refine GCall_of (scale_pc Y _) ?_   -- t8
  simp only [go_sem]
  refine GCall_of (night_pc Y _) ?_   -- t9
  simp only [go_sem]
  refine GCall_of (PC.val (v' := .tuple [sds exTab, I 0]) (Table_pc Y _ exScale exNight exScale_ok exNight_ok) (by rw [exTable]; rfl)) ?_   -- t10
  simp only [go_sem]
  refine hR _ _ (kq2 _ _ ?_); clear hR R; try clear kq2 kz2
  try simp only [go_sem]
  refine W_seq fun kz3 kq3 => ?_
  refine W_region [1, 2, 3, 4] fun R hR => ?_   -- r2
  simp only [go_sem]
  refine GCall_of (scale_pc Y _) ?_   -- t14
  simp only [go_sem]
  refine GCall_of (before_pc Y _) ?_   -- t15
  simp only [go_sem]
  refine GCall_of (PC.val (v' := .tuple [sts exTot, I 0]) (Totals_pc Y _ exScale exBefore exScale_ok exBefore_ok) (by rw [exTotals]; rfl)) ?_   -- t16
  simp only [go_sem]
  refine hR _ _ (kq3 _ _ ?_); clear hR R; try clear kq3 kz3
  try simp only [go_sem]
  refine W_seq fun kz4 kq4 => ?_
  refine W_region [1, 2, 3, 4, 5, 6] fun R hR => ?_   -- r3
  simp only [go_sem]
  refine GCall_of (scale_pc Y _) ?_   -- t20
  simp only [go_sem]
  refine GCall_of (before_pc Y _) ?_   -- t21
  simp only [go_sem]
  refine GCall_of (PC.val (v' := .tuple [.agg [I 1, I 3], I 0]) (Place_pc Y _ exScale exBefore exScale_ok exBefore_ok 0) (by rw [exPlace])) ?_   -- t22
  simp only [go_sem]
  refine hR _ _ (kq4 _ _ ?_); clear hR R; try clear kq4 kz4
  try simp only [go_sem]
  refine W_seq fun kz5 kq5 => ?_
  refine W_draw [0] [0, 1, 2, 3, 4, 5, 6, 7, 8, 9, 10, 11, 12, 13, 14, 15, 16, 17, 18, 19, 20, 21, 22, 23, 24, 25, 26, 27, 28, 29, 30, 31, 32, 33, 34] [(22, 24), (22, 25), (22, 27), (30, 35)] [[], [0], [0, 1], [0, 1, 2], [0, 1, 2, 3], [0, 1, 2, 3, 4], [0, 1, 2, 3, 4, 5], [0, 1, 2, 3, 4, 5, 6], [0, 1, 2, 3, 4, 5, 6, 7], [0, 1, 2, 3, 4, 5, 6, 7, 8], [0, 1, 2, 3, 4, 5, 6, 7, 8, 9], [0, 1, 2, 3, 4, 5, 6, 7, 8, 9, 10], [0, 1, 2, 3, 4, 5, 6, 7, 8, 9, 10], [0, 1, 2, 3, 4, 5, 6, 7, 8, 9, 10, 12], [0, 1, 2, 3, 4, 5, 6, 7, 8, 9, 10], [0, 1, 2, 3, 4, 5, 6, 7, 8, 9, 10, 14], [0, 1, 2, 3, 4, 5, 6, 7, 8, 9, 10], [0, 1, 2, 3, 4, 5, 6, 7, 8, 9, 10, 16], [0, 1, 2, 3, 4, 5, 6, 7, 8, 9, 10, 12, 13, 14, 15, 16, 17], [0, 1, 2, 3, 4, 5, 6, 7, 8, 9, 10, 11, 12, 13, 14, 15, 16, 17, 18], [0, 1, 2, 3, 4, 5, 6, 7, 8, 9, 10, 11, 12, 13, 14, 15, 16, 17, 18, 19], [0, 1, 2, 3, 4, 5, 6, 7, 8, 9, 10, 11, 12, 13, 14, 15, 16, 17, 18, 19, 20], [0, 1, 2, 3, 4, 5, 6, 7, 8, 9, 10, 11, 12, 13, 14, 15, 16, 17, 18, 19, 20, 21], [0, 1, 2, 3, 4, 5, 6, 7, 8, 9, 10, 11, 12, 13, 14, 15, 16, 17, 18, 19, 20, 21], [0, 1, 2, 3, 4, 5, 6, 7, 8, 9, 10, 11, 12, 13, 14, 15, 16, 17, 18, 19, 20, 21, 23], [0, 1, 2, 3, 4, 5, 6, 7, 8, 9, 10, 11, 12, 13, 14, 15, 16, 17, 18, 19, 20, 21, 23, 24], [0, 1, 2, 3, 4, 5, 6, 7, 8, 9, 10, 11, 12, 13, 14, 15, 16, 17, 18, 19, 20, 21, 23, 24, 25], [0, 1, 2, 3, 4, 5, 6, 7, 8, 9, 10, 11, 12, 13, 14, 15, 16, 17, 18, 19, 20, 21, 22, 23, 24, 25, 26], [0, 1, 2, 3, 4, 5, 6, 7, 8, 9, 10, 11, 12, 13, 14, 15, 16, 17, 18, 19, 20, 21, 22, 23, 24, 25, 26, 27], [0, 1, 2, 3, 4, 5, 6, 7, 8, 9, 10, 11, 12, 13, 14, 15, 16, 17, 18, 19, 20, 21, 22, 23, 24, 25, 26, 27, 28], [0, 1, 2, 3, 4, 5, 6, 7, 8, 9, 10, 11, 12, 13, 14, 15, 16, 17, 18, 19, 20, 21, 22, 23, 24, 25, 26, 27, 28, 29], [0, 1, 2, 3, 4, 5, 6, 7, 8, 9, 10, 11, 12, 13, 14, 15, 16, 17, 18, 19, 20, 21, 22, 23, 24, 25, 26, 27, 28, 29], [0, 1, 2, 3, 4, 5, 6, 7, 8, 9, 10, 11, 12, 13, 14, 15, 16, 17, 18, 19, 20, 21, 22, 23, 24, 25, 26, 27, 28, 29, 30, 31], [0, 1, 2, 3, 4, 5, 6, 7, 8, 9, 10, 11, 12, 13, 14, 15, 16, 17, 18, 19, 20, 21, 22, 23, 24, 25, 26, 27, 28, 29, 30, 31, 32], [0, 1, 2, 3, 4, 5, 6, 7, 8, 9, 10, 11, 12, 13, 14, 15, 16, 17, 18, 19, 20, 21, 22, 23, 24, 25, 26, 27, 28, 29, 30, 31, 32, 33]] mixed (by kernel_rfl) fun R hR => ?_   -- r4
  simp only [go_sem]
  refine GCall_of (PC.val (v' := .bool true) (PC.ofRo (EqTables_pc Y _ exTab exTab .ro .ro (by decide) (by decide)) (by simp only [go_sem, exTab] <;> rfl)) (by rfl)) ?_   -- t44
  simp only [go_sem]
  refine GCall_of (span_pc Y _ 340 385) ?_   -- t48
  simp only [go_sem]
  refine GCall_of (span_pc Y _ 355 390) ?_   -- t49
  simp only [go_sem]
  refine GCall_of (span_pc Y _ 345 370) ?_   -- t50
  simp only [go_sem]
  refine GCall_of (EqSpans_pc Y _ exTot exTot .ro .exact (by decide)) ?_   -- t52
  simp only [go_sem]
  refine GCall_of (span_pc Y _ 1 3) ?_   -- t56
  simp only [go_sem]
  try refine And.intro (by repeat' (first | refine And.intro ?_ ?_ | exact GOr_right (fun _ => by simp only [go_sem]))) ?_
  refine hR _ _ (kq5 _ _ ?_); clear hR R; try clear kq5 kz5
  try simp only [go_sem]
  refine W_ret ?_
  simp only [go_sem]
  refine ⟨.inr (by trivial), ?_⟩
  first | refine Fin_same hcl rfl (Wk_eq ?_ (by simp only [go_sem])) | refine Fin_self hcl rfl (Wk_eq ?_ (by simp only [go_sem]))
  try simp only [go_sem]
  all_goals
    first | rfl | (simp_all; done) | (simp_all; omega)
end Go.Proofs.Ytgelnjmddabgpaa
namespace Go.Proofs.Ytgelnjmddabgpaa
open Go Go.RowKit
set_option maxRecDepth 100000
theorem Scale.V.okS {s : Scale} (h : s.V) : s.Ok := ⟨by have := h.ol; have := h.mt; omega⟩
def wv (s : Scale) (k : Kn) (g : Night) (i : Nat) : Int := if surelyW s k g i = true then 1 else if mayW s k g i = true then 3 else 2
theorem wins_wv {s : Scale} {g : Night} (h : NightV s g) {i : Nat} (hi : (i : Int) < s.schools) : winsA s g i = (wv s (knownK s g) g i, 0) := by
  have hE : knownE s g = 0 := nightV_iff.2 h
  have hin : inR (i : Int) 0 (s.schools - 1) = true := by rw [inR_true]; omega
  have hp : placeA s g i = ((placeK s (knownK s g) g i s.high s.low, placeK s (knownK s g) g i s.low s.high), 0) := by
    unfold placeA
    rw [if_neg (by simp [hE]), hin, if_neg (by simp)]
  unfold winsA
  rw [hp]
  simp only [ne_eq, not_true_eq_false, if_false]
  unfold wv
  by_cases h1 : placeK s (knownK s g) g i s.low s.high = 1
  · have : surelyW s (knownK s g) g i = true := by simp [surelyW, h1]
    rw [if_pos h1, this, if_pos rfl]
  · have h2 : surelyW s (knownK s g) g i = false := by simp [surelyW, h1]
    rw [if_neg h1, h2]
    simp only [Bool.false_eq_true, if_false]
    by_cases h3 : placeK s (knownK s g) g i s.high s.low > 1
    · have : mayW s (knownK s g) g i = false := by simp [mayW, neverW, h2]; omega
      rw [if_pos h3, this, if_neg (by simp)]
    · have : mayW s (knownK s g) g i = true := by simp [mayW, neverW, h2]; omega
      rw [if_neg h3, this, if_pos rfl]
theorem wv_cases (s : Scale) (k : Kn) (g : Night) (i : Nat) : (wv s k g i = 1 ∧ surelyW s k g i = true ∧ mayW s k g i = true) ∨ (wv s k g i = 3 ∧ surelyW s k g i = false ∧ mayW s k g i = true) ∨ (wv s k g i = 2 ∧ surelyW s k g i = false ∧ mayW s k g i = false) := by
  unfold wv
  cases h1 : surelyW s k g i with
  | true => left; simp [mayW, neverW, h1]
  | false =>
    cases h2 : mayW s k g i with
    | true => right; left; simp
    | false => right; right; simp
set_option maxHeartbeats 8000000 in
theorem MarksWins_pc (Y : YEnv) (σ : Sg) (nums : List Int) (hn : nums.length < 2 ^ 60) :
    PC Try.prog Y 5 [ints nums] σ (.bool true) (σ) := by
  refine PC_of_W Try.func5 rfl (by kernel_rfl) Try.ntmps5 (by simp) fun hcl hca => ?_
  obtain ⟨b0, hb0⟩ : ∃ z, drumB nums 2685821657736338717 = z := ⟨_, rfl⟩
  obtain ⟨s, hs⟩ : ∃ zz, (scaleD 6 b0).1 = zz := ⟨_, rfl⟩
  obtain ⟨b1, hb1⟩ : ∃ zz, (scaleD 6 b0).2 = zz := ⟨_, rfl⟩
  have ds := scaleD_ok 6 (by omega) (by omega) b0
  simp only [hs] at ds
  obtain ⟨dec, hdec⟩ : ∃ zz, (rare 3 b1).1 = zz := ⟨_, rfl⟩
  obtain ⟨b2, hb2⟩ : ∃ zz, (rare 3 b1).2 = zz := ⟨_, rfl⟩
  have hsc := ds.1
  have hv := Scale.v hsc
  have q3 := hv.sc
  have hsO := hv.okS
  obtain ⟨g, hg⟩ : ∃ zz, (nightD s dec b2).1 = zz := ⟨_, rfl⟩
  obtain ⟨b3, hb3⟩ : ∃ zz, (nightD s dec b2).2 = zz := ⟨_, rfl⟩
  have dg := nightD_ok hsc dec b2
  simp only [hg] at dg
  have hnv := dg.v
  have hgO := hnv.ok
  obtain ⟨N, hN⟩ : ∃ z : Nat, s.schools = z := ⟨s.schools.toNat, by omega⟩
  have hNi : (s.schools : Int) = (N : Int) := hN
  have hlaw := wins_law (k := knownK s g) (g := g) hv hN
  refine W_seq fun kz1 kq1 => ?_
  refine W_region [0] fun R hR => ?_   -- r0
  simp only [go_sem, hb0, hs, hb1, hdec, hb2, hg, hb3]
  refine hR _ _ (kq1 _ _ ?_); clear hR R; try clear kq1 kz1
  try simp only [go_sem, hb0, hs, hb1, hdec, hb2, hg, hb3]
  refine W_seq fun kz2 kq2 => ?_
  refine W_region [3] fun R hR => ?_   -- r1
  simp only [go_sem, hb0, hs, hb1, hdec, hb2, hg, hb3]
  refine GCall_of (DrumOf_pc Y _ nums hn) ?_   -- t12
  simp only [go_sem, hb0, hs, hb1, hdec, hb2, hg, hb3]
  refine hR _ _ (kq2 _ _ ?_); clear hR R; try clear kq2 kz2
  try simp only [go_sem, hb0, hs, hb1, hdec, hb2, hg, hb3]
  refine W_seq fun kz3 kq3 => ?_
  refine W_region [3, 4] fun R hR => ?_   -- r2
  simp only [go_sem, hb0, hs, hb1, hdec, hb2, hg, hb3]
  refine GCall_of (ScaleOf_pc Y _ _ b0 (Sg.get_ext0 ..) 6 (by omega) (by omega)) ?_   -- t14
  simp only [go_sem, hb0, hs, hb1, hdec, hb2, hg, hb3]
  refine hR _ _ (kq3 _ _ ?_); clear hR R; try clear kq3 kz3
  try simp only [go_sem, hb0, hs, hb1, hdec, hb2, hg, hb3]
  refine W_seq fun kz4 kq4 => ?_
  refine W_draw [4, 5] [0, 1, 2, 3, 4, 5, 6] [(0, 4), (1, 4)] [[], [], [], [2], [0, 1, 2, 3], [], [0, 1, 2, 3, 4, 5]] mixed (by kernel_rfl) fun R hR => ?_   -- r3
  simp only [go_sem, hb0, hs, hb1, hdec, hb2, hg, hb3]
  refine GCall_of (Rare_pc Y _ _ b1 (Sg.get_ext0 ..) 3 (by omega)) ?_   -- t18
  simp only [go_sem, hb0, hs, hb1, hdec, hb2, hg, hb3]
  refine GCall_of (NightOf_pc Y _ _ b2 (Sg.get_ext0 ..) s hv hsO dec) ?_   -- t19
  simp only [go_sem, hb0, hs, hb1, hdec, hb2, hg, hb3]
  try refine And.intro (by repeat' (first | refine And.intro ?_ ?_ | exact GOr_right (fun _ => by simp only [go_sem, hb0, hs, hb1, hdec, hb2, hg, hb3]))) ?_
  refine hR _ _ (kq4 _ _ ?_); clear hR R; try clear kq4 kz4
  try simp only [go_sem, hb0, hs, hb1, hdec, hb2, hg, hb3]
  refine W_seq fun kz5 kq5 => ?_
  refine W_region [4, 5, 6, 7] fun R hR => ?_   -- r4
  simp only [go_sem, hb0, hs, hb1, hdec, hb2, hg, hb3]
  refine hR _ _ (kq5 _ _ ?_); clear hR R; try clear kq5 kz5
  try simp only [go_sem, hb0, hs, hb1, hdec, hb2, hg, hb3]
  refine W_seq fun kz6 kq6 => ?_
  refine W_seq fun kz7 kq7 => ?_
  refine W_region [4, 5, 6, 7, 8] fun R hR => ?_   -- r5
  simp only [go_sem, hb0, hs, hb1, hdec, hb2, hg, hb3]
  refine hR _ _ (kq7 _ _ ?_); clear hR R; try clear kq7 kz7
  try simp only [go_sem, hb0, hs, hb1, hdec, hb2, hg, hb3]
  refine W_block ?_
  refine W_loopS (α := Nat × Nat × Nat) (fun ⟨i, a, c⟩ => [(6, I a), (7, I c), (8, I i)]) (fun ⟨i, a, c⟩ => i ≤ N ∧ a = cnt i (surelyW s (knownK s g) g) ∧ c = cnt i (mayW s (knownK s g) g)) (fun ⟨i, a, c⟩ => N - i) ((0, 0, 0)) rfl (⟨Nat.zero_le _, rfl, rfl⟩) ?_
  rintro ⟨i, a, c⟩ ⟨hi, ha, hc⟩
  refine W_seq fun kz8 kq8 => ?_
  refine W_seq fun kz9 kq9 => ?_
  refine W_region [4, 5, 6, 7, 8, 23] fun R hR => ?_   -- r6
  simp only [go_sem, hb0, hs, hb1, hdec, hb2, hg, hb3]
  refine hR _ _ (kq9 _ _ ?_); clear hR R; try clear kq9 kz9
  try simp only [go_sem, hb0, hs, hb1, hdec, hb2, hg, hb3]
  refine W_cond rfl (fun c1 => ?_) (fun c1 => ?_)
  · -- c1 true
    try simp only [nrm] at c1
    have hiN : i < N := by first | omega | (simp at c1; omega)
    have hwc := wv_cases s (knownK s g) g i
    have ha8 := cnt_le i (surelyW s (knownK s g) g)
    have hc8 := cnt_le i (mayW s (knownK s g) g)
    have hsa := cnt_succ i (surelyW s (knownK s g) g)
    have hsm := cnt_succ i (mayW s (knownK s g) g)
    refine W_skip (kq8 _ _ ?_)
    refine W_seq fun kz10 kq10 => ?_
    refine W_block ?_
    refine W_seq fun kz11 kq11 => ?_
    refine W_region [4, 5, 6, 7, 8, 9, 10] fun R hR => ?_   -- r8
    simp only [go_sem, hb0, hs, hb1, hdec, hb2, hg, hb3]
    refine GCall_of (PC.val (v' := .tuple [I (wv s (knownK s g) g i), I 0]) (Wins_pc Y _ s g hsO hgO i) (by rw [wins_wv hnv (by omega)])) ?_   -- t30
    simp only [go_sem, hb0, hs, hb1, hdec, hb2, hg, hb3]
    refine hR _ _ (kq11 _ _ ?_); clear hR R; try clear kq11 kz11
    try simp only [go_sem, hb0, hs, hb1, hdec, hb2, hg, hb3]
    refine W_seq fun kz12 kq12 => ?_
    refine W_seq fun kz13 kq13 => ?_
    refine W_regionJ [4, 5, 6, 7, 8, 9, 42] [(42, .bool false)] ?_ fun R hR => ?_   -- r9
    · refine kq13 _ _ ?_
      simp only [go_sem, hb0, hs, hb1, hdec, hb2, hg, hb3]
      refine W_cond rfl (fun c2 => ?_) (fun c2 => ?_)
      · -- c2 true
        try simp only [nrm] at c2
        exfalso
        simp at c2
      · -- c2 false
        try simp only [nrm] at c2
        refine W_skip (kq12 _ _ ?_)
        refine W_seq fun kz14 kq14 => ?_
        refine W_seq fun kz15 kq15 => ?_
        refine W_region [4, 5, 6, 7, 8, 9, 44] fun R hR => ?_   -- r11
        simp only [go_sem, hb0, hs, hb1, hdec, hb2, hg, hb3]
        refine hR _ _ (kq15 _ _ ?_); clear hR R; try clear kq15 kz15
        try simp only [go_sem, hb0, hs, hb1, hdec, hb2, hg, hb3]
        refine W_cond rfl (fun c3 => ?_) (fun c3 => ?_)
        · -- c3 true
          try simp only [nrm] at c3
          refine W_region [4, 5, 6, 7, 8, 9] fun R hR => ?_   -- r12
          simp only [go_sem, hb0, hs, hb1, hdec, hb2, hg, hb3]
          try simp (disch := omega) only [wrapI, wrapU]
          refine hR _ _ (kq14 _ _ ?_); clear hR R; try clear kq14 kz14
          try simp only [go_sem, hb0, hs, hb1, hdec, hb2, hg, hb3]
          refine W_seq fun kz16 kq16 => ?_
          refine W_region [4, 5, 6, 7, 8, 48] fun R hR => ?_   -- r13
          simp only [go_sem, hb0, hs, hb1, hdec, hb2, hg, hb3]
          refine hR _ _ (kq16 _ _ ?_); clear hR R; try clear kq16 kz16
          try simp only [go_sem, hb0, hs, hb1, hdec, hb2, hg, hb3]
          refine W_cond rfl (fun c4 => ?_) (fun c4 => ?_)
          · -- c4 true
            try simp only [nrm] at c4
            refine W_region [4, 5, 6, 7, 8] fun R hR => ?_   -- r14
            simp only [go_sem, hb0, hs, hb1, hdec, hb2, hg, hb3]
            try simp (disch := omega) only [wrapI, wrapU]
            refine hR _ _ (kq10 _ _ ?_); clear hR R; try clear kq10 kz10
            try simp only [go_sem, hb0, hs, hb1, hdec, hb2, hg, hb3]
            refine W_region [4, 5, 6, 7, 8] fun R hR => ?_   -- r7
            simp only [go_sem, hb0, hs, hb1, hdec, hb2, hg, hb3]
            try simp (disch := omega) only [wrapI, wrapU]
            refine hR _ _ ?_; clear hR R
            try simp only [go_sem, hb0, hs, hb1, hdec, hb2, hg, hb3]
            refine ⟨(i + 1, a + 1, c + 1), ?_, by (try simp only []); omega, ?_⟩
            · first | exact Weak.refl | exact Weak.eq (by first | rfl | (simp only [go_sem]; done) | (simp only [go_sem]; rfl) | (simp [go_sem]; done) | (simp [go_sem]; omega)) (by first | rfl | (simp only [go_sem]; done) | (simp [go_sem]; done))
            · try dsimp only
              refine ⟨by omega, ?_, ?_⟩
              · rw [hsa, ← ha]; rcases hwc with ⟨e, e2, e3⟩ | ⟨e, e2, e3⟩ | ⟨e, e2, e3⟩ <;> simp_all
              · rw [hsm, ← hc]; rcases hwc with ⟨e, e2, e3⟩ | ⟨e, e2, e3⟩ | ⟨e, e2, e3⟩ <;> simp_all
          · -- c4 false
            try simp only [nrm] at c4
            refine W_skip (kq10 _ _ ?_)
            refine W_region [4, 5, 6, 7, 8] fun R hR => ?_   -- r7
            simp only [go_sem, hb0, hs, hb1, hdec, hb2, hg, hb3]
            try simp (disch := omega) only [wrapI, wrapU]
            refine hR _ _ ?_; clear hR R
            try simp only [go_sem, hb0, hs, hb1, hdec, hb2, hg, hb3]
            refine ⟨(i + 1, a + 1, c), ?_, by (try simp only []); omega, ?_⟩
            · first | exact Weak.refl | exact Weak.eq (by first | rfl | (simp only [go_sem]; done) | (simp only [go_sem]; rfl) | (simp [go_sem]; done) | (simp [go_sem]; omega)) (by first | rfl | (simp only [go_sem]; done) | (simp [go_sem]; done))
            · try dsimp only
              refine ⟨by omega, ?_, ?_⟩
              · rw [hsa, ← ha]; rcases hwc with ⟨e, e2, e3⟩ | ⟨e, e2, e3⟩ | ⟨e, e2, e3⟩ <;> simp_all
              · rw [hsm, ← hc]; rcases hwc with ⟨e, e2, e3⟩ | ⟨e, e2, e3⟩ | ⟨e, e2, e3⟩ <;> simp_all
        · -- c3 false
          try simp only [nrm] at c3
          refine W_skip (kq14 _ _ ?_)
          refine W_seq fun kz17 kq17 => ?_
          refine W_region [4, 5, 6, 7, 8, 48] fun R hR => ?_   -- r13
          simp only [go_sem, hb0, hs, hb1, hdec, hb2, hg, hb3]
          refine hR _ _ (kq17 _ _ ?_); clear hR R; try clear kq17 kz17
          try simp only [go_sem, hb0, hs, hb1, hdec, hb2, hg, hb3]
          refine W_cond rfl (fun c5 => ?_) (fun c5 => ?_)
          · -- c5 true
            try simp only [nrm] at c5
            refine W_region [4, 5, 6, 7, 8] fun R hR => ?_   -- r14
            simp only [go_sem, hb0, hs, hb1, hdec, hb2, hg, hb3]
            try simp (disch := omega) only [wrapI, wrapU]
            refine hR _ _ (kq10 _ _ ?_); clear hR R; try clear kq10 kz10
            try simp only [go_sem, hb0, hs, hb1, hdec, hb2, hg, hb3]
            refine W_region [4, 5, 6, 7, 8] fun R hR => ?_   -- r7
            simp only [go_sem, hb0, hs, hb1, hdec, hb2, hg, hb3]
            try simp (disch := omega) only [wrapI, wrapU]
            refine hR _ _ ?_; clear hR R
            try simp only [go_sem, hb0, hs, hb1, hdec, hb2, hg, hb3]
            refine ⟨(i + 1, a, c + 1), ?_, by (try simp only []); omega, ?_⟩
            · first | exact Weak.refl | exact Weak.eq (by first | rfl | (simp only [go_sem]; done) | (simp only [go_sem]; rfl) | (simp [go_sem]; done) | (simp [go_sem]; omega)) (by first | rfl | (simp only [go_sem]; done) | (simp [go_sem]; done))
            · try dsimp only
              refine ⟨by omega, ?_, ?_⟩
              · rw [hsa, ← ha]; rcases hwc with ⟨e, e2, e3⟩ | ⟨e, e2, e3⟩ | ⟨e, e2, e3⟩ <;> simp_all
              · rw [hsm, ← hc]; rcases hwc with ⟨e, e2, e3⟩ | ⟨e, e2, e3⟩ | ⟨e, e2, e3⟩ <;> simp_all
          · -- c5 false
            try simp only [nrm] at c5
            refine W_skip (kq10 _ _ ?_)
            refine W_region [4, 5, 6, 7, 8] fun R hR => ?_   -- r7
            simp only [go_sem, hb0, hs, hb1, hdec, hb2, hg, hb3]
            try simp (disch := omega) only [wrapI, wrapU]
            refine hR _ _ ?_; clear hR R
            try simp only [go_sem, hb0, hs, hb1, hdec, hb2, hg, hb3]
            refine ⟨(i + 1, a, c), ?_, by (try simp only []); omega, ?_⟩
            · first | exact Weak.refl | exact Weak.eq (by first | rfl | (simp only [go_sem]; done) | (simp only [go_sem]; rfl) | (simp [go_sem]; done) | (simp [go_sem]; omega)) (by first | rfl | (simp only [go_sem]; done) | (simp [go_sem]; done))
            · try dsimp only
              refine ⟨by omega, ?_, ?_⟩
              · rw [hsa, ← ha]; rcases hwc with ⟨e, e2, e3⟩ | ⟨e, e2, e3⟩ | ⟨e, e2, e3⟩ <;> simp_all
              · rw [hsm, ← hc]; rcases hwc with ⟨e, e2, e3⟩ | ⟨e, e2, e3⟩ | ⟨e, e2, e3⟩ <;> simp_all
    · simp only [go_sem, hb0, hs, hb1, hdec, hb2, hg, hb3]
      refine GWant_split (fun g1 => ?_) (fun g1 => ?_)
      · try simp only [Bool.not_eq_true', Bool.not_eq_false'] at g1
        have n1 := g1; try simp only [nrm] at n1
        simp only [go_sem, hb0, hs, hb1, hdec, hb2, hg, hb3, g1]
        refine hR _ ?_
        all_goals try simp only [go_sem, hb0, hs, hb1, hdec, hb2, hg, hb3]
        all_goals
          first | rfl | (rcases hwc with ⟨e, _⟩ | ⟨e, _⟩ | ⟨e, _⟩ <;> simp_all; done)
      · try simp only [Bool.not_eq_true', Bool.not_eq_false'] at g1
        have n1 := g1; try simp only [nrm] at n1
        simp only [go_sem, hb0, hs, hb1, hdec, hb2, hg, hb3, g1]
        refine hR _ ?_
        all_goals try simp only [go_sem, hb0, hs, hb1, hdec, hb2, hg, hb3]
        all_goals
          first | rfl | (rcases hwc with ⟨e, _⟩ | ⟨e, _⟩ | ⟨e, _⟩ <;> simp_all; done)
  · -- c1 false
    try simp only [nrm] at c1
    have hie : i = N := by first | omega | (simp at c1; omega)
    subst hie
    rw [← ha, ← hc] at hlaw
    clear ha hc
    refine W_exit ?_
    simp only [go_sem, hb0, hs, hb1, hdec, hb2, hg, hb3]
    refine kq6 _ _ ?_
    refine W_seq fun kz18 kq18 => ?_
    refine W_regionJ [2] [(2, .bool true)] ?_ fun R hR => ?_   -- r15
    · refine kq18 _ _ ?_
      simp only [go_sem, hb0, hs, hb1, hdec, hb2, hg, hb3]
      refine W_ret ?_
      simp only [go_sem, hb0, hs, hb1, hdec, hb2, hg, hb3]
      refine ⟨.inr (by trivial), ?_⟩
      first | refine Fin_same hcl rfl (Wk_eq ?_ (by simp only [go_sem])) | refine Fin_self hcl rfl (Wk_eq ?_ (by simp only [go_sem]))
      try simp only [go_sem]
      all_goals
        first | rfl | (simp_all; done)
    · simp only [go_sem, hb0, hs, hb1, hdec, hb2, hg, hb3]
      refine GWant_split (fun g2 => ?_) (fun g2 => ?_)
      · try simp only [Bool.not_eq_true', Bool.not_eq_false'] at g2
        have n2 := g2; try simp only [nrm] at n2
        simp only [go_sem, hb0, hs, hb1, hdec, hb2, hg, hb3, g2]
        refine GWant_split (fun g3 => ?_) (fun g3 => ?_)
        · try simp only [Bool.not_eq_true', Bool.not_eq_false'] at g3
          have n3 := g3; try simp only [nrm] at n3
          simp only [go_sem, hb0, hs, hb1, hdec, hb2, hg, hb3, g2, g3]
          refine GWant_split (fun g4 => ?_) (fun g4 => ?_)
          · try simp only [Bool.not_eq_true', Bool.not_eq_false'] at g4
            have n4 := g4; try simp only [nrm] at n4
            simp only [go_sem, hb0, hs, hb1, hdec, hb2, hg, hb3, g2, g3, g4]
            refine GWant_split (fun g5 => ?_) (fun g5 => ?_)
            · try simp only [Bool.not_eq_true', Bool.not_eq_false'] at g5
              have n5 := g5; try simp only [nrm] at n5
              simp only [go_sem, hb0, hs, hb1, hdec, hb2, hg, hb3, g2, g3, g4, g5]
              refine GWant_split (fun g6 => ?_) (fun g6 => ?_)
              · try simp only [Bool.not_eq_true', Bool.not_eq_false'] at g6
                have n6 := g6; try simp only [nrm] at n6
                simp only [go_sem, hb0, hs, hb1, hdec, hb2, hg, hb3, g2, g3, g4, g5, g6]
                refine GWant_split (fun g7 => ?_) (fun g7 => ?_)
                · try simp only [Bool.not_eq_true', Bool.not_eq_false'] at g7
                  have n7 := g7; try simp only [nrm] at n7
                  simp only [go_sem, hb0, hs, hb1, hdec, hb2, hg, hb3, g2, g3, g4, g5, g6, g7]
                  refine GCall_of (awake_pc Y _) ?_   -- t74
                  simp only [go_sem, hb0, hs, hb1, hdec, hb2, hg, hb3, g2, g3, g4, g5, g6, g7]
                  refine hR _ ?_
                  all_goals try simp only [go_sem, hb0, hs, hb1, hdec, hb2, hg, hb3]
                  all_goals
                    first | rfl | (simp_all; done) | (simp_all; omega)
                · try simp only [Bool.not_eq_true', Bool.not_eq_false'] at g7
                  have n7 := g7; try simp only [nrm] at n7
                  simp only [go_sem, hb0, hs, hb1, hdec, hb2, hg, hb3, g2, g3, g4, g5, g6, g7]
                  refine hR _ ?_
                  all_goals try simp only [go_sem, hb0, hs, hb1, hdec, hb2, hg, hb3]
                  all_goals
                    first | rfl | (simp_all; done) | (simp_all; omega)
              · try simp only [Bool.not_eq_true', Bool.not_eq_false'] at g6
                have n6 := g6; try simp only [nrm] at n6
                simp only [go_sem, hb0, hs, hb1, hdec, hb2, hg, hb3, g2, g3, g4, g5, g6]
                refine GCall_of (awake_pc Y _) ?_   -- t74
                simp only [go_sem, hb0, hs, hb1, hdec, hb2, hg, hb3, g2, g3, g4, g5, g6]
                refine hR _ ?_
                all_goals try simp only [go_sem, hb0, hs, hb1, hdec, hb2, hg, hb3]
                all_goals
                  first | rfl | (simp_all; done) | (simp_all; omega)
            · try simp only [Bool.not_eq_true', Bool.not_eq_false'] at g5
              have n5 := g5; try simp only [nrm] at n5
              simp only [go_sem, hb0, hs, hb1, hdec, hb2, hg, hb3, g2, g3, g4, g5]
              refine hR _ ?_
              all_goals try simp only [go_sem, hb0, hs, hb1, hdec, hb2, hg, hb3]
              all_goals
                first | rfl | (simp_all; done) | (simp_all; omega)
          · try simp only [Bool.not_eq_true', Bool.not_eq_false'] at g4
            have n4 := g4; try simp only [nrm] at n4
            simp only [go_sem, hb0, hs, hb1, hdec, hb2, hg, hb3, g2, g3, g4]
            refine GWant_split (fun g8 => ?_) (fun g8 => ?_)
            · try simp only [Bool.not_eq_true', Bool.not_eq_false'] at g8
              have n8 := g8; try simp only [nrm] at n8
              simp only [go_sem, hb0, hs, hb1, hdec, hb2, hg, hb3, g2, g3, g4, g8]
              refine GWant_split (fun g9 => ?_) (fun g9 => ?_)
              · try simp only [Bool.not_eq_true', Bool.not_eq_false'] at g9
                have n9 := g9; try simp only [nrm] at n9
                simp only [go_sem, hb0, hs, hb1, hdec, hb2, hg, hb3, g2, g3, g4, g8, g9]
                refine GCall_of (awake_pc Y _) ?_   -- t74
                simp only [go_sem, hb0, hs, hb1, hdec, hb2, hg, hb3, g2, g3, g4, g8, g9]
                refine hR _ ?_
                all_goals try simp only [go_sem, hb0, hs, hb1, hdec, hb2, hg, hb3]
                all_goals
                  first | rfl | (simp_all; done) | (simp_all; omega)
              · try simp only [Bool.not_eq_true', Bool.not_eq_false'] at g9
                have n9 := g9; try simp only [nrm] at n9
                simp only [go_sem, hb0, hs, hb1, hdec, hb2, hg, hb3, g2, g3, g4, g8, g9]
                refine hR _ ?_
                all_goals try simp only [go_sem, hb0, hs, hb1, hdec, hb2, hg, hb3]
                all_goals
                  first | rfl | (simp_all; done) | (simp_all; omega)
            · try simp only [Bool.not_eq_true', Bool.not_eq_false'] at g8
              have n8 := g8; try simp only [nrm] at n8
              simp only [go_sem, hb0, hs, hb1, hdec, hb2, hg, hb3, g2, g3, g4, g8]
              refine GCall_of (awake_pc Y _) ?_   -- t74
              simp only [go_sem, hb0, hs, hb1, hdec, hb2, hg, hb3, g2, g3, g4, g8]
              refine hR _ ?_
              all_goals try simp only [go_sem, hb0, hs, hb1, hdec, hb2, hg, hb3]
              all_goals
                first | rfl | (simp_all; done) | (simp_all; omega)
        · try simp only [Bool.not_eq_true', Bool.not_eq_false'] at g3
          have n3 := g3; try simp only [nrm] at n3
          simp only [go_sem, hb0, hs, hb1, hdec, hb2, hg, hb3, g2, g3]
          refine hR _ ?_
          all_goals try simp only [go_sem, hb0, hs, hb1, hdec, hb2, hg, hb3]
          all_goals
            first | rfl | (simp_all; done) | (simp_all; omega)
      · try simp only [Bool.not_eq_true', Bool.not_eq_false'] at g2
        have n2 := g2; try simp only [nrm] at n2
        simp only [go_sem, hb0, hs, hb1, hdec, hb2, hg, hb3, g2]
        refine hR _ ?_
        all_goals try simp only [go_sem, hb0, hs, hb1, hdec, hb2, hg, hb3]
        all_goals
          first | rfl | (simp_all; done) | (simp_all; omega)
end Go.Proofs.Ytgelnjmddabgpaa
namespace Go.Proofs.Ytgelnjmddabgpaa
open Go Go.RowKit
theorem rdMarksWinsArgs : All2 (fun t R => Rd Try.prog t R) Try.f5.params.toList [fun p => ∃ xs : List Int, p = ints xs ∧ intsSz xs] :=
  .cons rdInts .nil
set_option maxHeartbeats 4000000 in
theorem MarksWins_walk : ∀ qs, AllR [fun p => ∃ xs : List Int, p = ints xs ∧ intsSz xs] qs → ∃ σ', PC Try.prog noY 5 qs Sg.zero (.bool true) σ' := by
  intro qs hq
  obtain ⟨px0, qs, rfl, ⟨x0, hx0, sx0⟩, hq⟩ := allR_cons hq
  obtain rfl := allR_nil hq
  subst hx0
  exact ⟨_, MarksWins_pc noY _ x0 (by unfold intsSz at sx0; omega)⟩
theorem MarksWins_lifted (os : Os) (started : os.Started) (H : Type) (enc : TypeId × Value → H) :
    ReturnsInHanded {} Try.checked os 5 .any (Rows.marksWinsSpec.pre6 enc Try.prog Try.f5 Rows.marksWinsRow.domain false) (Rows.marksWinsSpec.post enc Try.prog Try.f5 false true false false) :=
  law_lifted (C := Try.checked) own started (by kernel_rfl) Try.func5 rfl laidOut (by kernel_rfl) rdMarksWinsArgs rfl Try.underlying4
    (fun ds h => match ds, h with | [_], _ => rfl)
    (ChangeSpec.witness6 (enc := enc) (C := Try.checked) false ⟨#[], #[.slice none 0 0], []⟩ 8 (by kernel_rfl) (by kernel_rfl) (by kernel_rfl) (by kernel_rfl))
    MarksWins_walk
theorem MarksWins_holds : Rows.MarksWinsSaid :=
  OpenClaim.holds_of_wide 5 Try.f5 rfl rfl rfl rfl rfl rfl rfl ⟨rfl, rfl, rfl, rfl, rfl⟩ rfl rfl rfl rfl rfl (by kernel_rfl) Try.func5 (by kernel_rfl)
    (of_decide_eq_true (by kernel_rfl)) (by unfold Func.isWrapper; first | (rw [if_pos (by decide +kernel)]; kernel_rfl) | (rw [if_neg (by decide +kernel)]; exact ⟨rfl, rfl⟩))
    (fun os started H enc _ => MarksWins_lifted os started H enc)
end Go.Proofs.Ytgelnjmddabgpaa
