/-
  Walk: a shortest way (crowd).
  Back along the distances.
  Variables renumbered: the live ones, in a new order; whatever speaks of them follows.
  Walk: a shortest way (crowd.Way).
  Walks: the states of streets, steps from square to square (bateriaref06).
  Walk: steps from square to square (bateriaref06).
  Steps from square to square, round by round: they are the distances.
  Both ways back are one.
  Walk: a shortest way (bateriaref06.Way).
  Walks: the streets of a shortest way (band.Route, bateriaref07.Route).
  Walks: towns made of numbers (bateriakit).
  Towns made of numbers are valid.
  Walks: cities and bands made of numbers (bateriakit).
  Walks: requests of bands (band).
  Walks: permits, one after the other (band).
-/
import Derived.Test.YtnpamcpoaklgeaaPd
import Derived.CallsIn
import Derived.RangeFuncLeaves
import Derived.RangeFuncRecord
import Derived.OrdersIn
import Derived.Below
import Derived.Laws.World
import Derived.Laws.StructEq
import Derived.Laws.Append
import Derived.MapKept
import Derived.ProofKit
import Derived.Carry
import Derived.Handed
import Derived.ChangeCalls
import Derived.RangeFuncIn
import Derived.RangeFuncNested
import Derived.Test.YtnpamcpoaklgeaaProg
import Derived.KernelRfl
import Derived.IntWalk
import Derived.Test.YtnpamcpoaklgeaaRows
import Derived.JoinedOf
set_option linter.unusedSimpArgs false
set_option linter.unusedVariables false
namespace Go.Proofs.Ytnpamcpoaklgeaa
open Go Go.RowKit
set_option maxRecDepth 100000
def nbs (cl : List Int) (sq : Int) : List (Int × Int) → Nat → List Int
  | [], _ => []
  | s :: r, i => if decide (0 ≤ other s sq) && !(has cl i) then other s sq :: nbs cl sq r (i + 1) else nbs cl sq r (i + 1)
theorem nbs_yes {cl : List Int} {sq : Int} {s : Int × Int} {r : List (Int × Int)} {i : Nat} (h : 0 ≤ other s sq) (h2 : has cl i = false) : nbs cl sq (s :: r) i = other s sq :: nbs cl sq r (i + 1) := by simp [nbs, h, h2]
theorem nbs_no {cl : List Int} {sq : Int} {s : Int × Int} {r : List (Int × Int)} {i : Nat} (h : ¬ (0 ≤ other s sq ∧ has cl i = false)) : nbs cl sq (s :: r) i = nbs cl sq r (i + 1) := by
  rw [nbs, if_neg]
  simpa using h
theorem nbs_mem {cl : List Int} {sq : Int} : ∀ {r : List (Int × Int)} {i : Nat} {o : Int}, o ∈ nbs cl sq r i ↔ ∃ (k : Nat) (s : Int × Int), r[k]? = some s ∧ o = other s sq ∧ 0 ≤ o ∧ has cl ((i + k : Nat) : Int) = false := by
  intro r
  induction r with
  | nil => intro i o; simp [nbs]
  | cons s r ih =>
    intro i o
    have tail : (∃ (k : Nat) (x : Int × Int), (s :: r)[k + 1]? = some x ∧ o = other x sq ∧ 0 ≤ o ∧ has cl ((i + (k + 1) : Nat) : Int) = false) ↔ o ∈ nbs cl sq r (i + 1) := by
      rw [ih]
      constructor
      · rintro ⟨k, x, h1, h2, h3, h4⟩
        exact ⟨k, x, by simpa using h1, h2, h3, by rw [show i + 1 + k = i + (k + 1) by omega]; exact h4⟩
      · rintro ⟨k, x, h1, h2, h3, h4⟩
        exact ⟨k, x, by simpa using h1, h2, h3, by rw [show i + (k + 1) = i + 1 + k by omega]; exact h4⟩
    by_cases h : 0 ≤ other s sq ∧ has cl i = false
    · rw [nbs_yes h.1 h.2, List.mem_cons, ← tail]
      constructor
      · rintro (rfl | ⟨k, x, hx⟩)
        · exact ⟨0, s, rfl, rfl, h.1, h.2⟩
        · exact ⟨k + 1, x, hx⟩
      · rintro ⟨k, x, h1, h2, h3, h4⟩
        cases k with
        | zero => simp at h1; subst h1; exact .inl h2
        | succ k => exact .inr ⟨k, x, h1, h2, h3, h4⟩
    · rw [nbs_no h, ← tail]
      constructor
      · rintro ⟨k, x, hx⟩
        exact ⟨k + 1, x, hx⟩
      · rintro ⟨k, x, h1, h2, h3, h4⟩
        cases k with
        | zero => simp at h1; subst h1; exact absurd ⟨h2 ▸ h3, h4⟩ h
        | succ k => exact ⟨k, x, h1, h2, h3, h4⟩
def bn (o : Int) (far : List (Int × Int)) (n : Nat) : Nat := match aget o far with
  | some _ => n
  | none => n + 1
def nearer (far : List (Int × Int)) (at' o : Int) : Bool := match aget o far with
  | some v => decide (v = (aget at' far).getD 0 - 1)
  | none => false
def bmin (c : Bool) (best o : Int) : Int := if c then min best o else best
def bstepsN (at' : Int) : List Int → List (Int × Int) × List Int → Nat → (List (Int × Int) × List Int) × Nat
  | [], s, n => (s, n)
  | o :: os, s, n => bstepsN at' os (bstep at' o s) (bn o s.1 n)
theorem bstepsN_fst (at' : Int) : ∀ (os : List Int) (s : List (Int × Int) × List Int) (n : Nat), (bstepsN at' os s n).1 = bsteps at' os s := by
  intro os
  induction os with
  | nil => intro s n; rfl
  | cons o os ih => intro s n; simp only [bstepsN, bsteps, ih]
def bmins (far : List (Int × Int)) (at' : Int) : List Int → Int → Int
  | [], b => b
  | o :: os, b => bmins far at' os (bmin (nearer far at' o) b o)
set_option maxHeartbeats 2000000 in
theorem Way2_new (Y : YEnv) (σ : Sg) (hτ : CleanSg σ) (t : Town) (cl : List Int) (far : List (Int × Int)) (q : List Int) (n : Nat) (at' o x y : Int) (hg : aget o far = none) (h0 : 0 ≤ (aget at' far).getD 0) (h1 : (aget at' far).getD 0 ≤ 2 ^ 40) (hq : q.length ≤ 2 ^ 40) :
    PC Try.prog Y 118 [I o, .ptr (σ.store.length + 3) 0, .ptr (σ.store.length + 5) 0, .ptr (σ.store.length + 4) 0] (σ.ext [some (twCells t), some [ints cl], some (.mark :: mapE I I far), some [.map (σ.store.length + 2)], some [.isl ((q).map I) (.tok σ.rooms.length n 1)], some [I at'], some [I x, I y]] [n]) (.tuple []) (σ.ext [some (twCells t), some [ints cl], some (.mark :: mapE I I (far ++ [(o, (aget at' far).getD 0 + 1)])), some [.map (σ.store.length + 2)], some [.isl ((q ++ [o]).map I) (.tok σ.rooms.length (n + 1) 1)], some [I at'], some [I x, I y]] [(n + 1)]) := by
  refine PC_of_W Try.func118 rfl (by kernel_rfl) Try.ntmps118 (by simp) fun hcl hca => ?_
  clear hcl
  have hcl := hτ
  have w1 : IntKind.i64.wrap ((aget at' far).getD 0 + 1) = (aget at' far).getD 0 + 1 := wrapI (by omega) (by omega)
  refine W_seq fun kz1 kq1 => ?_
  refine W_region [0, 1, 2, 3, 6] fun R hR => ?_   -- r0
  simp only [go_sem, hg, Option.getD_some, Option.getD_none, Option.isSome_some, Option.isSome_none, aput_new hg, w1]
  refine hR _ _ (kq1 _ _ ?_); clear hR R; try clear kq1 kz1
  try simp only [go_sem, hg, Option.getD_some, Option.getD_none, Option.isSome_some, Option.isSome_none, aput_new hg, w1]
  refine W_seq fun kz2 kq2 => ?_
  refine W_region [0, 1, 2, 3, 14] fun R hR => ?_   -- r1
  simp only [go_sem, hg, Option.getD_some, Option.getD_none, Option.isSome_some, Option.isSome_none, aput_new hg, w1]
  refine hR _ _ (kq2 _ _ ?_); clear hR R; try clear kq2 kz2
  try simp only [go_sem, hg, Option.getD_some, Option.getD_none, Option.isSome_some, Option.isSome_none, aput_new hg, w1]
  refine W_cond rfl (fun c1 => ?_) (fun c1 => ?_)
  · -- c1 true
    try simp only [nrm] at c1
    refine W_seq fun kz3 kq3 => ?_
    refine W_region [0, 3] fun R hR => ?_   -- r2
    simp only [go_sem, hg, Option.getD_some, Option.getD_none, Option.isSome_some, Option.isSome_none, aput_new hg, w1]
    try simp (disch := omega) only [wrapI, wrapU]
    refine hR _ _ (kq3 _ _ ?_); clear hR R; try clear kq3 kz3
    try simp only [go_sem, hg, Option.getD_some, Option.getD_none, Option.isSome_some, Option.isSome_none, aput_new hg, w1]
    refine W_region [] fun R hR => ?_   -- r3
    simp only [go_sem, hg, Option.getD_some, Option.getD_none, Option.isSome_some, Option.isSome_none, aput_new hg, w1]
    simp (disch := first | omega | (simp only [go_sem] <;> omega)) only [wrapI, wrapU, appX_exact, appX_tok]
    try simp only [go_sem, hg, Option.getD_some, Option.getD_none, Option.isSome_some, Option.isSome_none, aput_new hg, w1]
    refine hR _ _ ?_; clear hR R
    try simp only [go_sem, hg, Option.getD_some, Option.getD_none, Option.isSome_some, Option.isSome_none, aput_new hg, w1]
    try simp only [go_sem, hg, Option.getD_some, Option.getD_none, Option.isSome_some, Option.isSome_none, aput_new hg, w1]
    refine ⟨.inl (by trivial), ?_⟩
    exact Fin_end (CleanSg_ext hcl (by show CleanLs _ _ _ _; simp only [go_sem] <;> omega)) (by simp only [go_sem]) (by simp only [go_sem]) (by simp only [go_sem]) rfl (Wk_eq rfl (by simp only [go_sem]))
    try simp only [go_sem]
    all_goals
      skip
  · -- c1 false
    try simp only [nrm] at c1
    exfalso
    simp at c1
set_option maxHeartbeats 2000000 in
theorem Way2_old (Y : YEnv) (σ : Sg) (hτ : CleanSg σ) (t : Town) (cl : List Int) (far : List (Int × Int)) (q : List Int) (n : Nat) (at' o x y : Int) (v : Int) (hg : aget o far = some v) :
    PC Try.prog Y 118 [I o, .ptr (σ.store.length + 3) 0, .ptr (σ.store.length + 5) 0, .ptr (σ.store.length + 4) 0] (σ.ext [some (twCells t), some [ints cl], some (.mark :: mapE I I far), some [.map (σ.store.length + 2)], some [.isl ((q).map I) (.tok σ.rooms.length n 1)], some [I at'], some [I x, I y]] [n]) (.tuple []) (σ.ext [some (twCells t), some [ints cl], some (.mark :: mapE I I far), some [.map (σ.store.length + 2)], some [.isl ((q).map I) (.tok σ.rooms.length n 1)], some [I at'], some [I x, I y]] [n]) := by
  refine PC_of_W Try.func118 rfl (by kernel_rfl) Try.ntmps118 (by simp) fun hcl hca => ?_
  clear hcl
  have hcl := hτ
  refine W_seq fun kz1 kq1 => ?_
  refine W_region [0, 1, 2, 3, 6] fun R hR => ?_   -- r0
  simp only [go_sem, hg, Option.getD_some, Option.getD_none, Option.isSome_some, Option.isSome_none]
  refine hR _ _ (kq1 _ _ ?_); clear hR R; try clear kq1 kz1
  try simp only [go_sem, hg, Option.getD_some, Option.getD_none, Option.isSome_some, Option.isSome_none]
  refine W_seq fun kz2 kq2 => ?_
  refine W_region [0, 1, 2, 3, 14] fun R hR => ?_   -- r1
  simp only [go_sem, hg, Option.getD_some, Option.getD_none, Option.isSome_some, Option.isSome_none]
  refine hR _ _ (kq2 _ _ ?_); clear hR R; try clear kq2 kz2
  try simp only [go_sem, hg, Option.getD_some, Option.getD_none, Option.isSome_some, Option.isSome_none]
  refine W_cond rfl (fun c1 => ?_) (fun c1 => ?_)
  · -- c1 true
    try simp only [nrm] at c1
    exfalso
    simp at c1
  · -- c1 false
    try simp only [nrm] at c1
    refine W_skip ?_
    simp only [go_sem, hg, Option.getD_some, Option.getD_none, Option.isSome_some, Option.isSome_none]
    try simp only [go_sem, hg, Option.getD_some, Option.getD_none, Option.isSome_some, Option.isSome_none]
    refine ⟨.inl (by trivial), ?_⟩
    exact Fin_end (CleanSg_ext hcl (by show CleanLs _ _ _ _; simp only [go_sem] <;> omega)) (by simp only [go_sem]) (by simp only [go_sem]) (by simp only [go_sem]) rfl (Wk_eq rfl (by simp only [go_sem]))
    try simp only [go_sem]
    all_goals
      skip
theorem Way2_pc (Y : YEnv) (σ : Sg) (hτ : CleanSg σ) (t : Town) (cl : List Int) (far : List (Int × Int)) (q : List Int) (n : Nat) (at' o x y : Int) (h0 : 0 ≤ (aget at' far).getD 0) (h1 : (aget at' far).getD 0 ≤ 2 ^ 40) (hq : q.length ≤ 2 ^ 40) :
    PC Try.prog Y 118 [I o, .ptr (σ.store.length + 3) 0, .ptr (σ.store.length + 5) 0, .ptr (σ.store.length + 4) 0] (σ.ext [some (twCells t), some [ints cl], some (.mark :: mapE I I far), some [.map (σ.store.length + 2)], some [.isl ((q).map I) (.tok σ.rooms.length n 1)], some [I at'], some [I x, I y]] [n]) (.tuple []) (σ.ext [some (twCells t), some [ints cl], some (.mark :: mapE I I (bstep at' o (far, q)).1), some [.map (σ.store.length + 2)], some [.isl (((bstep at' o (far, q)).2).map I) (.tok σ.rooms.length (bn o far n) 1)], some [I at'], some [I x, I y]] [(bn o far n)]) := by
  unfold bn
  cases hg : aget o far with
  | none => rw [bstep_none hg]; exact Way2_new Y σ hτ t cl far q n at' o x y hg h0 h1 hq
  | some v => rw [bstep_some hg]; exact Way2_old Y σ hτ t cl far q n at' o x y v hg
set_option maxHeartbeats 2000000 in
theorem Way3_none (Y : YEnv) (σ : Sg) (hτ : CleanSg σ) (t : Town) (cl : List Int) (far : List (Int × Int)) (q : List Int) (n m : Nat) (at' o best x y : Int) (hg : aget o far = none) :
    PC Try.prog Y 119 [I o, .ptr (σ.store.length + 3) 0, .ptr (σ.store.length + 5) 0, .ptr (σ.store.length + 6) 0] (σ.ext [some (twCells t), some [ints cl], some (.mark :: mapE I I far), some [.map (σ.store.length + 2)], some [.isl (q.map I) (.tok σ.rooms.length n 1)], some [I at'], some [I best], some [I x, I y]] [n, m]) (.tuple []) (σ.ext [some (twCells t), some [ints cl], some (.mark :: mapE I I far), some [.map (σ.store.length + 2)], some [.isl (q.map I) (.tok σ.rooms.length n 1)], some [I at'], some [I best], some [I x, I y]] [n, m]) := by
  refine PC_of_W Try.func119 rfl (by kernel_rfl) Try.ntmps119 (by simp) fun hcl hca => ?_
  clear hcl
  have hcl := hτ
  refine W_seq fun kz1 kq1 => ?_
  refine W_region [0, 1, 2, 3, 5, 6] fun R hR => ?_   -- r0
  simp only [go_sem, hg, Option.getD_some, Option.getD_none, Option.isSome_some, Option.isSome_none]
  refine hR _ _ (kq1 _ _ ?_); clear hR R; try clear kq1 kz1
  try simp only [go_sem, hg, Option.getD_some, Option.getD_none, Option.isSome_some, Option.isSome_none]
  refine W_seq fun kz2 kq2 => ?_
  refine W_region [0, 3, 21] fun R hR => ?_   -- r1
  simp only [go_sem, hg, Option.getD_some, Option.getD_none, Option.isSome_some, Option.isSome_none]
  try simp (disch := omega) only [wrapI, wrapU]
  refine hR _ _ (kq2 _ _ ?_); clear hR R; try clear kq2 kz2
  try simp only [go_sem, hg, Option.getD_some, Option.getD_none, Option.isSome_some, Option.isSome_none]
  refine W_cond_false rfl ?_
  refine W_skip ?_
  simp only [go_sem, hg, Option.getD_some, Option.getD_none, Option.isSome_some, Option.isSome_none]
  try simp only [go_sem, hg, Option.getD_some, Option.getD_none, Option.isSome_some, Option.isSome_none]
  refine ⟨.inl (by trivial), ?_⟩
  exact Fin_end (CleanSg_ext hcl (by show CleanLs _ _ _ _; simp only [go_sem] <;> omega)) (by simp only [go_sem]) (by simp only [go_sem]) (by simp only [go_sem]) rfl (Wk_eq rfl (by simp only [go_sem]))
  try simp only [go_sem]
  all_goals
    skip
set_option maxHeartbeats 2000000 in
theorem Way3_some (Y : YEnv) (σ : Sg) (hτ : CleanSg σ) (t : Town) (cl : List Int) (far : List (Int × Int)) (q : List Int) (n m : Nat) (at' o best x y : Int) (v : Int) (hg : aget o far = some v) (h0 : 0 ≤ (aget at' far).getD 0) (h1 : (aget at' far).getD 0 ≤ 2 ^ 40) :
    PC Try.prog Y 119 [I o, .ptr (σ.store.length + 3) 0, .ptr (σ.store.length + 5) 0, .ptr (σ.store.length + 6) 0] (σ.ext [some (twCells t), some [ints cl], some (.mark :: mapE I I far), some [.map (σ.store.length + 2)], some [.isl (q.map I) (.tok σ.rooms.length n 1)], some [I at'], some [I best], some [I x, I y]] [n, m]) (.tuple []) (σ.ext [some (twCells t), some [ints cl], some (.mark :: mapE I I far), some [.map (σ.store.length + 2)], some [.isl (q.map I) (.tok σ.rooms.length n 1)], some [I at'], some [I (bmin (decide (v = (aget at' far).getD 0 - 1)) best o)], some [I x, I y]] [n, m]) := by
  refine PC_of_W Try.func119 rfl (by kernel_rfl) Try.ntmps119 (by simp) fun hcl hca => ?_
  clear hcl
  have hcl := hτ
  have w1 : IntKind.i64.wrap ((aget at' far).getD 0 - 1) = (aget at' far).getD 0 - 1 := wrapI (by omega) (by omega)
  refine W_seq fun kz1 kq1 => ?_
  refine W_region [0, 1, 2, 3, 5, 6] fun R hR => ?_   -- r0
  simp only [go_sem, hg, Option.getD_some, Option.getD_none, Option.isSome_some, Option.isSome_none, w1]
  refine hR _ _ (kq1 _ _ ?_); clear hR R; try clear kq1 kz1
  try simp only [go_sem, hg, Option.getD_some, Option.getD_none, Option.isSome_some, Option.isSome_none, w1]
  refine W_seq fun kz2 kq2 => ?_
  refine W_region [0, 3, 21] fun R hR => ?_   -- r1
  simp only [go_sem, hg, Option.getD_some, Option.getD_none, Option.isSome_some, Option.isSome_none, w1]
  try simp (disch := omega) only [wrapI, wrapU]
  refine hR _ _ (kq2 _ _ ?_); clear hR R; try clear kq2 kz2
  try simp only [go_sem, hg, Option.getD_some, Option.getD_none, Option.isSome_some, Option.isSome_none, w1]
  refine W_cond rfl (fun c1 => ?_) (fun c1 => ?_)
  · -- c1 true
    try simp only [nrm] at c1
    have hb : bmin (decide (v = (aget at' far).getD 0 - 1)) best o = min best o := by simp [bmin, c1]
    rw [hb]
    refine W_region [] fun R hR => ?_   -- r2
    simp only [go_sem, hg, Option.getD_some, Option.getD_none, Option.isSome_some, Option.isSome_none, w1]
    refine hR _ _ ?_; clear hR R
    try simp only [go_sem, hg, Option.getD_some, Option.getD_none, Option.isSome_some, Option.isSome_none, w1]
    try simp only [go_sem, hg, Option.getD_some, Option.getD_none, Option.isSome_some, Option.isSome_none, w1]
    refine ⟨.inl (by trivial), ?_⟩
    exact Fin_end (CleanSg_ext hcl (by show CleanLs _ _ _ _; simp only [go_sem] <;> omega)) (by simp only [go_sem]) (by simp only [go_sem]) (by simp only [go_sem]) rfl (Wk_eq rfl (by simp only [go_sem]))
    try simp only [go_sem]
    all_goals
      skip
  · -- c1 false
    try simp only [nrm] at c1
    have hb : bmin (decide (v = (aget at' far).getD 0 - 1)) best o = best := by simp [bmin, c1]
    rw [hb]
    refine W_skip ?_
    simp only [go_sem, hg, Option.getD_some, Option.getD_none, Option.isSome_some, Option.isSome_none, w1]
    try simp only [go_sem, hg, Option.getD_some, Option.getD_none, Option.isSome_some, Option.isSome_none, w1]
    refine ⟨.inl (by trivial), ?_⟩
    exact Fin_end (CleanSg_ext hcl (by show CleanLs _ _ _ _; simp only [go_sem] <;> omega)) (by simp only [go_sem]) (by simp only [go_sem]) (by simp only [go_sem]) rfl (Wk_eq rfl (by simp only [go_sem]))
    try simp only [go_sem]
    all_goals
      skip
theorem Way3_pc (Y : YEnv) (σ : Sg) (hτ : CleanSg σ) (t : Town) (cl : List Int) (far : List (Int × Int)) (q : List Int) (n m : Nat) (at' o best x y : Int) (h0 : 0 ≤ (aget at' far).getD 0) (h1 : (aget at' far).getD 0 ≤ 2 ^ 40) :
    PC Try.prog Y 119 [I o, .ptr (σ.store.length + 3) 0, .ptr (σ.store.length + 5) 0, .ptr (σ.store.length + 6) 0] (σ.ext [some (twCells t), some [ints cl], some (.mark :: mapE I I far), some [.map (σ.store.length + 2)], some [.isl (q.map I) (.tok σ.rooms.length n 1)], some [I at'], some [I best], some [I x, I y]] [n, m]) (.tuple []) (σ.ext [some (twCells t), some [ints cl], some (.mark :: mapE I I far), some [.map (σ.store.length + 2)], some [.isl (q.map I) (.tok σ.rooms.length n 1)], some [I at'], some [I (bmin (nearer far at' o) best o)], some [I x, I y]] [n, m]) := by
  unfold nearer
  cases hg : aget o far with
  | none => exact Way3_none Y σ hτ t cl far q n m at' o best x y hg
  | some v => exact Way3_some Y σ hτ t cl far q n m at' o best x y v hg h0 h1
set_option maxHeartbeats 4000000 in
theorem Way1a_pc (Y : YEnv) (σ : Sg) (hτ : CleanSg σ) (t : Town) (cl : List Int) (far : List (Int × Int)) (q : List Int) (n : Nat) (at' : Int) (hs : t.streets.length < 2 ^ 40) (hc : cl.length < 2 ^ 40) (hN : t.rooms.length < 2 ^ 40) (hv : ∀ s, s ∈ t.streets → 0 ≤ s.1 ∧ s.1 < t.rooms.length ∧ 0 ≤ s.2 ∧ s.2 < t.rooms.length) (hf : FI t.rooms.length far q) :
    PC Try.prog Y 116 [I at', .func (.func 118) [] [.ptr (σ.store.length + 3) 0, .ptr (σ.store.length + 5) 0, .ptr (σ.store.length + 4) 0], .ptr σ.store.length 0, .ptr (σ.store.length + 1) 0] (σ.ext [some (twCells t), some [ints cl], some (.mark :: mapE I I far), some [.map (σ.store.length + 2)], some [.isl ((q).map I) (.tok σ.rooms.length n 1)], some [I at']] [n]) (.tuple []) (σ.ext [some (twCells t), some [ints cl], some (.mark :: mapE I I (bstepsN at' (nbs cl at' t.streets 0) (far, q) n).1.1), some [.map (σ.store.length + 2)], some [.isl (((bstepsN at' (nbs cl at' t.streets 0) (far, q) n).1.2).map I) (.tok σ.rooms.length (bstepsN at' (nbs cl at' t.streets 0) (far, q) n).2 1)], some [I at']] [(bstepsN at' (nbs cl at' t.streets 0) (far, q) n).2]) := by
  refine PC_of_W Try.func116 rfl (by kernel_rfl) Try.ntmps116 (by simp) fun hcl hca => ?_
  clear hcl
  have hcl := hτ
  obtain ⟨res, hres⟩ : ∃ r, (bstepsN at' (nbs cl at' t.streets 0) (far, q) n) = r := ⟨_, rfl⟩
  rw [hres]
  refine W_seq fun kz1 kq1 => ?_
  refine W_region [0, 1, 3, 10, 11, 12] fun R hR => ?_   -- r0
  simp only [go_sem]
  refine hR _ _ (kq1 _ _ ?_); clear hR R; try clear kq1 kz1
  try simp only [go_sem]
  refine W_block ?_
  refine W_loopT (α := Nat × (List (Int × Int)) × (List Int) × Nat) (fun ⟨i, far', q', n'⟩ => [(12, I i)]) (fun ⟨i, far', q', n'⟩ => σ.ext [some (twCells t), some [ints cl], some (.mark :: mapE I I far'), some [.map (σ.store.length + 2)], some [.isl ((q').map I) (.tok σ.rooms.length n' 1)], some [I at']] [n']) (fun ⟨i, far', q', n'⟩ => i ≤ t.streets.length ∧ res = bstepsN at' (nbs cl at' (t.streets.drop i) i) (far', q') n' ∧ FI t.rooms.length far' q') (fun ⟨i, far', q', n'⟩ => t.streets.length - i) ((0, far, q, n)) rfl (by first | rfl | (simp only [go_sem]; done) | (simp only [go_sem]; rfl)) (⟨Nat.zero_le _, hres.symm, hf⟩) ?_
  rintro ⟨i, far', q', n'⟩ ⟨hi, hinv, hf'⟩
  refine W_seq fun kz2 kq2 => ?_
  refine W_region [0, 1, 3, 10, 11, 12, 13] fun R hR => ?_   -- r1
  simp only [go_sem]
  refine hR _ _ (kq2 _ _ ?_); clear hR R; try clear kq2 kz2
  try simp only [go_sem]
  refine W_seq fun kz3 kq3 => ?_
  refine W_cond rfl (fun c1 => ?_) (fun c1 => ?_)
  · -- c1 true
    try simp only [nrm] at c1
    have hi' : i < t.streets.length := by first | assumption | omega
    obtain ⟨s, hx⟩ : ∃ s, t.streets[i]? = some s := ⟨t.streets[i], by simp [hi']⟩
    have hdrop : t.streets.drop i = s :: t.streets.drop (i + 1) := by
      rw [List.drop_eq_getElem_cons hi']; congr 1; exact (List.getElem?_eq_some_iff.1 hx).2
    have hsm : s ∈ t.streets := List.mem_of_getElem? hx
    obtain ⟨v0, v1, v2, v3⟩ := hv s hsm
    have hor : other s at' < t.rooms.length := by unfold other; split <;> (try split) <;> omega
    rw [hdrop] at hinv
    refine W_skip (kq3 _ _ ?_)
    refine W_seq fun kz4 kq4 => ?_
    refine W_block ?_
    refine W_seq fun kz5 kq5 => ?_
    refine W_region [0, 1, 3, 6, 7, 10, 11, 12] fun R hR => ?_   -- r2
    simp only [go_sem, hx]
    refine hR _ _ (kq5 _ _ ?_); clear hR R; try clear kq5 kz5
    try simp only [go_sem, hx]
    refine W_seq fun kz6 kq6 => ?_
    refine W_region [0, 1, 3, 6, 8, 10, 11, 12] fun R hR => ?_   -- r3
    simp only [go_sem, hx]
    refine GCall_of (cother_pc Y _ s at') ?_   -- t19
    simp only [go_sem, hx]
    refine hR _ _ (kq6 _ _ ?_); clear hR R; try clear kq6 kz6
    try simp only [go_sem, hx]
    refine W_seq fun kz7 kq7 => ?_
    refine W_region [0, 1, 3, 8, 10, 11, 12, 27] fun R hR => ?_   -- r4
    simp only [go_sem, hx]
    refine GWant_split (fun g1 => ?_) (fun g1 => ?_)
    · try simp only [Bool.not_eq_true', Bool.not_eq_false'] at g1
      have n1 := g1; try simp only [nrm] at n1
      simp only [go_sem, hx, g1]
      refine GCall_of (Contains_pc Y _ cl (i : Int) .ro (by omega)) ?_   -- t25
      simp only [go_sem, hx, g1]
      refine hR _ _ (kq7 _ _ ?_); clear hR R; try clear kq7 kz7
      try simp only [go_sem, hx]
      refine W_cond rfl (fun c2 => ?_) (fun c2 => ?_)
      · -- c2 true
        try simp only [nrm] at c2
        refine W_region [0, 1, 3, 10, 11, 12] fun R hR => ?_   -- r5
        simp only [go_sem, hx]
        refine GCall_of (Way2_pc Y σ hτ t cl far' q' n' at' (other s at') s.1 s.2 (hf'.val at').1 (by have := (hf'.val at').2; have := hf'.le; omega) (by have := hf'.ql; have := hf'.le; omega)) ?_   -- t30
        simp only [go_sem, hx]
        refine hR _ _ (kq4 _ _ ?_); clear hR R; try clear kq4 kz4
        try simp only [go_sem, hx]
        refine W_region [0, 1, 3, 10, 11, 12] fun R hR => ?_   -- r6
        simp only [go_sem, hx]
        try simp (disch := omega) only [wrapI, wrapU]
        refine hR _ _ ?_; clear hR R
        try simp only [go_sem, hx]
        refine ⟨(i + 1, (bstep at' (other s at') (far', q')).1, (bstep at' (other s at') (far', q')).2, bn (other s at') far' n'), ?_, by (try simp only []); omega, ?_⟩
        · refine Weak.trans (Weak.cutX 6 1 (by omega) (by omega) hcl (by simp only [go_sem] <;> omega) (by simp only [go_sem] <;> omega)) ?_
          simp only [go_sem]
          exact Weak.eq (by first | rfl | (simp only [go_sem]; done) | (simp only [go_sem]; rfl) | (simp [go_sem]; done) | (simp [go_sem]; omega)) (by first | rfl | (simp only [go_sem]; done) | (simp [go_sem]; done))
        · try dsimp only
          first | exact ⟨hi', by rw [hinv, nbs_yes n1 (by simpa using c2)]; rfl, hf'.step at' _ n1 hor⟩ | exact ⟨hi', by rw [hinv, nbs_no (fun h => by obtain ⟨h1, h2⟩ := h; first | omega | (simp_all; done))], hf'⟩
      · -- c2 false
        try simp only [nrm] at c2
        refine W_skip (kq4 _ _ ?_)
        refine W_region [0, 1, 3, 10, 11, 12] fun R hR => ?_   -- r6
        simp only [go_sem, hx]
        try simp (disch := omega) only [wrapI, wrapU]
        refine hR _ _ ?_; clear hR R
        try simp only [go_sem, hx]
        refine ⟨(i + 1, far', q', n'), ?_, by (try simp only []); omega, ?_⟩
        · refine Weak.trans (Weak.cutX 6 1 (by omega) (by omega) hcl (by simp only [go_sem] <;> omega) (by simp only [go_sem] <;> omega)) ?_
          simp only [go_sem]
          exact Weak.eq (by first | rfl | (simp only [go_sem]; done) | (simp only [go_sem]; rfl) | (simp [go_sem]; done) | (simp [go_sem]; omega)) (by first | rfl | (simp only [go_sem]; done) | (simp [go_sem]; done))
        · try dsimp only
          first | exact ⟨hi', by rw [hinv, nbs_yes n1 (by simpa using c2)]; rfl, hf'.step at' _ n1 hor⟩ | exact ⟨hi', by rw [hinv, nbs_no (fun h => by obtain ⟨h1, h2⟩ := h; first | omega | (simp_all; done))], hf'⟩
    · try simp only [Bool.not_eq_true', Bool.not_eq_false'] at g1
      have n1 := g1; try simp only [nrm] at n1
      simp only [go_sem, hx, g1]
      refine hR _ _ (kq7 _ _ ?_); clear hR R; try clear kq7 kz7
      try simp only [go_sem, hx]
      refine W_cond_false rfl ?_
      refine W_skip (kq4 _ _ ?_)
      refine W_region [0, 1, 3, 10, 11, 12] fun R hR => ?_   -- r6
      simp only [go_sem, hx]
      try simp (disch := omega) only [wrapI, wrapU]
      refine hR _ _ ?_; clear hR R
      try simp only [go_sem, hx]
      refine ⟨(i + 1, far', q', n'), ?_, by (try simp only []); omega, ?_⟩
      · refine Weak.trans (Weak.cutX 6 1 (by omega) (by omega) hcl (by simp only [go_sem] <;> omega) (by simp only [go_sem] <;> omega)) ?_
        simp only [go_sem]
        exact Weak.eq (by first | rfl | (simp only [go_sem]; done) | (simp only [go_sem]; rfl) | (simp [go_sem]; done) | (simp [go_sem]; omega)) (by first | rfl | (simp only [go_sem]; done) | (simp [go_sem]; done))
      · try dsimp only
        first | exact ⟨hi', by rw [hinv, nbs_yes n1 (by simpa using c2)]; rfl, hf'.step at' _ n1 hor⟩ | exact ⟨hi', by rw [hinv, nbs_no (fun h => by obtain ⟨h1, h2⟩ := h; first | omega | (simp_all; done))], hf'⟩
  · -- c1 false
    try simp only [nrm] at c1
    have hdrop : t.streets.drop i = [] := List.drop_eq_nil_of_le (by omega)
    rw [hdrop] at hinv
    simp only [nbs, bstepsN] at hinv
    refine W_exit ?_
    simp only [go_sem]
    try simp only [go_sem]
    refine ⟨.inl (by trivial), ?_⟩
    rw [hinv]; exact Fin_end (CleanSg_ext hcl (by show CleanLs _ _ _ _; simp only [go_sem] <;> omega)) (by simp only [go_sem]) (by simp only [go_sem]) (by simp only [go_sem]) rfl (Wk_eq rfl (by simp only [go_sem]))
    try simp only [go_sem]
    all_goals
      skip
set_option maxHeartbeats 4000000 in
theorem Way1b_pc (Y : YEnv) (σ : Sg) (hτ : CleanSg σ) (t : Town) (cl : List Int) (far : List (Int × Int)) (q : List Int) (n m : Nat) (at' best : Int) (hs : t.streets.length < 2 ^ 40) (hc : cl.length < 2 ^ 40) (hN : t.rooms.length < 2 ^ 40) (hv : ∀ s, s ∈ t.streets → 0 ≤ s.1 ∧ s.1 < t.rooms.length ∧ 0 ≤ s.2 ∧ s.2 < t.rooms.length) (h0 : 0 ≤ (aget at' far).getD 0) (h1 : (aget at' far).getD 0 ≤ 2 ^ 40) :
    PC Try.prog Y 116 [I at', .func (.func 119) [] [.ptr (σ.store.length + 3) 0, .ptr (σ.store.length + 5) 0, .ptr (σ.store.length + 6) 0], .ptr σ.store.length 0, .ptr (σ.store.length + 1) 0] (σ.ext [some (twCells t), some [ints cl], some (.mark :: mapE I I far), some [.map (σ.store.length + 2)], some [.isl (q.map I) (.tok σ.rooms.length n 1)], some [I at'], some [I best]] [n, m]) (.tuple []) (σ.ext [some (twCells t), some [ints cl], some (.mark :: mapE I I far), some [.map (σ.store.length + 2)], some [.isl (q.map I) (.tok σ.rooms.length n 1)], some [I at'], some [I (bmins far at' (nbs cl at' t.streets 0) best)]] [n, m]) := by
  refine PC_of_W Try.func116 rfl (by kernel_rfl) Try.ntmps116 (by simp) fun hcl hca => ?_
  clear hcl
  have hcl := hτ
  obtain ⟨res, hres⟩ : ∃ r, (bmins far at' (nbs cl at' t.streets 0) best) = r := ⟨_, rfl⟩
  rw [hres]
  refine W_seq fun kz1 kq1 => ?_
  refine W_region [0, 1, 3, 10, 11, 12] fun R hR => ?_   -- r0
  simp only [go_sem]
  refine hR _ _ (kq1 _ _ ?_); clear hR R; try clear kq1 kz1
  try simp only [go_sem]
  refine W_block ?_
  refine W_loopT (α := Nat × Int) (fun ⟨i, b⟩ => [(12, I i)]) (fun ⟨i, b⟩ => σ.ext [some (twCells t), some [ints cl], some (.mark :: mapE I I far), some [.map (σ.store.length + 2)], some [.isl (q.map I) (.tok σ.rooms.length n 1)], some [I at'], some [I b]] [n, m]) (fun ⟨i, b⟩ => i ≤ t.streets.length ∧ res = bmins far at' (nbs cl at' (t.streets.drop i) i) b) (fun ⟨i, b⟩ => t.streets.length - i) ((0, best)) rfl (by first | rfl | (simp only [go_sem]; done) | (simp only [go_sem]; rfl)) (⟨Nat.zero_le _, hres.symm⟩) ?_
  rintro ⟨i, b⟩ ⟨hi, hinv⟩
  refine W_seq fun kz2 kq2 => ?_
  refine W_region [0, 1, 3, 10, 11, 12, 13] fun R hR => ?_   -- r1
  simp only [go_sem]
  refine hR _ _ (kq2 _ _ ?_); clear hR R; try clear kq2 kz2
  try simp only [go_sem]
  refine W_seq fun kz3 kq3 => ?_
  refine W_cond rfl (fun c1 => ?_) (fun c1 => ?_)
  · -- c1 true
    try simp only [nrm] at c1
    have hi' : i < t.streets.length := by first | assumption | omega
    obtain ⟨s, hx⟩ : ∃ s, t.streets[i]? = some s := ⟨t.streets[i], by simp [hi']⟩
    have hdrop : t.streets.drop i = s :: t.streets.drop (i + 1) := by
      rw [List.drop_eq_getElem_cons hi']; congr 1; exact (List.getElem?_eq_some_iff.1 hx).2
    have hsm : s ∈ t.streets := List.mem_of_getElem? hx
    obtain ⟨v0, v1, v2, v3⟩ := hv s hsm
    have hor : other s at' < t.rooms.length := by unfold other; split <;> (try split) <;> omega
    rw [hdrop] at hinv
    refine W_skip (kq3 _ _ ?_)
    refine W_seq fun kz4 kq4 => ?_
    refine W_block ?_
    refine W_seq fun kz5 kq5 => ?_
    refine W_region [0, 1, 3, 6, 7, 10, 11, 12] fun R hR => ?_   -- r2
    simp only [go_sem, hx]
    refine hR _ _ (kq5 _ _ ?_); clear hR R; try clear kq5 kz5
    try simp only [go_sem, hx]
    refine W_seq fun kz6 kq6 => ?_
    refine W_region [0, 1, 3, 6, 8, 10, 11, 12] fun R hR => ?_   -- r3
    simp only [go_sem, hx]
    refine GCall_of (cother_pc Y _ s at') ?_   -- t19
    simp only [go_sem, hx]
    refine hR _ _ (kq6 _ _ ?_); clear hR R; try clear kq6 kz6
    try simp only [go_sem, hx]
    refine W_seq fun kz7 kq7 => ?_
    refine W_region [0, 1, 3, 8, 10, 11, 12, 27] fun R hR => ?_   -- r4
    simp only [go_sem, hx]
    refine GWant_split (fun g1 => ?_) (fun g1 => ?_)
    · try simp only [Bool.not_eq_true', Bool.not_eq_false'] at g1
      have n1 := g1; try simp only [nrm] at n1
      simp only [go_sem, hx, g1]
      refine GCall_of (Contains_pc Y _ cl (i : Int) .ro (by omega)) ?_   -- t25
      simp only [go_sem, hx, g1]
      refine hR _ _ (kq7 _ _ ?_); clear hR R; try clear kq7 kz7
      try simp only [go_sem, hx]
      refine W_cond rfl (fun c2 => ?_) (fun c2 => ?_)
      · -- c2 true
        try simp only [nrm] at c2
        refine W_region [0, 1, 3, 10, 11, 12] fun R hR => ?_   -- r5
        simp only [go_sem, hx]
        refine GCall_of (Way3_pc Y σ hτ t cl far q n m at' (other s at') b s.1 s.2 h0 h1) ?_   -- t30
        simp only [go_sem, hx]
        refine hR _ _ (kq4 _ _ ?_); clear hR R; try clear kq4 kz4
        try simp only [go_sem, hx]
        refine W_region [0, 1, 3, 10, 11, 12] fun R hR => ?_   -- r6
        simp only [go_sem, hx]
        try simp (disch := omega) only [wrapI, wrapU]
        refine hR _ _ ?_; clear hR R
        try simp only [go_sem, hx]
        refine ⟨(i + 1, bmin (nearer far at' (other s at')) b (other s at')), ?_, by (try simp only []); omega, ?_⟩
        · refine Weak.trans (Weak.cutX 7 2 (by omega) (by omega) hcl (by simp only [go_sem] <;> omega) (by simp only [go_sem] <;> omega)) ?_
          simp only [go_sem]
          exact Weak.eq (by first | rfl | (simp only [go_sem]; done) | (simp only [go_sem]; rfl) | (simp [go_sem]; done) | (simp [go_sem]; omega)) (by first | rfl | (simp only [go_sem]; done) | (simp [go_sem]; done))
        · try dsimp only
          first | exact ⟨hi', by rw [hinv, nbs_yes n1 (by simpa using c2)]; rfl⟩ | exact ⟨hi', by rw [hinv, nbs_no (fun h => by obtain ⟨h1, h2⟩ := h; first | omega | (simp_all; done))]⟩
      · -- c2 false
        try simp only [nrm] at c2
        refine W_skip (kq4 _ _ ?_)
        refine W_region [0, 1, 3, 10, 11, 12] fun R hR => ?_   -- r6
        simp only [go_sem, hx]
        try simp (disch := omega) only [wrapI, wrapU]
        refine hR _ _ ?_; clear hR R
        try simp only [go_sem, hx]
        refine ⟨(i + 1, b), ?_, by (try simp only []); omega, ?_⟩
        · refine Weak.trans (Weak.cutX 7 2 (by omega) (by omega) hcl (by simp only [go_sem] <;> omega) (by simp only [go_sem] <;> omega)) ?_
          simp only [go_sem]
          exact Weak.eq (by first | rfl | (simp only [go_sem]; done) | (simp only [go_sem]; rfl) | (simp [go_sem]; done) | (simp [go_sem]; omega)) (by first | rfl | (simp only [go_sem]; done) | (simp [go_sem]; done))
        · try dsimp only
          first | exact ⟨hi', by rw [hinv, nbs_yes n1 (by simpa using c2)]; rfl⟩ | exact ⟨hi', by rw [hinv, nbs_no (fun h => by obtain ⟨h1, h2⟩ := h; first | omega | (simp_all; done))]⟩
    · try simp only [Bool.not_eq_true', Bool.not_eq_false'] at g1
      have n1 := g1; try simp only [nrm] at n1
      simp only [go_sem, hx, g1]
      refine hR _ _ (kq7 _ _ ?_); clear hR R; try clear kq7 kz7
      try simp only [go_sem, hx]
      refine W_cond_false rfl ?_
      refine W_skip (kq4 _ _ ?_)
      refine W_region [0, 1, 3, 10, 11, 12] fun R hR => ?_   -- r6
      simp only [go_sem, hx]
      try simp (disch := omega) only [wrapI, wrapU]
      refine hR _ _ ?_; clear hR R
      try simp only [go_sem, hx]
      refine ⟨(i + 1, b), ?_, by (try simp only []); omega, ?_⟩
      · refine Weak.trans (Weak.cutX 7 2 (by omega) (by omega) hcl (by simp only [go_sem] <;> omega) (by simp only [go_sem] <;> omega)) ?_
        simp only [go_sem]
        exact Weak.eq (by first | rfl | (simp only [go_sem]; done) | (simp only [go_sem]; rfl) | (simp [go_sem]; done) | (simp [go_sem]; omega)) (by first | rfl | (simp only [go_sem]; done) | (simp [go_sem]; done))
      · try dsimp only
        first | exact ⟨hi', by rw [hinv, nbs_yes n1 (by simpa using c2)]; rfl⟩ | exact ⟨hi', by rw [hinv, nbs_no (fun h => by obtain ⟨h1, h2⟩ := h; first | omega | (simp_all; done))]⟩
  · -- c1 false
    try simp only [nrm] at c1
    have hdrop : t.streets.drop i = [] := List.drop_eq_nil_of_le (by omega)
    rw [hdrop] at hinv
    simp only [nbs, bmins] at hinv
    refine W_exit ?_
    simp only [go_sem]
    try simp only [go_sem]
    refine ⟨.inl (by trivial), ?_⟩
    rw [hinv]; exact Fin_end (CleanSg_ext hcl (by show CleanLs _ _ _ _; simp only [go_sem] <;> omega)) (by simp only [go_sem]) (by simp only [go_sem]) (by simp only [go_sem]) rfl (Wk_eq rfl (by simp only [go_sem]))
    try simp only [go_sem]
    all_goals
      skip
end Go.Proofs.Ytnpamcpoaklgeaa
namespace Go.Proofs.Ytnpamcpoaklgeaa
def backs (far : List (Int × Int)) (nb : Int → List Int) (n : Int) (to' : Int) : Nat → Int → List Int → List Int
  | 0, _, acc => acc
  | k + 1, at', acc => if at' = to' then acc else backs far nb n to' k (bmins far at' (nb at') n) (acc ++ [bmins far at' (nb at') n])
theorem bmins_spec (far : List (Int × Int)) (at' : Int) : ∀ (os : List Int) (b : Int), (bmins far at' os b = b ∨ (bmins far at' os b ∈ os ∧ nearer far at' (bmins far at' os b) = true)) ∧ bmins far at' os b ≤ b ∧ ∀ o, o ∈ os → nearer far at' o = true → bmins far at' os b ≤ o := by
  intro os
  induction os with
  | nil => intro b; exact ⟨.inl rfl, Int.le_refl _, fun o ho => by cases ho⟩
  | cons o os ih =>
    intro b
    simp only [bmins]
    obtain ⟨h1, h2, h3⟩ := ih (bmin (nearer far at' o) b o)
    have hb : bmin (nearer far at' o) b o = if nearer far at' o = true then min b o else b := rfl
    by_cases hn : nearer far at' o = true
    · rw [if_pos hn] at hb
      rw [hb] at h1 h2 h3 ⊢
      refine ⟨?_, by omega, fun x hx hxn => ?_⟩
      · rcases h1 with h1 | ⟨h1, h1'⟩
        · rw [h1]
          by_cases hle : b ≤ o
          · left; omega
          · right
            have : min b o = o := by omega
            rw [this]
            exact ⟨by simp, hn⟩
        · exact .inr ⟨List.mem_cons_of_mem _ h1, h1'⟩
      · rcases List.mem_cons.1 hx with rfl | hx
        · omega
        · exact h3 x hx hxn
    · rw [if_neg hn] at hb
      rw [hb] at h1 h2 h3 ⊢
      refine ⟨?_, h2, fun x hx hxn => ?_⟩
      · rcases h1 with h1 | ⟨h1, h1'⟩
        · exact .inl h1
        · exact .inr ⟨List.mem_cons_of_mem _ h1, h1'⟩
      · rcases List.mem_cons.1 hx with rfl | hx
        · exact absurd hxn hn
        · exact h3 x hx hxn
theorem nearer_iff {far : List (Int × Int)} {at' o d : Int} (h : aget at' far = some d) : nearer far at' o = true ↔ aget o far = some (d - 1) := by
  unfold nearer
  rw [h]
  cases aget o far with
  | none => simp
  | some v => simp
section
variable {nb : Int → List Int} {to' from' : Int} {N : Nat} {far : List (Int × Int)}
/-- A step back. -/
theorem back_ok (hf : FarOK nb to' from' far) (hn : ∀ u o, o ∈ nb u → 0 ≤ o ∧ o < N) {D d at' : Int} (hD : aget from' far = some D) (ha : aget at' far = some d) (hd : d ≤ D) (hne : at' ≠ to') :
    1 ≤ d ∧ aget (bmins far at' (nb at') N) far = some (d - 1) ∧ bmins far at' (nb at') N ∈ nb at' ∧ ∀ o, o ∈ nb at' → aget o far = some (d - 1) → bmins far at' (nb at') N ≤ o := by
  obtain ⟨d0, dd⟩ := hf.dist _ _ ha
  have hd1 : 1 ≤ d := by
    by_cases h : d = 0
    · subst h
      have := dd.1
      simp only [Int.toNat_zero, Reach] at this
      exact absurd this hne
    · omega
  have hr := dd.1
  have e : d.toNat = (d - 1).toNat + 1 := by omega
  rw [e] at hr
  obtain ⟨u, hu, hru⟩ := hr
  obtain ⟨k, hk⟩ := hf.all D hD _ _ hru (by omega)
  obtain ⟨k0, dk⟩ := hf.dist _ _ hk
  have hdu : Dist nb to' u (d - 1).toNat := ⟨hru, fun j hj => by have := dd.2 (j + 1) ⟨u, hu, hj⟩; omega⟩
  have hkk : k = d - 1 := by have := dk.uniq hdu; omega
  subst hkk
  obtain ⟨h1, h2, h3⟩ := bmins_spec far at' (nb at') N
  have hnu : nearer far at' u = true := (nearer_iff ha).2 hk
  have hle := h3 u hu hnu
  have hun := hn _ _ hu
  rcases h1 with h1 | ⟨h1, h1'⟩
  · omega
  · exact ⟨hd1, (nearer_iff ha).1 h1', h1, fun o ho hoo => h3 o ho ((nearer_iff ha).2 hoo)⟩
end
theorem other_sym {s : Int × Int} {u v : Int} (h0 : 0 ≤ u) (hv : 0 ≤ v) (h : v = other s u) : u = other s v := by
  subst h
  unfold other at hv ⊢
  by_cases h1 : u = s.1
  · rw [if_pos h1] at hv ⊢
    by_cases h2 : s.2 = s.1
    · rw [if_pos h2, h2]; exact h1
    · rw [if_neg h2, if_pos rfl]; exact h1
  · rw [if_neg h1] at hv ⊢
    by_cases h2 : u = s.2
    · rw [if_pos h2, if_pos rfl]; exact h2
    · rw [if_neg h2] at hv; omega
/-- The streets that are open, from a square; none from where no square is. -/
def nbT (t : Town) (cl : List Int) (sq : Int) : List Int := nbs cl sq t.streets 0
def ValidSt (t : Town) : Prop := ∀ s, s ∈ t.streets → 0 ≤ s.1 ∧ s.1 < t.rooms.length ∧ 0 ≤ s.2 ∧ s.2 < t.rooms.length
theorem nbT_bd {t : Town} {cl : List Int} (hv : ValidSt t) (u o : Int) (h : o ∈ nbT t cl u) : 0 ≤ o ∧ o < t.rooms.length := by
  obtain ⟨k, s, h1, h2, h3, _⟩ := nbs_mem.1 h
  obtain ⟨a, b, c, d⟩ := hv s (List.mem_of_getElem? h1)
  subst h2
  refine ⟨h3, ?_⟩
  unfold other
  split
  · exact d
  · split
    · exact b
    · omega
theorem nbT_from {t : Town} {cl : List Int} (hv : ValidSt t) {u o : Int} (h : o ∈ nbT t cl u) : 0 ≤ u ∧ u < t.rooms.length := by
  obtain ⟨k, s, h1, h2, h3, _⟩ := nbs_mem.1 h
  obtain ⟨a, b, c, d⟩ := hv s (List.mem_of_getElem? h1)
  subst h2
  unfold other at h3
  split at h3
  · rename_i e; rw [e]; exact ⟨a, b⟩
  · split at h3
    · rename_i e; rw [e]; exact ⟨c, d⟩
    · omega
theorem nbT_sym {t : Town} {cl : List Int} (hv : ValidSt t) (u v : Int) (h : u ∈ nbT t cl v) : v ∈ nbT t cl u := by
  have hv0 := nbT_from hv h
  obtain ⟨k, s, h1, h2, h3, h4⟩ := nbs_mem.1 h
  exact nbs_mem.2 ⟨k, s, h1, other_sym hv0.1 h3 h2, hv0.1, h4⟩
def wayFar (t : Town) (cl : List Int) (from' to' : Int) : List (Int × Int) := bfs (nbT t cl) from' (2 * t.rooms.length) [(to', 0)] [to']
def wayAns (t : Town) (cl : List Int) (from' to' : Int) : List Int × Int :=
  if closedAns t cl ≠ 0 then ([], closedAns t cl) else if !(allIn 0 ((t.rooms.length : Int) - 1) [from', to']) then ([], 7) else
  if (aget from' (wayFar t cl from' to')).isSome then (backs (wayFar t cl from' to') (nbT t cl) t.rooms.length to' (t.rooms.length + 1) from' [from'], 0) else ([], 7)
theorem wayFar_ok {t : Town} {cl : List Int} (hv : ValidSt t) {from' to' : Int} (h0 : 0 ≤ to') (h1 : to' < t.rooms.length) : FarOK (nbT t cl) to' from' (wayFar t cl from' to') := by
  refine bfs_ok (N := t.rooms.length) (nbT_sym hv) (nbT_bd hv) _ _ _ 0 (BI.start h0 h1) ?_ (fun e he => by simp at he)
  simp only [meas, List.length_cons, List.length_nil]
  omega
end Go.Proofs.Ytnpamcpoaklgeaa
namespace Go.Proofs.Ytnpamcpoaklgeaa
open Go Go.RowKit
/-- A value, and what it is when the variables n + ks[i] become the variables n + i. -/
inductive Rn (n nr ny : Nat) (ks : List Nat) : PV → PV → Prop where
  | gone (p : PV) : Rn n nr ny ks p .undef
  | same (p : PV) (h : Clean n nr ny p) : Rn n nr ny ks p p
  | ptr (i k id id' off : Nat) (h : ks[i]? = some k) (e : id = n + k) (e' : id' = n + i) : Rn n nr ny ks (.ptr id off) (.ptr id' off)
  | msl (i k id id' off len : Nat) (h : ks[i]? = some k) (e : id = n + k) (e' : id' = n + i) : Rn n nr ny ks (.msl id off len) (.msl id' off len)
  | gsl (i k id id' len es : Nat) (h : ks[i]? = some k) (e : id = n + k) (e' : id' = n + i) : Rn n nr ny ks (.gsl id len es) (.gsl id' len es)
  | mapv (i k id id' : Nat) (h : ks[i]? = some k) (e : id = n + k) (e' : id' = n + i) : Rn n nr ny ks (.map id) (.map id')
  | func (fn : Fn) (fs cs cs' : List PV) (hf : ∀ p, p ∈ fs → Clean n nr ny p) (hl : cs'.length = cs.length) (h : ∀ (j : Nat) (p v : PV), cs[j]? = some p → cs'[j]? = some v → Rn n nr ny ks p v) : Rn n nr ny ks (.func fn fs cs) (.func fn fs cs')
  | agg (cs cs' : List PV) (hl : cs'.length = cs.length) (h : ∀ (j : Nat) (p v : PV), cs[j]? = some p → cs'[j]? = some v → Rn n nr ny ks p v) : Rn n nr ny ks (.agg cs) (.agg cs')
  | tuple (cs cs' : List PV) (hl : cs'.length = cs.length) (h : ∀ (j : Nat) (p v : PV), cs[j]? = some p → cs'[j]? = some v → Rn n nr ny ks p v) : Rn n nr ny ks (.tuple cs) (.tuple cs')
def RnL (n nr ny : Nat) (ks : List Nat) : List PV → List PV → Prop
  | [], [] => True
  | p :: l, v :: m => Rn n nr ny ks p v ∧ RnL n nr ny ks l m
  | _, _ => False
theorem RnL.get {n nr ny : Nat} {ks : List Nat} : ∀ {l m : List PV}, RnL n nr ny ks l m → m.length = l.length ∧ ∀ (j : Nat) (p v : PV), l[j]? = some p → m[j]? = some v → Rn n nr ny ks p v := by
  intro l
  induction l with
  | nil =>
    intro m h
    cases m with
    | nil => exact ⟨rfl, fun j p v h => by simp at h⟩
    | cons => exact h.elim
  | cons q l ih =>
    intro m h
    cases m with
    | nil => exact h.elim
    | cons u m =>
      obtain ⟨h1, h2⟩ := h
      obtain ⟨g1, g2⟩ := ih h2
      refine ⟨by simp [g1], fun j p v hp hv => ?_⟩
      cases j with
      | zero => simp at hp hv; subst hp hv; exact h1
      | succ j => exact g2 j p v (by simpa using hp) (by simpa using hv)
theorem Rn.funcL {n nr ny : Nat} {ks : List Nat} {fn : Fn} {cs cs' : List PV} (h : RnL n nr ny ks cs cs') : Rn n nr ny ks (.func fn [] cs) (.func fn [] cs') := .func fn [] cs cs' (fun p hp => by cases hp) h.get.1 h.get.2
def RnE (n nr ny : Nat) (ks : List Nat) : Env → Env → Prop
  | [], [] => True
  | (t, p) :: E, (t', v) :: E' => t = t' ∧ Rn n nr ny ks p v ∧ RnE n nr ny ks E E'
  | _, _ => False
theorem RnE.get {n nr ny : Nat} {ks : List Nat} : ∀ {E E' : Env}, RnE n nr ny ks E E' → ∀ t, Rn n nr ny ks (E.get t) (E'.get t) := by
  intro E
  induction E with
  | nil =>
    intro E' h t
    cases E' with
    | nil => exact .gone _
    | cons => exact h.elim
  | cons kv E ih =>
    intro E' h t
    obtain ⟨a, p⟩ := kv
    cases E' with
    | nil => exact h.elim
    | cons kv' E' =>
      obtain ⟨a', v⟩ := kv'
      obtain ⟨rfl, h1, h2⟩ := h
      simp only [Env.get]
      split
      · exact h1
      · exact ih h2 t
/-- A variable's cells: a map's stay as they are. -/
def RnV (n nr ny : Nat) (ks : List Nat) (cs cs' : List PV) : Prop := (CleanAll n nr ny cs ∧ cs' = cs) ∨ (cs.head? ≠ some .mark ∧ RnL n nr ny ks cs cs')
def RnS (n nr ny : Nat) (ks : List Nat) (l : List (Option (List PV))) : List Nat → List (Option (List PV)) → Prop
  | [], [] => True
  | k :: r, some cs' :: m => (∃ cs, l[k]? = some (some cs) ∧ RnV n nr ny ks cs cs') ∧ RnS n nr ny ks l r m
  | _ :: r, none :: m => RnS n nr ny ks l r m
  | _, _ => False
theorem RnS.get {n nr ny : Nat} {ks : List Nat} {l : List (Option (List PV))} : ∀ {r : List Nat} {m : List (Option (List PV))}, RnS n nr ny ks l r m → m.length = r.length ∧
    ∀ (i : Nat) (cs' : List PV), m[i]? = some (some cs') → ∃ k cs, r[i]? = some k ∧ l[k]? = some (some cs) ∧ RnV n nr ny ks cs cs' := by
  intro r
  induction r with
  | nil =>
    intro m h
    cases m with
    | nil => exact ⟨rfl, fun i cs' h => by simp at h⟩
    | cons => exact h.elim
  | cons k r ih =>
    intro m h
    cases m with
    | nil => exact h.elim
    | cons o m =>
      cases o with
      | none =>
        obtain ⟨g1, g2⟩ := ih (m := m) h
        refine ⟨by simp [g1], fun i cs' hi => ?_⟩
        cases i with
        | zero => simp at hi
        | succ i =>
          obtain ⟨k', cs, q1, q2⟩ := g2 i cs' (by simpa using hi)
          exact ⟨k', cs, by simpa using q1, q2⟩
      | some c =>
        obtain ⟨⟨cs, h1, h2⟩, h3⟩ := h
        obtain ⟨g1, g2⟩ := ih h3
        refine ⟨by simp [g1], fun i cs' hi => ?_⟩
        cases i with
        | zero => simp at hi; subst hi; exact ⟨k, cs, rfl, h1, h2⟩
        | succ i =>
          obtain ⟨k', cs, q1, q2⟩ := g2 i cs' (by simpa using hi)
          exact ⟨k', cs, by simpa using q1, q2⟩
def Ty.ren (Ψ : Ty) (n : Nat) (ks : List Nat) : Ty := { Ψ with β := Ψ.β.take n ++ ks.map fun k => Ψ.β.getD (n + k) 0 }
theorem Ty.ren_low {Ψ : Ty} {n : Nat} {ks : List Nat} {i b : Nat} (hi : i < n) (h : Ψ.β[i]? = some b) : (Ψ.ren n ks).β[i]? = some b := by
  have hl := (List.getElem?_eq_some_iff.1 h).1
  simp only [Ty.ren]
  rw [List.getElem?_append_left (by simp; omega), List.getElem?_take_of_lt hi]
  exact h
theorem Ty.ren_high {Ψ : Ty} {n : Nat} {ks : List Nat} {i k b : Nat} (hn : n ≤ Ψ.β.length) (hi : ks[i]? = some k) (h : Ψ.β[n + k]? = some b) : (Ψ.ren n ks).β[n + i]? = some b := by
  have hl : (Ψ.β.take n).length = n := by simp; omega
  simp only [Ty.ren]
  rw [List.getElem?_append_right (by omega), hl, show n + i - n = i by omega, List.getElem?_map, hi]
  simp only [Option.map_some, List.getD_eq_getElem?_getD, h, Option.getD_some]
theorem Ty.ren_inv {Ψ : Ty} {n : Nat} {ks : List Nat} {id b : Nat} (hn : n ≤ Ψ.β.length) (h : (Ψ.ren n ks).β[id]? = some b) : (id < n ∧ Ψ.β[id]? = some b) ∨ ∃ i k, id = n + i ∧ ks[i]? = some k ∧ b = Ψ.β.getD (n + k) 0 := by
  have hl : (Ψ.β.take n).length = n := by simp; omega
  simp only [Ty.ren] at h
  by_cases hi : id < n
  · rw [List.getElem?_append_left (by omega), List.getElem?_take_of_lt hi] at h
    exact .inl ⟨hi, h⟩
  · rw [List.getElem?_append_right (by omega), hl, List.getElem?_map] at h
    cases hk : ks[id - n]? with
    | none => rw [hk] at h; cases h
    | some k =>
      rw [hk] at h
      injection h with h
      exact .inr ⟨id - n, k, by omega, hk, h.symm⟩
theorem VR.renClean {Ψ : Ty} {n nr ny : Nat} {ks : List Nat} {p : PV} {x : Value} (h : VR Ψ p x) (hc : Clean n nr ny p) : VR (Ψ.ren n ks) p x := by
  refine VR.mono0 (Ψ := Ψ.trim n nr ny) (Ψ' := Ψ.ren n ks) (fun b o v k => k) (fun i b k => ?_) (fun r m y k => ?_) (fun i b k => ?_) (fun d k => k) (h.trim hc)
  · simp only [Ty.trim] at k
    have hi : i < n := by have := (List.getElem?_eq_some_iff.1 k).1; simp at this; omega
    rw [List.getElem?_take_of_lt hi] at k
    exact Ty.ren_low hi k
  · simp only [Ty.trim] at k
    split at k
    · exact k
    · cases k
  · simp only [Ty.trim, List.getElem?_take] at k
    split at k
    · exact k
    · cases k
theorem VR.ren {Ψ : Ty} {n nr ny : Nat} {ks : List Nat} (hn : n ≤ Ψ.β.length) {p v : PV} (hr : Rn n nr ny ks p v) : ∀ {x : Value}, VR Ψ p x → VR (Ψ.ren n ks) v x := by
  induction hr with
  | gone p => intro x _; exact .undef x
  | same p hc =>
    intro x h
    exact h.renClean hc
  | ptr i k id id' off h e e' =>
    intro x hx
    cases hx with
    | ptr _ _ b hb hz => subst e e'; exact .ptr _ _ b (Ty.ren_high hn h hb) hz
  | msl i k id id' off len h e e' =>
    intro x hx
    cases hx with
    | msl _ _ _ b cap hb hz hc => subst e e'; exact .msl _ _ _ b cap (Ty.ren_high hn h hb) hz hc
  | gsl i k id id' len es h e e' =>
    intro x hx
    cases hx with
    | gsl _ _ _ b cap hb hz h0 hc => subst e e'; exact .gsl _ _ _ b cap (Ty.ren_high hn h hb) hz h0 hc
  | mapv i k id id' h e e' =>
    intro x hx
    cases hx with
    | map _ b hb => subst e e'; exact .map _ b (Ty.ren_high hn h hb)
  | func fn fs cs cs' hf hl h ih =>
    intro x hx
    cases hx with
    | func _ _ _ xs ys h1 h2 h3 h4 =>
      refine .func fn fs cs' xs ys h1 (by rw [h2, hl]) (fun j p v q1 q2 => ?_) (fun j p v q1 q2 => ?_)
      · have hc := hf p (List.mem_of_getElem? q1)
        exact (h3 j p v q1 q2).renClean hc
      · have hj : j < cs.length := by rw [← hl]; exact (List.getElem?_eq_some_iff.1 q1).1
        exact ih j cs[j] p (by simp [hj]) q1 (h4 j cs[j] v (by simp [hj]) q2)
  | agg cs cs' hl h ih =>
    intro x hx
    cases hx with
    | agg _ vs h1 h2 =>
      refine .agg cs' vs (by rw [h1, hl]) fun j p v q1 q2 => ?_
      have hj : j < cs.length := by rw [← hl]; exact (List.getElem?_eq_some_iff.1 q1).1
      exact ih j cs[j] p (by simp [hj]) q1 (h2 j cs[j] v (by simp [hj]) q2)
  | tuple cs cs' hl h ih =>
    intro x hx
    cases hx with
    | tuple _ vs h1 h2 =>
      refine .tuple cs' vs (by rw [h1, hl]) fun j p v q1 q2 => ?_
      have hj : j < cs.length := by rw [← hl]; exact (List.getElem?_eq_some_iff.1 q1).1
      exact ih j cs[j] p (by simp [hj]) q1 (h2 j cs[j] v (by simp [hj]) q2)
theorem Keeps.ren {Ψ : Ty} {w : World} {n nr ny b : Nat} {ks : List Nat} {cs cs' : List PV} (hn : n ≤ Ψ.β.length) (h : Keeps Ψ w b cs) (hv : RnV n nr ny ks cs cs') : Keeps (Ψ.ren n ks) w b cs' := by
  rcases hv with ⟨hc, rfl⟩ | ⟨hm, hL⟩
  · rcases h with ⟨c, h1, h2, h3⟩ | ⟨arr, es, h0, h1, h2, h3⟩
    · exact .inl ⟨c, h1, h2, fun j p v q1 q2 => (h3 j p v q1 q2).ren hn (.same p (hc p (List.mem_of_getElem? q1)))⟩
    · refine .inr ⟨arr, es, h0, h1, h2, fun j p e q1 q2 => ?_⟩
      obtain ⟨g1, k, v, rfl, g3, g4⟩ := h3 j p e q1 q2
      have hcl := hc _ (by rw [h0]; exact List.mem_cons_of_mem _ (List.mem_of_getElem? q1))
      cases hcl with
      | tuple _ hh => exact ⟨g1, k, v, rfl, g3.ren hn (.same k (hh k (by simp))), g4.ren hn (.same v (hh v (by simp)))⟩
  · obtain ⟨g1, g2⟩ := hL.get
    rcases h with ⟨c, h1, h2, h3⟩ | ⟨arr, es, h0, _⟩
    · refine .inl ⟨c, h1, by omega, fun j p v q1 q2 => ?_⟩
      have hj : j < cs.length := by rw [← g1]; exact (List.getElem?_eq_some_iff.1 q1).1
      exact (h3 j cs[j] v (by simp [hj]) q2).ren hn (g2 j cs[j] p (by simp [hj]) q1)
    · rw [h0] at hm
      exact absurd rfl hm
theorem Weak.ren {N : Nat} {lo : Nat × Nat} {E E' : Env} {σ : Sg} {l l' : List (Option (List PV))} {rm : List Nat} {ys : List LState} (ks : List Nat) (hnd : ks.Nodup) (hkl : ∀ k, k ∈ ks → k < l.length) (h1 : lo.1 ≤ σ.store.length) (hcl : CleanSg σ)
    (hE : ∀ t, Rn σ.store.length (σ.rooms.length + rm.length) (σ.ys.length + ys.length) ks (E.get t) (E'.get t))
    (hL : RnS σ.store.length (σ.rooms.length + rm.length) (σ.ys.length + ys.length) ks l ks l') :
    Weak N lo E (σ.ext l rm ys) E' (σ.ext l' rm ys) := by
  intro Ψ0 Ψ D a w hb le hr
  have hs := hr.sg
  have hblen : Ψ.β.length = σ.store.length + l.length := by rw [hs.blen]; simp [Sg.ext]
  have hn : σ.store.length ≤ Ψ.β.length := by omega
  obtain ⟨l1, l2⟩ := hL.get
  have live : ∀ (id : Nat) (cs : List PV), (σ.ext l' rm ys).store[id]? = some (some cs) → ∃ id0 cs0, (σ.ext l rm ys).store[id0]? = some (some cs0) ∧ (∀ b, (Ψ.ren σ.store.length ks).β[id]? = some b → Ψ.β[id0]? = some b) ∧
      RnV σ.store.length (σ.rooms.length + rm.length) (σ.ys.length + ys.length) ks cs0 cs ∧ ((id < σ.store.length ∧ id0 = id) ∨ ∃ i k, id = σ.store.length + i ∧ ks[i]? = some k ∧ id0 = σ.store.length + k) := by
    intro id cs hid
    have hid' : (σ.store ++ l')[id]? = some (some cs) := hid
    by_cases h : id < σ.store.length
    · rw [List.getElem?_append_left h] at hid'
      refine ⟨id, cs, ?_, fun b hb2 => ?_, .inl ⟨fun p hp => (hcl id cs h hid' p hp).mono (Nat.le_refl _) (Nat.le_add_right _ _) (Nat.le_add_right _ _), rfl⟩, .inl ⟨h, rfl⟩⟩
      · show (σ.store ++ l)[id]? = _
        rw [List.getElem?_append_left h]; exact hid'
      · rcases Ty.ren_inv hn hb2 with ⟨_, q⟩ | ⟨i, k, q, _⟩
        · exact q
        · omega
    · rw [List.getElem?_append_right (by omega)] at hid'
      obtain ⟨k, cs0, q1, q2, q3⟩ := l2 _ cs hid'
      refine ⟨σ.store.length + k, cs0, ?_, fun b hb2 => ?_, q3, .inr ⟨id - σ.store.length, k, by omega, q1, rfl⟩⟩
      · rw [Sg.get_ext]; exact q2
      · rcases Ty.ren_inv hn hb2 with ⟨q, _⟩ | ⟨i, k', q4, q5, q6⟩
        · omega
        · have : i = id - σ.store.length := by omega
          subst this
          rw [q1] at q5
          injection q5 with q5
          subst q5
          have hkl : k < l.length := (List.getElem?_eq_some_iff.1 q2).1
          have : σ.store.length + k < Ψ.β.length := by omega
          rw [q6, List.getD_eq_getElem?_getD, List.getElem?_eq_getElem this]
          rfl
  refine ⟨Ψ.ren σ.store.length ks, ⟨le.base, le.imm, fun i b k => ?_, le.hist, le.ys, le.ds, le.rs, le.sz⟩, hr.size, fun t => (hr.env t).ren hn (hE t), ?_, hr.dsub, hr.defs⟩
  · have hi : i < σ.store.length := by
      have := (List.getElem?_eq_some_iff.1 k).1
      have := hb.1
      omega
    exact Ty.ren_low hi (le.β i b k)
  · refine ⟨hs.base, hs.imm, by simp [Ty.ren, Sg.ext, hblen, l1], ?_, ?_, ?_, hs.roomsApart, hs.histlt, hs.histle, ?_, hs.yok, hs.ylen', hs.dok, ?_, hs.szok⟩
    · intro id cs b k1 k2
      obtain ⟨id0, cs0, g1, g2, g3, _⟩ := live id cs k1
      obtain ⟨a1, a2, a3⟩ := hs.block id0 cs0 b g1 (g2 b k2)
      exact ⟨a1, a2, a3.ren hn g3⟩
    · intro id id' cs cs' b k1 k2 k3 k4
      obtain ⟨i0, c0, g1, g2, _, g4⟩ := live id cs k1
      obtain ⟨i1, c1, f1, f2, _, f4⟩ := live id' cs' k2
      have he := hs.apart i0 i1 c0 c1 b g1 f1 (g2 b k3) (f2 b k4)
      rcases g4 with ⟨q1, q2⟩ | ⟨i, k, q1, q2, q3⟩
      · rcases f4 with ⟨p1, p2⟩ | ⟨i', k', p1, p2, p3⟩
        · omega
        · omega
      · rcases f4 with ⟨p1, p2⟩ | ⟨i', k', p1, p2, p3⟩
        · omega
        · have : k = k' := by omega
          subst this
          have hi1 := (List.getElem?_eq_some_iff.1 q2)
          have hi2 := (List.getElem?_eq_some_iff.1 p2)
          have := (List.getElem_inj hnd).1 (hi1.2.trans hi2.2.symm)
          omega
    · intro r n b e c es k hx hlt
      obtain ⟨a1, a2, a3, a4⟩ := hs.room r n b e c es k hx hlt
      refine ⟨a1, a2, fun id q cs q' => ?_, a4⟩
      obtain ⟨id0, cs0, g1, g2, _⟩ := live id cs q'
      exact a3 id0 (g2 b q) cs0 g1
    · intro id b k
      rcases Ty.ren_inv hn k with ⟨_, q⟩ | ⟨i, k', q1, q2, q3⟩
      · exact hs.βlt id b q
      · have hk : σ.store.length + k' < Ψ.β.length := by have := hkl k' (List.mem_of_getElem? q2); omega
        refine hs.βlt (σ.store.length + k') b ?_
        rw [q3, List.getD_eq_getElem?_getD, List.getElem?_eq_getElem hk]
        rfl
    · intro b c k
      obtain ⟨a1, a2, a3, a4, a5⟩ := hs.rok b c k
      refine ⟨a1, a2, fun id q cs q' => ?_, a4, a5⟩
      obtain ⟨id0, cs0, g1, g2, _⟩ := live id cs q'
      exact a3 id0 (g2 b q) cs0 g1
def NoGoto (Q : Exit → Env → Sg → Prop) : Exit → Env → Sg → Prop
  | .goto _, _, _ => False
  | e, E, σ => Q e E σ
section
variable {P : Program} {a : Act} {k : List Item} {cs : List Frame} {w : World} {Q : Exit → Env → Sg → Prop}
theorem stepR_scope {b : Frame} {c : Code} : step P (lone (b.atR a (.code (.scope c) :: k)) cs w) = .next (lone (b.atR a (.code c :: .inScope c :: k)) cs w) :=
  step_lone_go (by simp [stepG, stepG.exec, Frame.atR])
theorem stepR_inScope {b : Frame} {c : Code} : step P (lone (b.atR a (.inScope c :: k)) cs w) = .next (lone (b.atR a k) cs w) :=
  step_lone_go (by simp [stepG, stepG.exec, Frame.atR])
theorem W_scope {Y : YEnv} {N : Nat} {rd : Option Nat} {lo : Nat × Nat} {E : Env} {σ : Sg} {c : Code} (h : W P Y N rd lo c E σ (NoGoto Q)) : W P Y N rd lo (.scope c) E σ Q := by
  intro Ψ0 D h1 h2 h4 Ψ a w le hr b k cs hro hbf hroom
  obtain ⟨e, a1, w1, ⟨E1, σ1, Ψ1, k1, k2, k3, k4⟩, harr⟩ := h Ψ0 D h1 h2 h4 Ψ a w le hr b (.inScope c :: k) cs hro hbf hroom
  have h0 : (lone (b.atR a (.code (.scope c) :: k)) cs w).fenced P (FnOf Ψ0 rd) := fenced_calm hbf hroom rfl
  cases e with
  | normal => exact ⟨.normal, a1, w1, ⟨E1, σ1, Ψ1, k1, k2, k3, k4⟩, .head h0 stepR_scope (StepsIn.trans harr (.one (fenced_calm hbf hroom rfl) stepR_inScope))⟩
  | exit id =>
    refine ⟨.exit id, a1, w1, ⟨E1, σ1, Ψ1, k1, k2, k3, k4⟩, .of_steps (.one h0 stepR_scope) ?_⟩
    exact ⟨fun k' hk => harr.1 k' (by simpa [exitTo] using hk), fun hr' hk => harr.2 hr' (by simpa [exitTo] using hk)⟩
  | goto l => exact k4.elim
  | ret => exact ⟨_, a1, w1, ⟨E1, σ1, Ψ1, k1, k2, k3, k4⟩, .of_steps (.one h0 stepR_scope) harr⟩
  | panic ch => exact ⟨_, a1, w1, ⟨E1, σ1, Ψ1, k1, k2, k3, k4⟩, .of_steps (.one h0 stepR_scope) harr⟩
  | outgrown => exact ⟨_, a1, w1, ⟨E1, σ1, Ψ1, k1, k2, k3, k4⟩, .of_steps (.one h0 stepR_scope) harr⟩
theorem ngN {E : Env} {σ : Sg} : NoGoto Q .normal E σ = Q .normal E σ := rfl
theorem ngR {E : Env} {σ : Sg} : NoGoto Q .ret E σ = Q .ret E σ := rfl
theorem ngX {E : Env} {σ : Sg} {i : Nat} : NoGoto Q (.exit i) E σ = Q (.exit i) E σ := rfl
attribute [go_sem] ngN ngR ngX
end
end Go.Proofs.Ytnpamcpoaklgeaa
namespace Go.Proofs.Ytnpamcpoaklgeaa
open Go Go.RowKit
set_option maxRecDepth 100000
set_option maxHeartbeats 8000000 in
theorem Way_pc (Y : YEnv) (σ : Sg) (t : Town) (cl : List Int) (from' to' : Int) (hs : t.streets.length < 2 ^ 40) (hc : cl.length < 2 ^ 40) (hN : t.rooms.length < 2 ^ 40) (hg : t.groups.length < 2 ^ 40) (hp : ∀ g, g ∈ t.groups → g.path.length < 2 ^ 40) (hv : chkTown t = 0 → ValidSt t) :
    PC Try.prog Y 84 [twPV t, ints cl, I from', I to'] σ (.tuple [ints (wayAns t cl from' to').1, I (wayAns t cl from' to').2]) (σ) := by
  refine PC_of_W Try.func84 rfl (by kernel_rfl) Try.ntmps84 (by simp) fun hcl hca => ?_
  obtain ⟨res, hres⟩ : ∃ r, wayAns t cl from' to' = r := ⟨_, rfl⟩
  rw [hres]
  refine W_seq fun kz1 kq1 => ?_
  refine W_region [2, 3, 4, 5] fun R hR => ?_   -- r0
  simp only [go_sem]
  refine hR _ _ (kq1 _ _ ?_); clear hR R; try clear kq1 kz1
  try simp only [go_sem]
  refine W_scope ?_
  refine W_seq fun kz2 kq2 => ?_
  refine W_seq fun kz3 kq3 => ?_
  refine W_region [2, 3, 4, 5, 10] fun R hR => ?_   -- r1
  simp only [go_sem]
  refine GCall_of (cclosed_pc Y _ t cl .ro (by omega) (by omega) (by omega) (by omega) (fun g hg => by have := hp g hg; omega)) ?_   -- t22
  simp only [go_sem]
  refine hR _ _ (kq3 _ _ ?_); clear hR R; try clear kq3 kz3
  try simp only [go_sem]
  refine W_seq fun kz4 kq4 => ?_
  refine W_region [2, 3, 4, 5, 10, 24] fun R hR => ?_   -- r2
  simp only [go_sem]
  refine hR _ _ (kq4 _ _ ?_); clear hR R; try clear kq4 kz4
  try simp only [go_sem]
  refine W_cond rfl (fun c1 => ?_) (fun c1 => ?_)
  · -- c1 true
    try simp only [nrm] at c1
    refine W_seq fun kz5 kq5 => ?_
    refine W_region [8, 9] fun R hR => ?_   -- r3
    simp only [go_sem]
    refine hR _ _ (kq5 _ _ ?_); clear hR R; try clear kq5 kz5
    try simp only [go_sem]
    refine W_ret ?_
    simp only [go_sem]
    refine ⟨.inr (by trivial), ?_⟩
    refine Fin_same hcl rfl (Wk.ro (by simp only [go_sem]) ?_)
    try simp only [go_sem]
    all_goals
      rw [← hres]; simp only [wayAns]; rw [if_pos (by simpa using c1)]; rfl
  · -- c1 false
    try simp only [nrm] at c1
    have hck : closedAns t cl = 0 := by simpa using c1
    have hct : chkTown t = 0 := by
      unfold closedAns at hck
      by_cases h : chkTown t = 0
      · exact h
      · rw [if_pos h] at hck; exact hck
    have hv' : ValidSt t := hv hct
    refine W_skip (kq2 _ _ ?_)
    refine W_seq fun kz6 kq6 => ?_
    refine W_seq fun kz7 kq7 => ?_
    refine W_region [2, 3, 4, 5, 34] fun R hR => ?_   -- r4
    simp only [go_sem]
    try simp (disch := omega) only [wrapI, wrapU]
    refine GCall_of (cin_pc Y _ 0 _ [from', to'] .exact (by simp)) ?_   -- t33
    simp only [go_sem]
    try simp (disch := omega) only [wrapI, wrapU]
    refine hR _ _ (kq7 _ _ ?_); clear hR R; try clear kq7 kz7
    try simp only [go_sem]
    refine W_cond rfl (fun c2 => ?_) (fun c2 => ?_)
    · -- c2 true
      try simp only [nrm] at c2
      refine W_seq fun kz8 kq8 => ?_
      refine W_region [8, 9] fun R hR => ?_   -- r5
      simp only [go_sem]
      refine hR _ _ (kq8 _ _ ?_); clear hR R; try clear kq8 kz8
      try simp only [go_sem]
      refine W_ret ?_
      simp only [go_sem]
      refine ⟨.inr (by trivial), ?_⟩
      refine Fin_same hcl rfl (Wk.ro (by simp only [go_sem]) ?_)
      try simp only [go_sem]
      all_goals
        rw [← hres]; simp only [wayAns]; rw [if_neg (by simpa using c1), if_pos (by simpa using c2)]; rfl
    · -- c2 false
      try simp only [nrm] at c2
      have hft : allIn 0 ((t.rooms.length : Int) - 1) [from', to'] = true := by simpa using c2
      have hft2 : (0 ≤ from' ∧ from' < t.rooms.length) ∧ (0 ≤ to' ∧ to' < t.rooms.length) := by simp [allIn, inR] at hft; omega
      have hBI := BI.start (nb := nbT t cl) (N := t.rooms.length) hft2.2.1 hft2.2.2
      refine W_skip (kq6 _ _ ?_)
      refine W_seq fun kz9 kq9 => ?_
      refine W_region [2, 3, 4, 5, 11] fun R hR => ?_   -- r6
      simp only [go_sem]
      refine hR _ _ (kq9 _ _ ?_); clear hR R; try clear kq9 kz9
      try simp only [go_sem]
      refine W_seq fun kz10 kq10 => ?_
      refine W_region [2, 3, 4, 5, 11, 12] fun R hR => ?_   -- r7
      simp only [go_sem]
      refine hR _ _ (kq10 _ _ ?_); clear hR R; try clear kq10 kz10
      try simp only [go_sem]
      refine W_seq fun kz11 kq11 => ?_
      refine W_region [2, 3, 4, 11, 12, 13] fun R hR => ?_   -- r8
      simp only [go_sem]
      refine hR _ _ (kq11 _ _ ?_); clear hR R; try clear kq11 kz11
      try simp only [go_sem]
      refine W_seq fun kz12 kq12 => ?_
      refine W_label (kq12 _ _ ?_)
      refine W_seq fun kz13 kq13 => ?_
      refine W_block ?_
      refine W_weak (Weak.roomX (j := 4) (off := 0) (es := 1) rfl rfl (by simp)) ?_
      simp only [go_sem]
      refine W_loopT (α := Nat × (List (Int × Int)) × (List Int) × Nat) (fun ⟨k, far, q, n⟩ => []) (fun ⟨k, far, q, n⟩ => σ.ext [some (twCells t), some [ints cl], some (.mark :: mapE I I far), some [.map (σ.store.length + 2)], some [.isl ((q).map I) (.tok σ.rooms.length n 1)]] [n]) (fun ⟨k, far, q, n⟩ => wayFar t cl from' to' = bfs (nbT t cl) from' k far q ∧ FI t.rooms.length far q ∧ meas t.rooms.length far q ≤ k) (fun ⟨k, far, q, n⟩ => k) ((2 * t.rooms.length, [(to', 0)], [to'], 1)) rfl (by first | rfl | (simp only [go_sem]; done) | (simp only [go_sem]; rfl)) (⟨rfl, hBI.fi, by simp only [meas, List.length_cons, List.length_nil]; omega⟩) ?_
      rintro ⟨k, far, q, n⟩ ⟨hinv, hf, hm⟩
      refine W_seq fun kz14 kq14 => ?_
      refine W_seq fun kz15 kq15 => ?_
      refine W_region [2, 3, 4, 11, 12, 13, 43] fun R hR => ?_   -- r9
      simp only [go_sem]
      refine hR _ _ (kq15 _ _ ?_); clear hR R; try clear kq15 kz15
      try simp only [go_sem]
      refine W_cond rfl (fun c3 => ?_) (fun c3 => ?_)
      · -- c3 true
        try simp only [nrm] at c3
        obtain ⟨at', q', hqc⟩ : ∃ a r, q = a :: r := by
          cases q with
          | nil => simp at c3
          | cons a r => exact ⟨a, r, rfl⟩
        have hq0 : q[0]? = some at' := by rw [hqc]; rfl
        have hq1 : q.drop 1 = q' := by rw [hqc]; rfl
        have hql : 1 ≤ q.length := by rw [hqc]; simp
        obtain ⟨k, rfl⟩ : ∃ j, k = j + 1 := ⟨k - 1, by simp only [meas] at hm; omega⟩
        rw [hqc] at hinv hf hm
        simp only [bfs] at hinv
        refine W_skip (kq14 _ _ ?_)
        refine W_block ?_
        refine W_seq fun kz16 kq16 => ?_
        refine W_region [2, 3, 4, 11, 12, 13, 14] fun R hR => ?_   -- r10
        simp only [go_sem, hq0, hq1, hql, Int.reduceLE, Int.reduceToNat]
        refine hR _ _ (kq16 _ _ ?_); clear hR R; try clear kq16 kz16
        try simp only [go_sem, hq0, hq1, hql, Int.reduceLE, Int.reduceToNat]
        refine W_seq fun kz17 kq17 => ?_
        refine W_region [2, 3, 4, 11, 12, 13, 14] fun R hR => ?_   -- r11
        simp only [go_sem, hq0, hq1, hql, Int.reduceLE, Int.reduceToNat]
        refine hR _ _ (kq17 _ _ ?_); clear hR R; try clear kq17 kz17
        try simp only [go_sem, hq0, hq1, hql, Int.reduceLE, Int.reduceToNat]
        refine W_seq fun kz18 kq18 => ?_
        refine W_seq fun kz19 kq19 => ?_
        refine W_region [2, 3, 4, 11, 12, 13, 14, 51] fun R hR => ?_   -- r12
        simp only [go_sem, hq0, hq1, hql, Int.reduceLE, Int.reduceToNat]
        refine hR _ _ (kq19 _ _ ?_); clear hR R; try clear kq19 kz19
        try simp only [go_sem, hq0, hq1, hql, Int.reduceLE, Int.reduceToNat]
        refine W_cond rfl (fun c4 => ?_) (fun c4 => ?_)
        · -- c4 true
          try simp only [nrm] at c4
          rw [if_pos c4] at hinv
          have hf := hf.pop
          have hbf : wayFar t cl from' to' = far := hinv
          obtain ⟨q, hqq⟩ : ∃ z, q' = z := ⟨_, rfl⟩
          rw [hqq] at hf
          refine W_exit ?_
          simp only [go_sem, hq0, hq1, hql, Int.reduceLE, Int.reduceToNat, hqq]
          refine kq13 _ _ ?_
          refine W_seq fun kz20 kq20 => ?_
          refine W_seq fun kz21 kq21 => ?_
          refine W_weak (Weak.keep [2, 3, 4, 11, 13]) ?_
          simp only [go_sem]
          refine W_weak (Weak.cutX 5 1 (by omega) (by omega) hcl (by simp only [go_sem] <;> omega) (by simp only [go_sem] <;> omega)) ?_
          simp only [go_sem]
          refine W_region [2, 3, 4, 11, 13, 16] fun R hR => ?_   -- r14
          simp only [go_sem, hq0, hq1, hql, Int.reduceLE, Int.reduceToNat, hqq]
          refine hR _ _ (kq21 _ _ ?_); clear hR R; try clear kq21 kz21
          try simp only [go_sem, hq0, hq1, hql, Int.reduceLE, Int.reduceToNat, hqq]
          refine W_seq fun kz22 kq22 => ?_
          refine W_region [2, 3, 4, 11, 13, 63] fun R hR => ?_   -- r15
          simp only [go_sem, hq0, hq1, hql, Int.reduceLE, Int.reduceToNat, hqq]
          refine hR _ _ (kq22 _ _ ?_); clear hR R; try clear kq22 kz22
          try simp only [go_sem, hq0, hq1, hql, Int.reduceLE, Int.reduceToNat, hqq]
          refine W_cond rfl (fun c5 => ?_) (fun c5 => ?_)
          · -- c5 true
            try simp only [nrm] at c5
            refine W_seq fun kz23 kq23 => ?_
            refine W_region [8, 9] fun R hR => ?_   -- r16
            simp only [go_sem, hq0, hq1, hql, Int.reduceLE, Int.reduceToNat, hqq]
            refine hR _ _ (kq23 _ _ ?_); clear hR R; try clear kq23 kz23
            try simp only [go_sem, hq0, hq1, hql, Int.reduceLE, Int.reduceToNat, hqq]
            refine W_ret ?_
            simp only [go_sem, hq0, hq1, hql, Int.reduceLE, Int.reduceToNat, hqq]
            refine ⟨.inr (by trivial), ?_⟩
            refine Fin_same hcl rfl (Wk.ro (by simp only [go_sem]) ?_)
            try simp only [go_sem]
            all_goals
              rw [← hres]; simp only [wayAns]; rw [if_neg (by simpa using c1), if_neg (by simpa using c2), hbf, if_neg (by intro h; first | (rw [h] at c5; cases c5; done) | (rw [h] at c7; cases c7))]; rfl
          · -- c5 false
            try simp only [nrm] at c5
            have hok : FarOK (nbT t cl) to' from' far := by rw [← hbf]; exact wayFar_ok hv' hft2.2.1 hft2.2.2
            obtain ⟨D, hD⟩ := Option.isSome_iff_exists.1 (by simpa using c5)
            refine W_skip (kq20 _ _ ?_)
            refine W_seq fun kz24 kq24 => ?_
            refine W_region [2, 3, 4, 11, 13, 17] fun R hR => ?_   -- r17
            simp only [go_sem, hq0, hq1, hql, Int.reduceLE, Int.reduceToNat, hqq]
            refine hR _ _ (kq24 _ _ ?_); clear hR R; try clear kq24 kz24
            try simp only [go_sem, hq0, hq1, hql, Int.reduceLE, Int.reduceToNat, hqq]
            refine W_seq fun kz25 kq25 => ?_
            refine W_seq fun kz26 kq26 => ?_
            refine W_region [3, 4, 11, 13, 17, 18] fun R hR => ?_   -- r18
            simp only [go_sem, hq0, hq1, hql, Int.reduceLE, Int.reduceToNat, hqq]
            refine hR _ _ (kq26 _ _ ?_); clear hR R; try clear kq26 kz26
            try simp only [go_sem, hq0, hq1, hql, Int.reduceLE, Int.reduceToNat, hqq]
            refine W_block ?_
            refine W_weak (Weak.room (t := 17) (es := 1) rfl (by simp)) ?_
            refine W_weak (Weak.keep [3, 4, 11, 13, 17, 18]) ?_
            simp only [go_sem, hq0, hq1, hql, Int.reduceLE, Int.reduceToNat, hqq]
            refine W_loopT (α := Nat × Int × (List Int)) (fun ⟨k, at', acc⟩ => [(17, .isl (acc.map I) (.tok (σ.rooms.length + 1) acc.length 1))]) (fun ⟨k, at', acc⟩ => σ.ext [some (twCells t), some [ints cl], some (.mark :: mapE I I far), some [.map (σ.store.length + 2)], some [.isl ((q).map I) (.tok σ.rooms.length n 1)], some [I at']] [n, acc.length]) (fun ⟨k, at', acc⟩ => backs far (nbT t cl) t.rooms.length to' (t.rooms.length + 1) from' [from'] = backs far (nbT t cl) t.rooms.length to' k at' acc ∧ acc.length + k = t.rooms.length + 2 ∧ ∃ d, aget at' far = some d ∧ d < k ∧ d ≤ D) (fun ⟨k, at', acc⟩ => k) ((t.rooms.length + 1, from', [from'])) rfl (by first | rfl | (simp only [go_sem]; done) | (simp only [go_sem]; rfl)) (⟨rfl, by simp; omega, D, hD, by have h1 := hf.val from'; rw [hD] at h1; simp only [Option.getD_some] at h1; have := hf.le; omega, Int.le_refl _⟩) ?_
            rintro ⟨k, at', acc⟩ ⟨hinv2, hal, d, hd1, hd2, hd3⟩
            refine W_seq fun kz27 kq27 => ?_
            refine W_seq fun kz28 kq28 => ?_
            refine W_region [3, 4, 11, 13, 17, 18, 69] fun R hR => ?_   -- r19
            simp only [go_sem, hq0, hq1, hql, Int.reduceLE, Int.reduceToNat, hqq]
            refine hR _ _ (kq28 _ _ ?_); clear hR R; try clear kq28 kz28
            try simp only [go_sem, hq0, hq1, hql, Int.reduceLE, Int.reduceToNat, hqq]
            refine W_cond rfl (fun c6 => ?_) (fun c6 => ?_)
            · -- c6 true
              try simp only [nrm] at c6
              obtain ⟨b1, b2, b3, b4⟩ := back_ok hok (nbT_bd hv') hD hd1 hd3 c6
              obtain ⟨k, rfl⟩ : ∃ j, k = j + 1 := ⟨k - 1, by omega⟩
              simp only [backs] at hinv2
              rw [if_neg c6] at hinv2
              have hbd := nbT_bd hv' _ _ b3
              refine W_skip (kq27 _ _ ?_)
              refine W_seq fun kz29 kq29 => ?_
              refine W_block ?_
              refine W_seq fun kz30 kq30 => ?_
              refine W_region [3, 4, 11, 13, 17, 18, 19] fun R hR => ?_   -- r20
              simp only [go_sem, hq0, hq1, hql, Int.reduceLE, Int.reduceToNat, hqq]
              refine hR _ _ (kq30 _ _ ?_); clear hR R; try clear kq30 kz30
              try simp only [go_sem, hq0, hq1, hql, Int.reduceLE, Int.reduceToNat, hqq]
              refine W_seq fun kz31 kq31 => ?_
              refine W_region [3, 4, 11, 13, 17, 18, 19] fun R hR => ?_   -- r21
              simp only [go_sem, hq0, hq1, hql, Int.reduceLE, Int.reduceToNat, hqq]
              refine GCall_of (Way1b_pc Y σ hcl t cl far q n acc.length at' t.rooms.length hs hc hN hv' (hf.val at').1 (by have := (hf.val at').2; have := hf.le; omega)) ?_   -- t76
              simp only [go_sem, hq0, hq1, hql, Int.reduceLE, Int.reduceToNat, hqq]
              refine hR _ _ (kq31 _ _ ?_); clear hR R; try clear kq31 kz31
              try simp only [go_sem, hq0, hq1, hql, Int.reduceLE, Int.reduceToNat, hqq]
              refine W_seq fun kz32 kq32 => ?_
              refine W_region [3, 4, 11, 13, 17, 18] fun R hR => ?_   -- r22
              simp only [go_sem, hq0, hq1, hql, Int.reduceLE, Int.reduceToNat, hqq]
              refine hR _ _ (kq32 _ _ ?_); clear hR R; try clear kq32 kz32
              try simp only [go_sem, hq0, hq1, hql, Int.reduceLE, Int.reduceToNat, hqq]
              refine W_region [3, 4, 11, 13, 17, 18] fun R hR => ?_   -- r23
              simp only [go_sem, hq0, hq1, hql, Int.reduceLE, Int.reduceToNat, hqq]
              simp (disch := first | omega | (simp only [go_sem] <;> omega)) only [wrapI, wrapU, appX_exact, appX_tok]
              try simp only [go_sem, hq0, hq1, hql, Int.reduceLE, Int.reduceToNat, hqq]
              refine hR _ _ (kq29 _ _ ?_); clear hR R; try clear kq29 kz29
              try simp only [go_sem, hq0, hq1, hql, Int.reduceLE, Int.reduceToNat, hqq]
              refine W_seq fun kz33 kq33 => ?_
              refine W_region [3, 4, 11, 13, 17, 82] fun R hR => ?_   -- r24
              simp only [go_sem, hq0, hq1, hql, Int.reduceLE, Int.reduceToNat, hqq]
              refine hR _ _ (kq33 _ _ ?_); clear hR R; try clear kq33 kz33
              try simp only [go_sem, hq0, hq1, hql, Int.reduceLE, Int.reduceToNat, hqq]
              refine W_region [3, 4, 11, 13, 17, 18] fun R hR => ?_   -- r25
              simp only [go_sem, hq0, hq1, hql, Int.reduceLE, Int.reduceToNat, hqq]
              refine hR _ _ ?_; clear hR R
              try simp only [go_sem, hq0, hq1, hql, Int.reduceLE, Int.reduceToNat, hqq]
              refine ⟨(k, bmins far at' (nbs cl at' t.streets 0) t.rooms.length, acc ++ [bmins far at' (nbs cl at' t.streets 0) t.rooms.length]), ?_, by (try simp only []); omega, ?_⟩
              · simp only [go_sem]
                refine Weak.ren [0, 1, 2, 3, 4, 7] (by decide) (by simp) (by first | omega | (simp only [go_sem] <;> omega)) hcl (RnE.get ?_) ?_
                · repeat' (first | exact trivial | (refine .same _ ?_; simp only [go_sem]; done) | (refine .same _ ?_; simp only [go_sem]; omega) | exact .ptr 0 0 _ _ _  rfl rfl rfl | exact .msl 0 0 _ _ _ _  rfl rfl rfl | exact .gsl 0 0 _ _ _ _  rfl rfl rfl | exact .mapv 0 0 _ _  rfl rfl rfl | exact .ptr 1 1 _ _ _  rfl rfl rfl | exact .msl 1 1 _ _ _ _  rfl rfl rfl | exact .gsl 1 1 _ _ _ _  rfl rfl rfl | exact .mapv 1 1 _ _  rfl rfl rfl | exact .ptr 2 2 _ _ _  rfl rfl rfl | exact .msl 2 2 _ _ _ _  rfl rfl rfl | exact .gsl 2 2 _ _ _ _  rfl rfl rfl | exact .mapv 2 2 _ _  rfl rfl rfl | exact .ptr 3 3 _ _ _  rfl rfl rfl | exact .msl 3 3 _ _ _ _  rfl rfl rfl | exact .gsl 3 3 _ _ _ _  rfl rfl rfl | exact .mapv 3 3 _ _  rfl rfl rfl | exact .ptr 4 4 _ _ _  rfl rfl rfl | exact .msl 4 4 _ _ _ _  rfl rfl rfl | exact .gsl 4 4 _ _ _ _  rfl rfl rfl | exact .mapv 4 4 _ _  rfl rfl rfl | exact .ptr 5 7 _ _ _  rfl rfl rfl | exact .msl 5 7 _ _ _ _  rfl rfl rfl | exact .gsl 5 7 _ _ _ _  rfl rfl rfl | exact .mapv 5 7 _ _  rfl rfl rfl | refine .funcL ?_ | refine ⟨rfl, ?_, ?_⟩ | refine ⟨?_, ?_⟩)
                · repeat' (first | exact trivial | (refine .inl ⟨?_, rfl⟩; simp only [go_sem]; done) | (refine .inl ⟨?_, rfl⟩; simp only [go_sem]; omega) | (refine .same _ ?_; simp only [go_sem]; done) | (refine .same _ ?_; simp only [go_sem]; omega) | exact .ptr 0 0 _ _ _  rfl rfl rfl | exact .msl 0 0 _ _ _ _  rfl rfl rfl | exact .gsl 0 0 _ _ _ _  rfl rfl rfl | exact .mapv 0 0 _ _  rfl rfl rfl | exact .ptr 1 1 _ _ _  rfl rfl rfl | exact .msl 1 1 _ _ _ _  rfl rfl rfl | exact .gsl 1 1 _ _ _ _  rfl rfl rfl | exact .mapv 1 1 _ _  rfl rfl rfl | exact .ptr 2 2 _ _ _  rfl rfl rfl | exact .msl 2 2 _ _ _ _  rfl rfl rfl | exact .gsl 2 2 _ _ _ _  rfl rfl rfl | exact .mapv 2 2 _ _  rfl rfl rfl | exact .ptr 3 3 _ _ _  rfl rfl rfl | exact .msl 3 3 _ _ _ _  rfl rfl rfl | exact .gsl 3 3 _ _ _ _  rfl rfl rfl | exact .mapv 3 3 _ _  rfl rfl rfl | exact .ptr 4 4 _ _ _  rfl rfl rfl | exact .msl 4 4 _ _ _ _  rfl rfl rfl | exact .gsl 4 4 _ _ _ _  rfl rfl rfl | exact .mapv 4 4 _ _  rfl rfl rfl | exact .ptr 5 7 _ _ _  rfl rfl rfl | exact .msl 5 7 _ _ _ _  rfl rfl rfl | exact .gsl 5 7 _ _ _ _  rfl rfl rfl | exact .mapv 5 7 _ _  rfl rfl rfl | refine .inr ⟨by simp, ?_⟩ | refine ⟨⟨_, rfl, ?_⟩, ?_⟩ | refine ⟨?_, ?_⟩)
              · try dsimp only
                refine ⟨hinv2, by simp; omega, d - 1, b2, by omega, by omega⟩
            · -- c6 false
              try simp only [nrm] at c6
              obtain ⟨k, rfl⟩ : ∃ j, k = j + 1 := ⟨k - 1, by have := hok.dist _ _ hd1; omega⟩
              simp only [backs] at hinv2
              have hat : at' = to' := by first | exact c6 | simpa using c6
              rw [if_pos hat] at hinv2
              refine W_exit ?_
              simp only [go_sem, hq0, hq1, hql, Int.reduceLE, Int.reduceToNat, hqq]
              refine kq25 _ _ ?_
              refine W_seq fun kz34 kq34 => ?_
              refine W_region [8, 9] fun R hR => ?_   -- r26
              simp only [go_sem, hq0, hq1, hql, Int.reduceLE, Int.reduceToNat, hqq]
              refine hR _ _ (kq34 _ _ ?_); clear hR R; try clear kq34 kz34
              try simp only [go_sem, hq0, hq1, hql, Int.reduceLE, Int.reduceToNat, hqq]
              refine W_ret ?_
              simp only [go_sem, hq0, hq1, hql, Int.reduceLE, Int.reduceToNat, hqq]
              refine ⟨.inr (by trivial), ?_⟩
              refine Fin_same hcl rfl (Wk.ro (by simp only [go_sem]) ?_)
              try simp only [go_sem]
              all_goals
                rw [← hres]; simp only [wayAns]; rw [if_neg (by simpa using c1), if_neg (by simpa using c2), hbf, if_pos (by rw [hD]; rfl)]
                show _ = PV.tuple [ints (backs far (nbT t cl) t.rooms.length to' (t.rooms.length + 1) from' [from']), I 0]
                simp only [backs]
                rw [hinv2]
        · -- c4 false
          try simp only [nrm] at c4
          refine W_skip (kq18 _ _ ?_)
          refine W_region [2, 3, 4, 11, 12, 13] fun R hR => ?_   -- r13
          simp only [go_sem, hq0, hq1, hql, Int.reduceLE, Int.reduceToNat]
          refine GCall_of (Way1a_pc Y σ hcl t cl far q' n at' hs hc hN hv' hf.pop) ?_   -- t55
          simp only [go_sem, hq0, hq1, hql, Int.reduceLE, Int.reduceToNat]
          refine hR _ _ ?_; clear hR R
          try simp only [go_sem, hq0, hq1, hql, Int.reduceLE, Int.reduceToNat]
          refine ⟨(k, (bstepsN at' (nbs cl at' t.streets 0) (far, q') n).1.1, (bstepsN at' (nbs cl at' t.streets 0) (far, q') n).1.2, (bstepsN at' (nbs cl at' t.streets 0) (far, q') n).2), ?_, by (try simp only []); omega, ?_⟩
          · refine Weak.trans (Weak.cutX 5 1 (by omega) (by omega) hcl (by simp only [go_sem] <;> omega) (by simp only [go_sem] <;> omega)) ?_
            simp only [go_sem]
            exact Weak.eq (by first | rfl | (simp only [go_sem]; done) | (simp only [go_sem]; rfl) | (simp [go_sem]; done) | (simp [go_sem]; omega)) (by first | rfl | (simp only [go_sem]; done) | (simp [go_sem]; done))
          · try dsimp only
            rw [if_neg c4] at hinv
            have hst := FI.steps at' (nbT t cl at') hf.pop (nbT_bd hv' at')
            rw [bstepsN_fst]
            refine ⟨hinv, hst.1, ?_⟩
            have h2 := hst.2
            simp only [meas, List.length_cons] at hm h2 ⊢
            show 2 * (t.rooms.length - (bsteps at' (nbs cl at' t.streets 0) (far, q')).1.length) + _ ≤ k
            have e : nbs cl at' t.streets 0 = nbT t cl at' := rfl
            rw [e]
            omega
      · -- c3 false
        try simp only [nrm] at c3
        have hqe : q = [] := by
          cases q with
          | nil => rfl
          | cons => first | (simp at c3; done) | (simp at c3; omega)
        have hbf : wayFar t cl from' to' = far := by rw [hinv, hqe]; cases k <;> rfl
        refine W_exit ?_
        simp only [go_sem]
        refine kq13 _ _ ?_
        refine W_seq fun kz35 kq35 => ?_
        refine W_seq fun kz36 kq36 => ?_
        refine W_weak (Weak.keep [2, 3, 4, 11, 13]) ?_
        simp only [go_sem]
        refine W_weak (Weak.cutX 5 1 (by omega) (by omega) hcl (by simp only [go_sem] <;> omega) (by simp only [go_sem] <;> omega)) ?_
        simp only [go_sem]
        refine W_region [2, 3, 4, 11, 13, 16] fun R hR => ?_   -- r14
        simp only [go_sem]
        refine hR _ _ (kq36 _ _ ?_); clear hR R; try clear kq36 kz36
        try simp only [go_sem]
        refine W_seq fun kz37 kq37 => ?_
        refine W_region [2, 3, 4, 11, 13, 63] fun R hR => ?_   -- r15
        simp only [go_sem]
        refine hR _ _ (kq37 _ _ ?_); clear hR R; try clear kq37 kz37
        try simp only [go_sem]
        refine W_cond rfl (fun c7 => ?_) (fun c7 => ?_)
        · -- c7 true
          try simp only [nrm] at c7
          refine W_seq fun kz38 kq38 => ?_
          refine W_region [8, 9] fun R hR => ?_   -- r16
          simp only [go_sem]
          refine hR _ _ (kq38 _ _ ?_); clear hR R; try clear kq38 kz38
          try simp only [go_sem]
          refine W_ret ?_
          simp only [go_sem]
          refine ⟨.inr (by trivial), ?_⟩
          refine Fin_same hcl rfl (Wk.ro (by simp only [go_sem]) ?_)
          try simp only [go_sem]
          all_goals
            rw [← hres]; simp only [wayAns]; rw [if_neg (by simpa using c1), if_neg (by simpa using c2), hbf, if_neg (by intro h; first | (rw [h] at c5; cases c5; done) | (rw [h] at c7; cases c7))]; rfl
        · -- c7 false
          try simp only [nrm] at c7
          have hok : FarOK (nbT t cl) to' from' far := by rw [← hbf]; exact wayFar_ok hv' hft2.2.1 hft2.2.2
          obtain ⟨D, hD⟩ := Option.isSome_iff_exists.1 (by simpa using c7)
          refine W_skip (kq35 _ _ ?_)
          refine W_seq fun kz39 kq39 => ?_
          refine W_region [2, 3, 4, 11, 13, 17] fun R hR => ?_   -- r17
          simp only [go_sem]
          refine hR _ _ (kq39 _ _ ?_); clear hR R; try clear kq39 kz39
          try simp only [go_sem]
          refine W_seq fun kz40 kq40 => ?_
          refine W_seq fun kz41 kq41 => ?_
          refine W_region [3, 4, 11, 13, 17, 18] fun R hR => ?_   -- r18
          simp only [go_sem]
          refine hR _ _ (kq41 _ _ ?_); clear hR R; try clear kq41 kz41
          try simp only [go_sem]
          refine W_block ?_
          refine W_weak (Weak.room (t := 17) (es := 1) rfl (by simp)) ?_
          refine W_weak (Weak.keep [3, 4, 11, 13, 17, 18]) ?_
          simp only [go_sem]
          refine W_loopT (α := Nat × Int × (List Int)) (fun ⟨k, at', acc⟩ => [(17, .isl (acc.map I) (.tok (σ.rooms.length + 1) acc.length 1))]) (fun ⟨k, at', acc⟩ => σ.ext [some (twCells t), some [ints cl], some (.mark :: mapE I I far), some [.map (σ.store.length + 2)], some [.isl ((q).map I) (.tok σ.rooms.length n 1)], some [I at']] [n, acc.length]) (fun ⟨k, at', acc⟩ => backs far (nbT t cl) t.rooms.length to' (t.rooms.length + 1) from' [from'] = backs far (nbT t cl) t.rooms.length to' k at' acc ∧ acc.length + k = t.rooms.length + 2 ∧ ∃ d, aget at' far = some d ∧ d < k ∧ d ≤ D) (fun ⟨k, at', acc⟩ => k) ((t.rooms.length + 1, from', [from'])) rfl (by first | rfl | (simp only [go_sem]; done) | (simp only [go_sem]; rfl)) (⟨rfl, by simp; omega, D, hD, by have h1 := hf.val from'; rw [hD] at h1; simp only [Option.getD_some] at h1; have := hf.le; omega, Int.le_refl _⟩) ?_
          rintro ⟨k, at', acc⟩ ⟨hinv2, hal, d, hd1, hd2, hd3⟩
          refine W_seq fun kz42 kq42 => ?_
          refine W_seq fun kz43 kq43 => ?_
          refine W_region [3, 4, 11, 13, 17, 18, 69] fun R hR => ?_   -- r19
          simp only [go_sem]
          refine hR _ _ (kq43 _ _ ?_); clear hR R; try clear kq43 kz43
          try simp only [go_sem]
          refine W_cond rfl (fun c8 => ?_) (fun c8 => ?_)
          · -- c8 true
            try simp only [nrm] at c8
            obtain ⟨b1, b2, b3, b4⟩ := back_ok hok (nbT_bd hv') hD hd1 hd3 c8
            obtain ⟨k, rfl⟩ : ∃ j, k = j + 1 := ⟨k - 1, by omega⟩
            simp only [backs] at hinv2
            rw [if_neg c8] at hinv2
            have hbd := nbT_bd hv' _ _ b3
            refine W_skip (kq42 _ _ ?_)
            refine W_seq fun kz44 kq44 => ?_
            refine W_block ?_
            refine W_seq fun kz45 kq45 => ?_
            refine W_region [3, 4, 11, 13, 17, 18, 19] fun R hR => ?_   -- r20
            simp only [go_sem]
            refine hR _ _ (kq45 _ _ ?_); clear hR R; try clear kq45 kz45
            try simp only [go_sem]
            refine W_seq fun kz46 kq46 => ?_
            refine W_region [3, 4, 11, 13, 17, 18, 19] fun R hR => ?_   -- r21
            simp only [go_sem]
            refine GCall_of (Way1b_pc Y σ hcl t cl far q n acc.length at' t.rooms.length hs hc hN hv' (hf.val at').1 (by have := (hf.val at').2; have := hf.le; omega)) ?_   -- t76
            simp only [go_sem]
            refine hR _ _ (kq46 _ _ ?_); clear hR R; try clear kq46 kz46
            try simp only [go_sem]
            refine W_seq fun kz47 kq47 => ?_
            refine W_region [3, 4, 11, 13, 17, 18] fun R hR => ?_   -- r22
            simp only [go_sem]
            refine hR _ _ (kq47 _ _ ?_); clear hR R; try clear kq47 kz47
            try simp only [go_sem]
            refine W_region [3, 4, 11, 13, 17, 18] fun R hR => ?_   -- r23
            simp only [go_sem]
            simp (disch := first | omega | (simp only [go_sem] <;> omega)) only [wrapI, wrapU, appX_exact, appX_tok]
            try simp only [go_sem]
            refine hR _ _ (kq44 _ _ ?_); clear hR R; try clear kq44 kz44
            try simp only [go_sem]
            refine W_seq fun kz48 kq48 => ?_
            refine W_region [3, 4, 11, 13, 17, 82] fun R hR => ?_   -- r24
            simp only [go_sem]
            refine hR _ _ (kq48 _ _ ?_); clear hR R; try clear kq48 kz48
            try simp only [go_sem]
            refine W_region [3, 4, 11, 13, 17, 18] fun R hR => ?_   -- r25
            simp only [go_sem]
            refine hR _ _ ?_; clear hR R
            try simp only [go_sem]
            refine ⟨(k, bmins far at' (nbs cl at' t.streets 0) t.rooms.length, acc ++ [bmins far at' (nbs cl at' t.streets 0) t.rooms.length]), ?_, by (try simp only []); omega, ?_⟩
            · simp only [go_sem]
              refine Weak.ren [0, 1, 2, 3, 4, 7] (by decide) (by simp) (by first | omega | (simp only [go_sem] <;> omega)) hcl (RnE.get ?_) ?_
              · repeat' (first | exact trivial | (refine .same _ ?_; simp only [go_sem]; done) | (refine .same _ ?_; simp only [go_sem]; omega) | exact .ptr 0 0 _ _ _  rfl rfl rfl | exact .msl 0 0 _ _ _ _  rfl rfl rfl | exact .gsl 0 0 _ _ _ _  rfl rfl rfl | exact .mapv 0 0 _ _  rfl rfl rfl | exact .ptr 1 1 _ _ _  rfl rfl rfl | exact .msl 1 1 _ _ _ _  rfl rfl rfl | exact .gsl 1 1 _ _ _ _  rfl rfl rfl | exact .mapv 1 1 _ _  rfl rfl rfl | exact .ptr 2 2 _ _ _  rfl rfl rfl | exact .msl 2 2 _ _ _ _  rfl rfl rfl | exact .gsl 2 2 _ _ _ _  rfl rfl rfl | exact .mapv 2 2 _ _  rfl rfl rfl | exact .ptr 3 3 _ _ _  rfl rfl rfl | exact .msl 3 3 _ _ _ _  rfl rfl rfl | exact .gsl 3 3 _ _ _ _  rfl rfl rfl | exact .mapv 3 3 _ _  rfl rfl rfl | exact .ptr 4 4 _ _ _  rfl rfl rfl | exact .msl 4 4 _ _ _ _  rfl rfl rfl | exact .gsl 4 4 _ _ _ _  rfl rfl rfl | exact .mapv 4 4 _ _  rfl rfl rfl | exact .ptr 5 7 _ _ _  rfl rfl rfl | exact .msl 5 7 _ _ _ _  rfl rfl rfl | exact .gsl 5 7 _ _ _ _  rfl rfl rfl | exact .mapv 5 7 _ _  rfl rfl rfl | refine .funcL ?_ | refine ⟨rfl, ?_, ?_⟩ | refine ⟨?_, ?_⟩)
              · repeat' (first | exact trivial | (refine .inl ⟨?_, rfl⟩; simp only [go_sem]; done) | (refine .inl ⟨?_, rfl⟩; simp only [go_sem]; omega) | (refine .same _ ?_; simp only [go_sem]; done) | (refine .same _ ?_; simp only [go_sem]; omega) | exact .ptr 0 0 _ _ _  rfl rfl rfl | exact .msl 0 0 _ _ _ _  rfl rfl rfl | exact .gsl 0 0 _ _ _ _  rfl rfl rfl | exact .mapv 0 0 _ _  rfl rfl rfl | exact .ptr 1 1 _ _ _  rfl rfl rfl | exact .msl 1 1 _ _ _ _  rfl rfl rfl | exact .gsl 1 1 _ _ _ _  rfl rfl rfl | exact .mapv 1 1 _ _  rfl rfl rfl | exact .ptr 2 2 _ _ _  rfl rfl rfl | exact .msl 2 2 _ _ _ _  rfl rfl rfl | exact .gsl 2 2 _ _ _ _  rfl rfl rfl | exact .mapv 2 2 _ _  rfl rfl rfl | exact .ptr 3 3 _ _ _  rfl rfl rfl | exact .msl 3 3 _ _ _ _  rfl rfl rfl | exact .gsl 3 3 _ _ _ _  rfl rfl rfl | exact .mapv 3 3 _ _  rfl rfl rfl | exact .ptr 4 4 _ _ _  rfl rfl rfl | exact .msl 4 4 _ _ _ _  rfl rfl rfl | exact .gsl 4 4 _ _ _ _  rfl rfl rfl | exact .mapv 4 4 _ _  rfl rfl rfl | exact .ptr 5 7 _ _ _  rfl rfl rfl | exact .msl 5 7 _ _ _ _  rfl rfl rfl | exact .gsl 5 7 _ _ _ _  rfl rfl rfl | exact .mapv 5 7 _ _  rfl rfl rfl | refine .inr ⟨by simp, ?_⟩ | refine ⟨⟨_, rfl, ?_⟩, ?_⟩ | refine ⟨?_, ?_⟩)
            · try dsimp only
              refine ⟨hinv2, by simp; omega, d - 1, b2, by omega, by omega⟩
          · -- c8 false
            try simp only [nrm] at c8
            obtain ⟨k, rfl⟩ : ∃ j, k = j + 1 := ⟨k - 1, by have := hok.dist _ _ hd1; omega⟩
            simp only [backs] at hinv2
            have hat : at' = to' := by first | exact c8 | simpa using c8
            rw [if_pos hat] at hinv2
            refine W_exit ?_
            simp only [go_sem]
            refine kq40 _ _ ?_
            refine W_seq fun kz49 kq49 => ?_
            refine W_region [8, 9] fun R hR => ?_   -- r26
            simp only [go_sem]
            refine hR _ _ (kq49 _ _ ?_); clear hR R; try clear kq49 kz49
            try simp only [go_sem]
            refine W_ret ?_
            simp only [go_sem]
            refine ⟨.inr (by trivial), ?_⟩
            refine Fin_same hcl rfl (Wk.ro (by simp only [go_sem]) ?_)
            try simp only [go_sem]
            all_goals
              rw [← hres]; simp only [wayAns]; rw [if_neg (by simpa using c1), if_neg (by simpa using c2), hbf, if_pos (by rw [hD]; rfl)]
              show _ = PV.tuple [ints (backs far (nbT t cl) t.rooms.length to' (t.rooms.length + 1) from' [from']), I 0]
              simp only [backs]
              rw [hinv2]
end Go.Proofs.Ytnpamcpoaklgeaa
namespace Go.Proofs.Ytnpamcpoaklgeaa
open Go Go.RowKit
set_option maxRecDepth 100000
end Go.Proofs.Ytnpamcpoaklgeaa
namespace Go.Proofs.Ytnpamcpoaklgeaa
open Go Go.RowKit
set_option maxRecDepth 100000
end Go.Proofs.Ytnpamcpoaklgeaa
namespace Go.Proofs.Ytnpamcpoaklgeaa
section
variable {t : Town} {cl : List Int} {to' : Int}
/-- Where a square is at a distance, it is less than the number of squares. -/
theorem dist_lt (hv : ValidSt t) (h0 : 0 ≤ to') (h1 : to' < t.rooms.length) {v : Int} (hv0 : 0 ≤ v) (hv1 : v < t.rooms.length) {k : Nat} (hd : Dist (nbT t cl) to' v k) : k < t.rooms.length := by
  have hf := wayFar_ok (cl := cl) hv (from' := v) h0 h1
  obtain ⟨D, hD⟩ := Option.isSome_iff_exists.1 (hf.met.2 ⟨k, hd.1⟩)
  have hdd := (hf.dist _ _ hD).2.uniq hd
  -- the squares at 0, 1, .. k steps are different
  have path : ∀ j : Nat, j ≤ k → ∃ u : Int, 0 ≤ u ∧ u < t.rooms.length ∧ Dist (nbT t cl) to' u j := by
    intro j hj
    obtain ⟨i, hi⟩ : ∃ i, i + j = k := ⟨k - j, by omega⟩
    clear hj
    induction i generalizing j with
    | zero => exact ⟨v, hv0, hv1, by rw [← hi, Nat.zero_add] at hd; exact hd⟩
    | succ i ih =>
      obtain ⟨u, u0, u1, hu⟩ := ih (j + 1) (by omega)
      obtain ⟨z, hz, hr⟩ := hu.1
      have := nbT_bd hv _ _ hz
      exact ⟨z, this.1, this.2, hr, fun m hm => by have := hu.2 (m + 1) ⟨z, hz, hm⟩; omega⟩
  have all : ∃ l : List Int, l.length = k + 1 ∧ l.Nodup ∧ ∀ x, x ∈ l → 0 ≤ x ∧ x < t.rooms.length := by
    have gen : ∀ m : Nat, m ≤ k + 1 → ∃ l : List Int, l.length = m ∧ l.Nodup ∧ ∀ x, x ∈ l → (0 ≤ x ∧ x < t.rooms.length) ∧ ∃ j, j < m ∧ Dist (nbT t cl) to' x j := by
      intro m
      induction m with
      | zero => intro _; exact ⟨[], rfl, List.nodup_nil, fun x hx => by cases hx⟩
      | succ m ih =>
        intro hm
        obtain ⟨l, l1, l2, l3⟩ := ih (by omega)
        obtain ⟨u, u0, u1, hu⟩ := path m (by omega)
        refine ⟨u :: l, by simp [l1], List.nodup_cons.2 ⟨fun hin => ?_, l2⟩, fun x hx => ?_⟩
        · obtain ⟨_, j, hj, hdj⟩ := l3 u hin
          have := hdj.uniq hu
          omega
        · rcases List.mem_cons.1 hx with rfl | hx
          · exact ⟨⟨u0, u1⟩, m, by omega, hu⟩
          · obtain ⟨a, j, hj, hdj⟩ := l3 x hx
            exact ⟨a, j, by omega, hdj⟩
    obtain ⟨l, l1, l2, l3⟩ := gen (k + 1) (Nat.le_refl _)
    exact ⟨l, l1, l2, fun x hx => (l3 x hx).1⟩
  obtain ⟨l, l1, l2, l3⟩ := all
  have := nodup_len t.rooms.length l l2 l3
  omega
end
end Go.Proofs.Ytnpamcpoaklgeaa
namespace Go.Proofs.Ytnpamcpoaklgeaa
section
variable {t : Town} {cl : List Int} {from' to' : Int}
end
end Go.Proofs.Ytnpamcpoaklgeaa
namespace Go.Proofs.Ytnpamcpoaklgeaa
open Go Go.RowKit
set_option maxRecDepth 100000
end Go.Proofs.Ytnpamcpoaklgeaa
namespace Go.Proofs.Ytnpamcpoaklgeaa
open Go Go.RowKit
set_option maxRecDepth 100000
def isSt (cl : List Int) (a b : Int) (i : Nat) (s : Int × Int) : Bool := !(has cl i) && ((decide (s.1 = a) && decide (s.2 = b)) || (decide (s.1 = b) && decide (s.2 = a)))
theorem stA1 {cl : List Int} {a b : Int} {j : Nat} {s : Int × Int} (h : has cl j = false) (g : (s.1 == a && s.2 == b) = true) : isSt cl a b j s = true := by
  simp at g
  simp [isSt, h, g]
theorem stA2 {cl : List Int} {a b : Int} {j : Nat} {s : Int × Int} (h : has cl j = false) (g : (s.1 == a && s.2 == b) = false) : isSt cl a b j s = (s.1 == b && s.2 == a) := by
  symm
  simp at g
  rw [Bool.eq_iff_iff]
  simp only [isSt, h, Bool.not_false, Bool.true_and, Bool.or_eq_true, Bool.and_eq_true, decide_eq_true_eq, beq_iff_eq]
  exact ⟨fun q => .inr q, fun q => q.resolve_left fun q => g q.1 q.2⟩
theorem stB {cl : List Int} {a b : Int} {j : Nat} {s : Int × Int} (h : has cl j = false) (g : ¬ (s.1 = a ∧ s.2 = b)) (g2 : (s.2 == a) = true) : isSt cl a b j s = (s.1 == b) := by
  symm
  simp at g2
  rw [Bool.eq_iff_iff]
  simp only [isSt, h, Bool.not_false, Bool.true_and, Bool.or_eq_true, Bool.and_eq_true, decide_eq_true_eq, beq_iff_eq]
  exact ⟨fun q => .inr ⟨q, g2⟩, fun q => (q.resolve_left fun q => g q).1⟩
def firstSt (cl : List Int) (a b : Int) : List (Int × Int) → Nat → Option Nat
  | [], _ => none
  | s :: r, i => if isSt cl a b i s then some i else firstSt cl a b r (i + 1)
def addSt (out : List Int) (o : Option Nat) : List Int := match o with
  | some n => out ++ [(n : Int)]
  | none => out
def routeOf (cl : List Int) (sts : List (Int × Int)) : List Int → List Int → List Int
  | [], out => out
  | [_], out => out
  | a :: b :: r, out => routeOf cl sts (b :: r) (addSt out (firstSt cl a b sts 0))
def routeAns (c : City) (cl : List Int) (from' to' : Int) : List Int × Int :=
  if chkCity c ≠ 0 then ([], chkCity c) else if (wayAns c.town cl from' to').2 ≠ 0 then ([], (wayAns c.town cl from' to').2) else (routeOf cl c.town.streets (wayAns c.town cl from' to').1 [], 0)
theorem routeOf_step {cl : List Int} {sts : List (Int × Int)} {way : List Int} {i : Nat} {a b : Int} (h1 : way[i]? = some a) (h2 : way[i + 1]? = some b) (out : List Int) :
    routeOf cl sts (way.drop i) out = routeOf cl sts (way.drop (i + 1)) (addSt out (firstSt cl a b sts 0)) := by
  have l1 := (List.getElem?_eq_some_iff.1 h1)
  have l2 := (List.getElem?_eq_some_iff.1 h2)
  rw [List.drop_eq_getElem_cons l1.1, List.drop_eq_getElem_cons l2.1, l1.2, l2.2]
  rfl
theorem routeOf_end {cl : List Int} {sts : List (Int × Int)} {way : List Int} {i : Nat} (h : way.length ≤ i + 1) (out : List Int) : routeOf cl sts (way.drop i) out = out := by
  have : (way.drop i).length ≤ 1 := by simp; omega
  cases hd : way.drop i with
  | nil => rfl
  | cons a r =>
    cases r with
    | nil => rfl
    | cons b r => rw [hd] at this; simp at this
theorem chkCity_town' {c : City} (h : chkCity c = 0) : chkTown c.town = 0 := by
  unfold chkCity at h
  by_cases e : chkTown c.town = 0
  · exact e
  · rw [if_pos e] at h; exact absurd h e
theorem chkStreets_valid {n : Int} : ∀ {l : List (Int × Int)}, chkStreets n l = 0 → ∀ s, s ∈ l → 0 ≤ s.1 ∧ s.1 < n ∧ 0 ≤ s.2 ∧ s.2 < n := by
  intro l
  induction l with
  | nil => intro _ s hs; cases hs
  | cons x l ih =>
    intro h s hs
    unfold chkStreets at h
    by_cases e : (inR x.1 0 (n - 1) && inR x.2 0 (n - 1)) = true
    · rw [if_neg (by simp [e])] at h
      by_cases e2 : x.1 = x.2
      · rw [if_pos e2] at h; cases h
      · rw [if_neg e2] at h
        rcases List.mem_cons.1 hs with rfl | hs
        · simp only [Bool.and_eq_true, inR_true] at e; omega
        · exact ih h s hs
    · simp only [Bool.not_eq_true] at e
      rw [e] at h
      cases h
theorem chkTown_valid {t : Town} (h : chkTown t = 0) : ValidSt t ∧ t.rooms.length ≤ 12 ∧ t.streets.length ≤ 12 := by
  unfold chkTown at h
  repeat' (split at h <;> try (first | omega | (cases h; done)))
  rename_i h1 h2 h3 h4 h5 h6 h7
  exact ⟨fun s hs => chkStreets_valid (by simpa using h5) s hs, by omega, by omega⟩
set_option maxHeartbeats 8000000 in
theorem Route_pc (Y : YEnv) (σ : Sg) (ct : City) (hc : ct.Ok) (cl : List Int) (from' to' : Int) (hcl' : cl.length < 2 ^ 40) (hs : ct.town.streets.length < 2 ^ 40) (hN : ct.town.rooms.length < 2 ^ 40) (hg : ct.town.groups.length < 2 ^ 40) (hp : ∀ g, g ∈ ct.town.groups → g.path.length < 2 ^ 40) (hwl : (wayAns ct.town cl from' to').1.length < 2 ^ 42) :
    PC Try.prog Y 46 [ctPV ct, ints cl, I from', I to'] σ (.tuple [ints (routeAns ct cl from' to').1, I (routeAns ct cl from' to').2]) (σ) := by
  refine PC_of_W Try.func46 rfl (by kernel_rfl) Try.ntmps46 (by simp) fun hcl hca => ?_
  obtain ⟨way, hway⟩ : ∃ z, (wayAns ct.town cl from' to').1 = z := ⟨_, rfl⟩
  obtain ⟨we, hwe⟩ : ∃ z, (wayAns ct.town cl from' to').2 = z := ⟨_, rfl⟩
  rw [hway] at hwl
  obtain ⟨res, hres⟩ : ∃ r, routeAns ct cl from' to' = r := ⟨_, rfl⟩
  rw [hres]
  refine W_seq fun kz1 kq1 => ?_
  refine W_region [1, 2, 3, 4] fun R hR => ?_   -- r0
  simp only [go_sem, hway, hwe]
  refine hR _ _ (kq1 _ _ ?_); clear hR R; try clear kq1 kz1
  try simp only [go_sem, hway, hwe]
  refine W_seq fun kz2 kq2 => ?_
  refine W_seq fun kz3 kq3 => ?_
  refine W_region [1, 2, 3, 4, 10] fun R hR => ?_   -- r1
  simp only [go_sem, hway, hwe]
  refine GCall_of (bcheck_pc Y _ ct hc) ?_   -- t20
  simp only [go_sem, hway, hwe]
  refine hR _ _ (kq3 _ _ ?_); clear hR R; try clear kq3 kz3
  try simp only [go_sem, hway, hwe]
  refine W_seq fun kz4 kq4 => ?_
  refine W_region [1, 2, 3, 4, 10, 22] fun R hR => ?_   -- r2
  simp only [go_sem, hway, hwe]
  refine hR _ _ (kq4 _ _ ?_); clear hR R; try clear kq4 kz4
  try simp only [go_sem, hway, hwe]
  refine W_cond rfl (fun c1 => ?_) (fun c1 => ?_)
  · -- c1 true
    try simp only [nrm] at c1
    refine W_seq fun kz5 kq5 => ?_
    refine W_region [8, 9] fun R hR => ?_   -- r3
    simp only [go_sem, hway, hwe]
    refine hR _ _ (kq5 _ _ ?_); clear hR R; try clear kq5 kz5
    try simp only [go_sem, hway, hwe]
    refine W_ret ?_
    simp only [go_sem, hway, hwe]
    refine ⟨.inr (by trivial), ?_⟩
    refine Fin_same hcl rfl (Wk.ro (by simp only [go_sem]) ?_)
    try simp only [go_sem]
    all_goals
      rw [← hres]; simp only [routeAns]; rw [if_pos (by simpa using c1)]; rfl
  · -- c1 false
    try simp only [nrm] at c1
    refine W_skip (kq2 _ _ ?_)
    refine W_seq fun kz6 kq6 => ?_
    refine W_region [1, 4, 11, 12] fun R hR => ?_   -- r4
    simp only [go_sem, hway, hwe]
    refine GCall_of (Way_pc Y _ ct.town cl from' to' hs hcl' hN hg hp (fun h => (chkTown_valid h).1)) ?_   -- t30
    simp only [go_sem, hway, hwe]
    refine hR _ _ (kq6 _ _ ?_); clear hR R; try clear kq6 kz6
    try simp only [go_sem, hway, hwe]
    refine W_seq fun kz7 kq7 => ?_
    refine W_seq fun kz8 kq8 => ?_
    refine W_region [1, 4, 11, 12, 34] fun R hR => ?_   -- r5
    simp only [go_sem, hway, hwe]
    refine hR _ _ (kq8 _ _ ?_); clear hR R; try clear kq8 kz8
    try simp only [go_sem, hway, hwe]
    refine W_cond rfl (fun c2 => ?_) (fun c2 => ?_)
    · -- c2 true
      try simp only [nrm] at c2
      refine W_seq fun kz9 kq9 => ?_
      refine W_region [8, 9] fun R hR => ?_   -- r6
      simp only [go_sem, hway, hwe]
      refine hR _ _ (kq9 _ _ ?_); clear hR R; try clear kq9 kz9
      try simp only [go_sem, hway, hwe]
      refine W_ret ?_
      simp only [go_sem, hway, hwe]
      refine ⟨.inr (by trivial), ?_⟩
      refine Fin_same hcl rfl (Wk.ro (by simp only [go_sem]) ?_)
      try simp only [go_sem]
      all_goals
        rw [← hres]; simp only [routeAns]; rw [if_neg (by simpa using c1), if_pos (by rw [hwe]; simpa using c2), hwe]; rfl
    · -- c2 false
      try simp only [nrm] at c2
      refine W_skip (kq7 _ _ ?_)
      refine W_seq fun kz10 kq10 => ?_
      refine W_region [1, 4, 11, 13] fun R hR => ?_   -- r7
      simp only [go_sem, hway, hwe]
      refine hR _ _ (kq10 _ _ ?_); clear hR R; try clear kq10 kz10
      try simp only [go_sem, hway, hwe]
      refine W_seq fun kz11 kq11 => ?_
      refine W_seq fun kz12 kq12 => ?_
      refine W_region [1, 4, 11, 13, 38, 39] fun R hR => ?_   -- r8
      simp only [go_sem, hway, hwe]
      try simp (disch := omega) only [wrapI, wrapU]
      refine hR _ _ (kq12 _ _ ?_); clear hR R; try clear kq12 kz12
      try simp only [go_sem, hway, hwe]
      refine W_block ?_
      refine W_weak (Weak.room (t := 13) (es := 1) rfl (by simp)) ?_
      refine W_weak (Weak.keep [1, 4, 11, 13, 38, 39]) ?_
      simp only [go_sem, hway, hwe]
      refine W_loopT (α := Nat × (List Int)) (fun ⟨i, out⟩ => [(13, .isl (out.map I) (.tok σ.rooms.length out.length 1)), (39, I i)]) (fun ⟨i, out⟩ => σ.ext [some (ctCells ct)] [out.length]) (fun ⟨i, out⟩ => out.length ≤ i ∧ routeOf cl ct.town.streets way [] = routeOf cl ct.town.streets (way.drop i) out) (fun ⟨i, out⟩ => way.length - i) ((0, [])) rfl (by first | rfl | (simp only [go_sem]; done) | (simp only [go_sem]; rfl)) (⟨Nat.le_refl _, rfl⟩) ?_
      rintro ⟨i, out⟩ ⟨hol, hinv⟩
      refine W_seq fun kz13 kq13 => ?_
      refine W_region [1, 4, 11, 13, 38, 39, 40] fun R hR => ?_   -- r9
      simp only [go_sem, hway, hwe]
      refine hR _ _ (kq13 _ _ ?_); clear hR R; try clear kq13 kz13
      try simp only [go_sem, hway, hwe]
      refine W_seq fun kz14 kq14 => ?_
      refine W_cond rfl (fun c3 => ?_) (fun c3 => ?_)
      · -- c3 true
        try simp only [nrm] at c3
        have hi1 : i + 1 < way.length := by omega
        obtain ⟨a, ha⟩ : ∃ x, way[i]? = some x := ⟨way[i]'(by omega), by simp⟩
        obtain ⟨b, hb⟩ : ∃ x, way[i + 1]? = some x := ⟨way[i + 1]'(by omega), by simp⟩
        have hb2 : way[((i : Int) + 1).toNat]? = some b := by rw [show ((i : Int) + 1).toNat = i + 1 by omega]; exact hb
        have hi0 : 0 ≤ (i : Int) + 1 := by omega
        have hw1 : IntKind.i64.wrap ((i : Int) + 1) = (i : Int) + 1 := wrapI (by omega) (by omega)
        rw [routeOf_step ha hb] at hinv
        refine W_skip (kq14 _ _ ?_)
        refine W_seq fun kz15 kq15 => ?_
        refine W_block ?_
        refine W_seq fun kz16 kq16 => ?_
        refine W_region [1, 4, 11, 13, 14, 38, 39] fun R hR => ?_   -- r10
        simp only [go_sem, hway, hwe, ha, hb2, hi0, hw1]
        refine hR _ _ (kq16 _ _ ?_); clear hR R; try clear kq16 kz16
        try simp only [go_sem, hway, hwe, ha, hb2, hi0, hw1]
        refine W_seq fun kz17 kq17 => ?_
        refine W_draw [1, 4, 11, 13, 15, 16, 38, 39] [0, 1, 2, 3, 4, 5, 6, 7, 8, 9, 10] [] [[], [], [0, 1], [0, 1, 2], [], [], [5], [4, 5, 6], [4, 5, 6, 7], [0, 1, 2, 3], [0, 1, 2, 3, 4, 5, 6, 7, 8, 9]] mixed (by kernel_rfl) fun R hR => ?_   -- r11
        simp only [go_sem, hway, hwe, ha, hb2, hi0, hw1]
        try simp (disch := omega) only [wrapI, wrapU]
        try refine And.intro (by repeat' (first | refine And.intro ?_ ?_ | exact GOr_right (fun _ => by simp only [go_sem, hway, hwe, ha, hb2, hi0, hw1]))) ?_
        refine hR _ _ (kq17 _ _ ?_); clear hR R; try clear kq17 kz17
        try simp only [go_sem, hway, hwe, ha, hb2, hi0, hw1]
        refine W_seq fun kz18 kq18 => ?_
        refine W_region [1, 4, 11, 13, 15, 16, 38, 39, 53, 54, 55] fun R hR => ?_   -- r12
        simp only [go_sem, hway, hwe, ha, hb2, hi0, hw1]
        refine hR _ _ (kq18 _ _ ?_); clear hR R; try clear kq18 kz18
        try simp only [go_sem, hway, hwe, ha, hb2, hi0, hw1]
        refine W_block ?_
        refine W_loopT (α := Nat) (fun (j : Nat) => [(55, I j)]) (fun (j : Nat) => σ.ext [some (ctCells ct)] [out.length]) (fun (j : Nat) => j ≤ ct.town.streets.length ∧ firstSt cl a b ct.town.streets 0 = firstSt cl a b (ct.town.streets.drop j) j) (fun (j : Nat) => ct.town.streets.length - j) (0) rfl (by first | rfl | (simp only [go_sem]; done) | (simp only [go_sem]; rfl)) (⟨Nat.zero_le _, rfl⟩) ?_
        rintro j ⟨hj, hinv2⟩
        refine W_seq fun kz19 kq19 => ?_
        refine W_region [1, 4, 11, 13, 15, 16, 38, 39, 53, 54, 55, 56] fun R hR => ?_   -- r13
        simp only [go_sem, hway, hwe, ha, hb2, hi0, hw1]
        refine hR _ _ (kq19 _ _ ?_); clear hR R; try clear kq19 kz19
        try simp only [go_sem, hway, hwe, ha, hb2, hi0, hw1]
        refine W_seq fun kz20 kq20 => ?_
        refine W_cond rfl (fun c4 => ?_) (fun c4 => ?_)
        · -- c4 true
          try simp only [nrm] at c4
          have hi' : j < ct.town.streets.length := by first | assumption | omega
          obtain ⟨s, hx⟩ : ∃ s, ct.town.streets[j]? = some s := ⟨ct.town.streets[j], by simp [hi']⟩
          have hdrop : ct.town.streets.drop j = s :: ct.town.streets.drop (j + 1) := by
            rw [List.drop_eq_getElem_cons hi']; congr 1; exact (List.getElem?_eq_some_iff.1 hx).2
          rw [hdrop] at hinv2
          simp only [firstSt] at hinv2
          refine W_skip (kq20 _ _ ?_)
          refine W_seq fun kz21 kq21 => ?_
          refine W_block ?_
          refine W_seq fun kz22 kq22 => ?_
          refine W_region [1, 4, 11, 13, 15, 16, 17, 18, 38, 39, 53, 54, 55] fun R hR => ?_   -- r14
          simp only [go_sem, hway, hwe, ha, hb2, hi0, hw1, hx]
          refine hR _ _ (kq22 _ _ ?_); clear hR R; try clear kq22 kz22
          try simp only [go_sem, hway, hwe, ha, hb2, hi0, hw1, hx]
          refine W_seq fun kz23 kq23 => ?_
          refine W_regionJ [1, 4, 11, 13, 15, 16, 17, 38, 39, 53, 54, 55, 77] [(77, .bool (isSt cl a b j s))] ?_ fun R hR => ?_   -- r15
          · refine kq23 _ _ ?_
            simp only [go_sem, hway, hwe, ha, hb2, hi0, hw1, hx]
            refine W_cond rfl (fun c5 => ?_) (fun c5 => ?_)
            · -- c5 true
              try simp only [nrm] at c5
              refine W_seq fun kz24 kq24 => ?_
              refine W_region [1, 4, 11, 13, 38, 39] fun R hR => ?_   -- r16
              simp only [go_sem, hway, hwe, ha, hb2, hi0, hw1, hx]
              simp (disch := first | omega | (simp only [go_sem] <;> omega)) only [wrapI, wrapU, appX_exact, appX_tok]
              try simp only [go_sem, hway, hwe, ha, hb2, hi0, hw1, hx]
              refine hR _ _ (kq24 _ _ ?_); clear hR R; try clear kq24 kz24
              try simp only [go_sem, hway, hwe, ha, hb2, hi0, hw1, hx]
              refine W_exit ?_
              simp only [go_sem, hway, hwe, ha, hb2, hi0, hw1, hx]
              refine kq15 _ _ ?_
              refine W_region [1, 4, 11, 13, 38, 39] fun R hR => ?_   -- r18
              simp only [go_sem, hway, hwe, ha, hb2, hi0, hw1, hx]
              try simp (disch := omega) only [wrapI, wrapU]
              refine hR _ _ ?_; clear hR R
              try simp only [go_sem, hway, hwe, ha, hb2, hi0, hw1, hx]
              refine ⟨(i + 1, out ++ [(j : Int)]), ?_, by (try simp only []); omega, ?_⟩
              · refine Weak.trans (Weak.cutX 1 1 (by omega) (by omega) hcl (by simp only [go_sem] <;> omega) (by simp only [go_sem] <;> omega)) ?_
                simp only [go_sem]
                exact Weak.eq (by first | rfl | (simp only [go_sem]; done) | (simp only [go_sem]; rfl) | (simp [go_sem]; done) | (simp [go_sem]; omega)) (by first | rfl | (simp only [go_sem]; done) | (simp [go_sem]; done))
              · try dsimp only
                first | exact ⟨by simp; omega, by rw [hinv, hinv2, if_pos c5]; rfl⟩ | exact ⟨by omega, by rw [hinv, hinv2]; rfl⟩
            · -- c5 false
              try simp only [nrm] at c5
              refine W_skip (kq21 _ _ ?_)
              refine W_region [1, 4, 11, 13, 15, 16, 38, 39, 53, 54, 55] fun R hR => ?_   -- r17
              simp only [go_sem, hway, hwe, ha, hb2, hi0, hw1, hx]
              try simp (disch := omega) only [wrapI, wrapU]
              refine hR _ _ ?_; clear hR R
              try simp only [go_sem, hway, hwe, ha, hb2, hi0, hw1, hx]
              refine ⟨j + 1, ?_, by (try simp only []); omega, ?_⟩
              · refine Weak.trans (Weak.cutX 1 1 (by omega) (by omega) hcl (by simp only [go_sem] <;> omega) (by simp only [go_sem] <;> omega)) ?_
                simp only [go_sem]
                exact Weak.eq (by first | rfl | (simp only [go_sem]; done) | (simp only [go_sem]; rfl) | (simp [go_sem]; done) | (simp [go_sem]; omega)) (by first | rfl | (simp only [go_sem]; done) | (simp [go_sem]; done))
              · try dsimp only
                exact ⟨hi', by rw [hinv2, if_neg (by simpa using c5)]⟩
          · simp only [go_sem, hway, hwe, ha, hb2, hi0, hw1, hx]
            refine GCall_of (Contains_pc Y _ cl (j : Int) .ro (by omega)) ?_   -- t62
            simp only [go_sem, hway, hwe, ha, hb2, hi0, hw1, hx]
            refine GWant_split (fun g1 => ?_) (fun g1 => ?_)
            · try simp only [Bool.not_eq_true', Bool.not_eq_false'] at g1
              have n1 := g1; try simp only [nrm] at n1
              simp only [go_sem, hway, hwe, ha, hb2, hi0, hw1, hx, g1]
              refine GWant_split (fun g2 => ?_) (fun g2 => ?_)
              · try simp only [Bool.not_eq_true', Bool.not_eq_false'] at g2
                have n2 := g2; try simp only [nrm] at n2
                simp only [go_sem, hway, hwe, ha, hb2, hi0, hw1, hx, g1, g2]
                refine hR _ ?_
                try simp only [go_sem, hway, hwe, ha, hb2, hi0, hw1, hx]
                all_goals
                  first | rfl | (rw [stA1 g1 g2]; done) | (rw [stA2 g1 g2]; done) | (rw [stB g1 (by omega) g4]; done) | (rw [stB g1 (by omega) g5]; done) | (rw [stA1 g1 g2]; rfl) | (rw [stA2 g1 g2]; rfl) | (rw [stB g1 (by omega) g4]; rfl) | (rw [stB g1 (by omega) g5]; rfl) | (simp [isSt, *]; done)
              · try simp only [Bool.not_eq_true', Bool.not_eq_false'] at g2
                have n2 := g2; try simp only [nrm] at n2
                simp only [go_sem, hway, hwe, ha, hb2, hi0, hw1, hx, g1, g2]
                refine hR _ ?_
                try simp only [go_sem, hway, hwe, ha, hb2, hi0, hw1, hx]
                all_goals
                  first | rfl | (rw [stA1 g1 g2]; done) | (rw [stA2 g1 g2]; done) | (rw [stB g1 (by omega) g4]; done) | (rw [stB g1 (by omega) g5]; done) | (rw [stA1 g1 g2]; rfl) | (rw [stA2 g1 g2]; rfl) | (rw [stB g1 (by omega) g4]; rfl) | (rw [stB g1 (by omega) g5]; rfl) | (simp [isSt, *]; done)
            · try simp only [Bool.not_eq_true', Bool.not_eq_false'] at g1
              have n1 := g1; try simp only [nrm] at n1
              simp only [go_sem, hway, hwe, ha, hb2, hi0, hw1, hx, g1]
              refine hR _ ?_
              try simp only [go_sem, hway, hwe, ha, hb2, hi0, hw1, hx]
              all_goals
                first | rfl | (rw [stA1 g1 g2]; done) | (rw [stA2 g1 g2]; done) | (rw [stB g1 (by omega) g4]; done) | (rw [stB g1 (by omega) g5]; done) | (rw [stA1 g1 g2]; rfl) | (rw [stA2 g1 g2]; rfl) | (rw [stB g1 (by omega) g4]; rfl) | (rw [stB g1 (by omega) g5]; rfl) | (simp [isSt, *]; done)
        · -- c4 false
          try simp only [nrm] at c4
          have hdrop : ct.town.streets.drop j = [] := List.drop_eq_nil_of_le (by omega)
          rw [hdrop] at hinv2
          simp only [firstSt] at hinv2
          obtain ⟨o2, ho2⟩ : ∃ z, out = z := ⟨_, rfl⟩
          refine W_exit ?_
          simp only [go_sem, hway, hwe, ha, hb2, hi0, hw1]
          refine kq15 _ _ ?_
          refine W_region [1, 4, 11, 13, 38, 39] fun R hR => ?_   -- r18
          simp only [go_sem, hway, hwe, ha, hb2, hi0, hw1]
          try simp (disch := omega) only [wrapI, wrapU]
          refine hR _ _ ?_; clear hR R
          try simp only [go_sem, hway, hwe, ha, hb2, hi0, hw1]
          refine ⟨(i + 1, out), ?_, by (try simp only []); omega, ?_⟩
          · refine Weak.trans (Weak.cutX 1 1 (by omega) (by omega) hcl (by simp only [go_sem] <;> omega) (by simp only [go_sem] <;> omega)) ?_
            simp only [go_sem]
            exact Weak.eq (by first | rfl | (simp only [go_sem]; done) | (simp only [go_sem]; rfl) | (simp [go_sem]; done) | (simp [go_sem]; omega)) (by first | rfl | (simp only [go_sem]; done) | (simp [go_sem]; done))
          · try dsimp only
            first | exact ⟨by simp; omega, by rw [hinv, hinv2, if_pos c5]; rfl⟩ | exact ⟨by omega, by rw [hinv, hinv2]; rfl⟩
      · -- c3 false
        try simp only [nrm] at c3
        rw [routeOf_end (by omega)] at hinv
        refine W_exit ?_
        simp only [go_sem, hway, hwe]
        refine kq11 _ _ ?_
        refine W_seq fun kz25 kq25 => ?_
        refine W_region [8, 9] fun R hR => ?_   -- r19
        simp only [go_sem, hway, hwe]
        refine hR _ _ (kq25 _ _ ?_); clear hR R; try clear kq25 kz25
        try simp only [go_sem, hway, hwe]
        refine W_ret ?_
        simp only [go_sem, hway, hwe]
        refine ⟨.inr (by trivial), ?_⟩
        refine Fin_same hcl rfl (Wk.ro (by simp only [go_sem]) ?_)
        try simp only [go_sem]
        all_goals
          rw [← hres]; simp only [routeAns]; rw [if_neg (by simpa using c1), if_neg (by rw [hwe]; simpa using c2), hway, hinv]
end Go.Proofs.Ytnpamcpoaklgeaa
namespace Go.Proofs.Ytnpamcpoaklgeaa
open Go Go.RowKit
set_option maxRecDepth 100000
def pathD (sts : List (Int × Int)) (g : Group) : Nat → Int → List Int → D Group
  | 0, _, acc => dret { g with path := acc }
  | k + 1, at', acc => dbind (roll sts.length) fun s => if 0 ≤ other ((sts[s.toNat]?).getD (0, 0)) at' then pathD sts g k (other ((sts[s.toNat]?).getD (0, 0)) at') (acc ++ [s]) else pathD sts g k at' acc
def groupD (n : Int) (sts : List (Int × Int)) : D Group := dbind (anyOf [30, 90]) fun x => dbind (spanOf 0 x) fun sz => dbind (anyOf [0, 4]) fun y => dbind (spanOf 0 y) fun a => dbind (mid 1 4) fun stay => dbind (roll n) fun f => dbind (roll 5) fun k =>
  pathD sts ⟨sz.1, sz.2, a.1, a.2, stay, f, []⟩ (if 0 < sts.length then k.toNat else 0) f []
def townC (steps n : Int) (rooms : List Int) (sts : List (Int × Int)) : Nat → List Group → D Town
  | 0, acc => dret ⟨rooms, sts, acc, steps⟩
  | k + 1, acc => dbind (groupD n sts) fun g => townC steps n rooms sts k (acc ++ [g])
def townB (gr steps n : Int) (rooms : List Int) : Nat → List (Int × Int) → D Town
  | 0, acc => dbind (roll (gr + 1)) fun g => townC steps n rooms acc g.toNat []
  | k + 1, acc => dbind (roll n) fun a => dbind (mid 1 (n - 1)) fun m => townB gr steps n rooms k (acc ++ [(a, fit (a + m) n)])
def townA (st gr steps n : Int) : Nat → List Int → D Town
  | 0, acc => dbind (roll (st + 1)) fun m => townB gr steps n acc (if 1 < n then m.toNat else 0) []
  | k + 1, acc => dbind (roll 60) fun x => dbind (roll 150) fun y => dbind (anyOf [x, y, 500]) fun z => townA st gr steps n k (acc ++ [z])
def townD (sq st gr : Int) : D Town := dbind (anyOf [4, 11]) fun x => dbind (roll x) fun steps => dbind (mid 1 sq) fun n => townA st gr steps n n.toNat []
theorem mem2 {a b r : Int} (h : r ∈ [a, b]) : r = a ∨ r = b := by simpa using h
theorem mem3 {a b c r : Int} (h : r ∈ [a, b, c]) : r = a ∨ r = b ∨ r = c := by simpa using h
set_option maxHeartbeats 4000000 in
theorem TownOf_pc (Y : YEnv) (σ : Sg) (d : Nat) (b : Int) (hd : σ.store[d]? = some (some [.int .u64 b])) (sq st gr : Int) (hs1 : 1 ≤ sq) (hs2 : sq ≤ 1000) (ht1 : 0 ≤ st) (ht2 : st ≤ 1000) (hg1 : 0 ≤ gr) (hg2 : gr ≤ 1000) :
    PC Try.prog Y 62 [.ptr d 0, I sq, I st, I gr] σ (twPV (townD sq st gr b).1) (σ.setVar d [.int .u64 (townD sq st gr b).2]) := by
  refine PC_of_W Try.func62 rfl (by kernel_rfl) Try.ntmps62 (by simp) fun hcl hca => ?_
  have hlt := lt_of_get hd
  obtain ⟨res, hres⟩ : ∃ r, townD sq st gr b = r := ⟨_, rfl⟩
  rw [hres]
  obtain ⟨x0, hx0⟩ : ∃ zz, (anyOf [4, 11] b).1 = zz := ⟨_, rfl⟩
  obtain ⟨b1, hb1⟩ : ∃ zz, (anyOf [4, 11] b).2 = zz := ⟨_, rfl⟩
  have dx0 := anyOf_mem [4, 11] (by simp) b
  simp only [hx0] at dx0
  obtain ⟨steps, hsteps⟩ : ∃ zz, (roll x0 b1).1 = zz := ⟨_, rfl⟩
  obtain ⟨b2, hb2⟩ : ∃ zz, (roll x0 b1).2 = zz := ⟨_, rfl⟩
  have dsteps := roll_bd x0 b1
  simp only [hsteps] at dsteps
  obtain ⟨n, hn⟩ : ∃ zz, (mid 1 sq b2).1 = zz := ⟨_, rfl⟩
  obtain ⟨b3, hb3⟩ : ∃ zz, (mid 1 sq b2).2 = zz := ⟨_, rfl⟩
  have dn := mid_bd 1 sq hs1 b2
  simp only [hn] at dn
  have dx1 := mem2 dx0
  simp only [townD, dbind, hx0, hb1, hsteps, hb2, hn, hb3] at hres
  have hnn : n - ((n.toNat : Nat) : Int) = 0 := by omega
  refine W_seq fun kz1 kq1 => ?_
  refine W_region [0, 1, 2, 3, 8] fun R hR => ?_   -- r0
  simp only [go_sem, ldS_at hd, stX_at hd, ldS_sv hlt, stX_sv hlt, sv_ext hlt, sv_ext_sv hlt, hx0, hb1, hsteps, hb2, hn, hb3]
  refine hR _ _ (kq1 _ _ ?_); clear hR R; try clear kq1 kz1
  try simp only [go_sem, ldS_at hd, stX_at hd, ldS_sv hlt, stX_sv hlt, sv_ext hlt, sv_ext_sv hlt, hx0, hb1, hsteps, hb2, hn, hb3]
  refine W_seq fun kz2 kq2 => ?_
  refine W_region [0, 1, 2, 3, 8, 9] fun R hR => ?_   -- r1
  simp only [go_sem, ldS_at hd, stX_at hd, ldS_sv hlt, stX_sv hlt, sv_ext hlt, sv_ext_sv hlt, hx0, hb1, hsteps, hb2, hn, hb3]
  refine GCall_of (Any_pc Y _ d b (by first | exact hd | exact sv_get hlt | exact get_svx hlt | exact get_extx hd) [4, 11] (by simp) (by simp)) ?_   -- t23
  simp only [go_sem, ldS_at hd, stX_at hd, ldS_sv hlt, stX_sv hlt, sv_ext hlt, sv_ext_sv hlt, hx0, hb1, hsteps, hb2, hn, hb3]
  refine GCall_of (Roll_pc Y _ d b1 (by first | exact hd | exact sv_get hlt | exact get_svx hlt | exact get_extx hd) x0 (by omega)) ?_   -- t24
  simp only [go_sem, ldS_at hd, stX_at hd, ldS_sv hlt, stX_sv hlt, sv_ext hlt, sv_ext_sv hlt, hx0, hb1, hsteps, hb2, hn, hb3]
  refine hR _ _ (kq2 _ _ ?_); clear hR R; try clear kq2 kz2
  try simp only [go_sem, ldS_at hd, stX_at hd, ldS_sv hlt, stX_sv hlt, sv_ext hlt, sv_ext_sv hlt, hx0, hb1, hsteps, hb2, hn, hb3]
  refine W_seq fun kz3 kq3 => ?_
  refine W_region [0, 2, 3, 8, 9, 10] fun R hR => ?_   -- r2
  simp only [go_sem, ldS_at hd, stX_at hd, ldS_sv hlt, stX_sv hlt, sv_ext hlt, sv_ext_sv hlt, hx0, hb1, hsteps, hb2, hn, hb3]
  refine GCall_of (Mid_pc Y _ d b2 (by first | exact hd | exact sv_get hlt | exact get_svx hlt | exact get_extx hd) 1 sq (by omega) (by omega) (by omega) (by omega)) ?_   -- t28
  simp only [go_sem, ldS_at hd, stX_at hd, ldS_sv hlt, stX_sv hlt, sv_ext hlt, sv_ext_sv hlt, hx0, hb1, hsteps, hb2, hn, hb3]
  refine hR _ _ (kq3 _ _ ?_); clear hR R; try clear kq3 kz3
  try simp only [go_sem, ldS_at hd, stX_at hd, ldS_sv hlt, stX_sv hlt, sv_ext hlt, sv_ext_sv hlt, hx0, hb1, hsteps, hb2, hn, hb3]
  refine W_seq fun kz4 kq4 => ?_
  refine W_seq fun kz5 kq5 => ?_
  refine W_region [0, 2, 3, 8, 9, 10, 11] fun R hR => ?_   -- r3
  simp only [go_sem, ldS_at hd, stX_at hd, ldS_sv hlt, stX_sv hlt, sv_ext hlt, sv_ext_sv hlt, hx0, hb1, hsteps, hb2, hn, hb3]
  refine hR _ _ (kq5 _ _ ?_); clear hR R; try clear kq5 kz5
  try simp only [go_sem, ldS_at hd, stX_at hd, ldS_sv hlt, stX_sv hlt, sv_ext hlt, sv_ext_sv hlt, hx0, hb1, hsteps, hb2, hn, hb3]
  refine W_block ?_
  refine W_weak (Weak.roomSV (j := 1) (off := 0) (es := 1) rfl rfl (by simp)) ?_
  simp only [go_sem, ldS_at hd, stX_at hd, ldS_sv hlt, stX_sv hlt, sv_ext hlt, sv_ext_sv hlt, hx0, hb1, hsteps, hb2, hn, hb3]
  refine W_loopT (α := Nat × (List Int) × Int) (fun ⟨k, acc, b⟩ => [(11, I (n - (k : Int)))]) (fun ⟨k, acc, b⟩ => (σ.setVar d [.int .u64 b]).ext [some [.isl [] .exact, .isl [] .exact, .isl [] .exact, I 0], some [.isl (acc.map I) (.tok σ.rooms.length acc.length 1), .isl [] .exact, .isl [] .exact, I steps]] [acc.length]) (fun ⟨k, acc, b⟩ => (k : Int) ≤ n ∧ acc.length + k ≤ 2000 ∧ res = townA st gr steps n k acc b) (fun ⟨k, acc, b⟩ => k) ((n.toNat, [], b3)) (by simp only [go_sem, hnn]) (by first | rfl | (simp only [go_sem]; done) | (simp only [go_sem]; rfl)) (⟨by (try dsimp only); omega, by (try dsimp only); simp; omega, hres.symm⟩) ?_
  rintro ⟨k, acc, b⟩ ⟨hk, hal, hinv⟩
  refine W_seq fun kz6 kq6 => ?_
  refine W_seq fun kz7 kq7 => ?_
  refine W_region [0, 2, 3, 8, 9, 10, 11, 31] fun R hR => ?_   -- r4
  simp only [go_sem, ldS_at hd, stX_at hd, ldS_sv hlt, stX_sv hlt, sv_ext hlt, sv_ext_sv hlt, hx0, hb1, hsteps, hb2, hn, hb3]
  refine hR _ _ (kq7 _ _ ?_); clear hR R; try clear kq7 kz7
  try simp only [go_sem, ldS_at hd, stX_at hd, ldS_sv hlt, stX_sv hlt, sv_ext hlt, sv_ext_sv hlt, hx0, hb1, hsteps, hb2, hn, hb3]
  refine W_cond rfl (fun c1 => ?_) (fun c1 => ?_)
  · -- c1 true
    try simp only [nrm] at c1
    obtain ⟨k, rfl⟩ : ∃ j, k = j + 1 := ⟨k - 1, by omega⟩
    obtain ⟨x, hx⟩ : ∃ zz, (roll 60 b).1 = zz := ⟨_, rfl⟩
    obtain ⟨b4, hb4⟩ : ∃ zz, (roll 60 b).2 = zz := ⟨_, rfl⟩
    have dx := roll_bd 60 b
    simp only [hx] at dx
    obtain ⟨y, hy⟩ : ∃ zz, (roll 150 b4).1 = zz := ⟨_, rfl⟩
    obtain ⟨b5, hb5⟩ : ∃ zz, (roll 150 b4).2 = zz := ⟨_, rfl⟩
    have dy := roll_bd 150 b4
    simp only [hy] at dy
    obtain ⟨z, hz⟩ : ∃ zz, (anyOf [x, y, 500] b5).1 = zz := ⟨_, rfl⟩
    obtain ⟨b6, hb6⟩ : ∃ zz, (anyOf [x, y, 500] b5).2 = zz := ⟨_, rfl⟩
    have dz := anyOf_mem [x, y, 500] (by simp) b5
    simp only [hz] at dz
    simp only [townA, dbind, hx, hb4, hy, hb5, hz, hb6] at hinv
    refine W_skip (kq6 _ _ ?_)
    refine W_seq fun kz8 kq8 => ?_
    refine W_block ?_
    refine W_draw [0, 2, 3, 8, 9, 10, 11] [0, 1, 2, 3, 4, 5, 6, 7, 8, 9, 10, 11, 12] [(0, 6), (0, 8), (0, 10), (1, 6), (1, 8), (1, 10), (2, 6), (2, 8), (5, 4)] [[], [0], [], [], [3], [], [3, 4, 5], [3, 4, 5, 6], [2, 3, 4, 5, 6, 7], [2, 3, 4, 5, 6, 7, 8], [0, 1, 2, 3, 4, 5, 6, 7, 8, 9], [0, 1, 2, 3, 4, 5, 6, 7, 8, 9, 10], [0, 1, 2, 3, 4, 5, 6, 7, 8, 9, 10, 11]] mixed (by kernel_rfl) fun R hR => ?_   -- r6
    simp only [go_sem, ldS_at hd, stX_at hd, ldS_sv hlt, stX_sv hlt, sv_ext hlt, sv_ext_sv hlt, hx0, hb1, hsteps, hb2, hn, hb3, hx, hb4, hy, hb5, hz, hb6]
    refine GCall_of (Roll_pc Y _ d b (by first | exact hd | exact sv_get hlt | exact get_svx hlt | exact get_extx hd) 60 (by omega)) ?_   -- t38
    simp only [go_sem, ldS_at hd, stX_at hd, ldS_sv hlt, stX_sv hlt, sv_ext hlt, sv_ext_sv hlt, hx0, hb1, hsteps, hb2, hn, hb3, hx, hb4, hy, hb5, hz, hb6]
    refine GCall_of (Roll_pc Y _ d b4 (by first | exact hd | exact sv_get hlt | exact get_svx hlt | exact get_extx hd) 150 (by omega)) ?_   -- t40
    simp only [go_sem, ldS_at hd, stX_at hd, ldS_sv hlt, stX_sv hlt, sv_ext hlt, sv_ext_sv hlt, hx0, hb1, hsteps, hb2, hn, hb3, hx, hb4, hy, hb5, hz, hb6]
    refine GCall_of (Any_pc Y _ d b5 (by first | exact hd | exact sv_get hlt | exact get_svx hlt | exact get_extx hd) [x, y, 500] (by simp) (by simp)) ?_   -- t42
    simp only [go_sem, ldS_at hd, stX_at hd, ldS_sv hlt, stX_sv hlt, sv_ext hlt, sv_ext_sv hlt, hx0, hb1, hsteps, hb2, hn, hb3, hx, hb4, hy, hb5, hz, hb6]
    simp (disch := first | omega | (simp only [go_sem] <;> omega)) only [wrapI, wrapU, appX_exact, appX_tok]
    try simp only [go_sem, ldS_at hd, stX_at hd, ldS_sv hlt, stX_sv hlt, sv_ext hlt, sv_ext_sv hlt, hx0, hb1, hsteps, hb2, hn, hb3, hx, hb4, hy, hb5, hz, hb6]
    try refine And.intro (by repeat' (first | refine And.intro ?_ ?_ | exact GOr_right (fun _ => by simp only [go_sem, ldS_at hd, stX_at hd, ldS_sv hlt, stX_sv hlt, sv_ext hlt, sv_ext_sv hlt, hx0, hb1, hsteps, hb2, hn, hb3, hx, hb4, hy, hb5, hz, hb6]))) ?_
    refine hR _ _ (kq8 _ _ ?_); clear hR R; try clear kq8 kz8
    try simp only [go_sem, ldS_at hd, stX_at hd, ldS_sv hlt, stX_sv hlt, sv_ext hlt, sv_ext_sv hlt, hx0, hb1, hsteps, hb2, hn, hb3, hx, hb4, hy, hb5, hz, hb6]
    refine W_region [0, 2, 3, 8, 9, 10, 11] fun R hR => ?_   -- r5
    simp only [go_sem, ldS_at hd, stX_at hd, ldS_sv hlt, stX_sv hlt, sv_ext hlt, sv_ext_sv hlt, hx0, hb1, hsteps, hb2, hn, hb3, hx, hb4, hy, hb5, hz, hb6]
    try simp (disch := omega) only [wrapI, wrapU]
    refine hR _ _ ?_; clear hR R
    try simp only [go_sem, ldS_at hd, stX_at hd, ldS_sv hlt, stX_sv hlt, sv_ext hlt, sv_ext_sv hlt, hx0, hb1, hsteps, hb2, hn, hb3, hx, hb4, hy, hb5, hz, hb6]
    refine ⟨(k, acc ++ [z], b6), ?_, by (try simp only []); omega, ?_⟩
    · first | exact Weak.refl | exact Weak.eq (by first | rfl | (simp only [go_sem]; done) | (simp only [go_sem]; rfl) | (simp [go_sem]; done) | (simp [go_sem]; omega)) (by first | rfl | (simp only [go_sem]; done) | (simp [go_sem]; done))
    · try dsimp only
      exact ⟨by omega, by simp; omega, hinv⟩
  · -- c1 false
    try simp only [nrm] at c1
    obtain rfl : k = 0 := by omega
    obtain ⟨m1, hm1⟩ : ∃ zz, (roll (st + 1) b).1 = zz := ⟨_, rfl⟩
    obtain ⟨b7, hb7⟩ : ∃ zz, (roll (st + 1) b).2 = zz := ⟨_, rfl⟩
    have dm1 := roll_bd (st + 1) b
    simp only [hm1] at dm1
    simp only [townA, dbind, hm1, hb7] at hinv
    clear hres
    have hmt : ((m1.toNat : Nat) : Int) = m1 := by omega
    refine W_exit ?_
    simp only [go_sem, ldS_at hd, stX_at hd, ldS_sv hlt, stX_sv hlt, sv_ext hlt, sv_ext_sv hlt, hx0, hb1, hsteps, hb2, hn, hb3, hm1, hb7]
    refine kq4 _ _ ?_
    refine W_seq fun kz9 kq9 => ?_
    refine W_seq fun kz10 kq10 => ?_
    refine W_region [0, 3, 8, 9, 10, 12] fun R hR => ?_   -- r7
    simp only [go_sem, ldS_at hd, stX_at hd, ldS_sv hlt, stX_sv hlt, sv_ext hlt, sv_ext_sv hlt, hx0, hb1, hsteps, hb2, hn, hb3, hm1, hb7]
    try simp (disch := omega) only [wrapI, wrapU]
    refine GCall_of (Roll_pc Y _ d b (by first | exact hd | exact sv_get hlt | exact get_svx hlt | exact get_extx hd) (st + 1) (by omega)) ?_   -- t49
    simp only [go_sem, ldS_at hd, stX_at hd, ldS_sv hlt, stX_sv hlt, sv_ext hlt, sv_ext_sv hlt, hx0, hb1, hsteps, hb2, hn, hb3, hm1, hb7]
    try simp (disch := omega) only [wrapI, wrapU]
    refine hR _ _ (kq10 _ _ ?_); clear hR R; try clear kq10 kz10
    try simp only [go_sem, ldS_at hd, stX_at hd, ldS_sv hlt, stX_sv hlt, sv_ext hlt, sv_ext_sv hlt, hx0, hb1, hsteps, hb2, hn, hb3, hm1, hb7]
    refine W_block ?_
    refine W_weak (Weak.roomSV (j := 1) (off := 1) (es := 2) rfl rfl (by simp)) ?_
    simp only [go_sem, ldS_at hd, stX_at hd, ldS_sv hlt, stX_sv hlt, sv_ext hlt, sv_ext_sv hlt, hx0, hb1, hsteps, hb2, hn, hb3, hm1, hb7]
    refine W_loopT (α := Nat × (List (Int × Int)) × Int) (fun ⟨k, acs, b⟩ => [(12, I k)]) (fun ⟨k, acs, b⟩ => (σ.setVar d [.int .u64 b]).ext [some [.isl [] .exact, .isl [] .exact, .isl [] .exact, I 0], some [.isl (acc.map I) (.tok σ.rooms.length acc.length 1), .isl (acs.map stPV) (.tok (σ.rooms.length + 1) acs.length 2), .isl [] .exact, I steps]] [acc.length, acs.length]) (fun ⟨k, acs, b⟩ => acs.length + k ≤ 2000 ∧ res = townB gr steps n acc (if 1 < n then k else 0) acs b) (fun ⟨k, acs, b⟩ => k) ((m1.toNat, [], b7)) (by simp only [go_sem, hmt]) (by first | rfl | (simp only [go_sem]; done) | (simp only [go_sem]; rfl)) (⟨by (try dsimp only); simp; omega, hinv⟩) ?_
    rintro ⟨k, acs, b⟩ ⟨hal2, hinv⟩
    refine W_seq fun kz11 kq11 => ?_
    refine W_seq fun kz12 kq12 => ?_
    refine W_regionJ [0, 3, 8, 9, 10, 12, 55] [(55, .bool (decide (0 < (k : Int)) && decide (1 < n)))] ?_ fun R hR => ?_   -- r8
    · refine kq12 _ _ ?_
      simp only [go_sem, ldS_at hd, stX_at hd, ldS_sv hlt, stX_sv hlt, sv_ext hlt, sv_ext_sv hlt, hx0, hb1, hsteps, hb2, hn, hb3, hm1, hb7]
      refine W_cond rfl (fun c2 => ?_) (fun c2 => ?_)
      · -- c2 true
        try simp only [nrm] at c2
        simp only [Bool.and_eq_true, decide_eq_true_eq] at c2
        obtain ⟨k, rfl⟩ : ∃ j, k = j + 1 := ⟨k - 1, by omega⟩
        rw [if_pos c2.2] at hinv
        obtain ⟨a0, ha0⟩ : ∃ zz, (roll n b).1 = zz := ⟨_, rfl⟩
        obtain ⟨b8, hb8⟩ : ∃ zz, (roll n b).2 = zz := ⟨_, rfl⟩
        have da0 := roll_bd n b
        simp only [ha0] at da0
        obtain ⟨m0, hm0⟩ : ∃ zz, (mid 1 (n - 1) b8).1 = zz := ⟨_, rfl⟩
        obtain ⟨b9, hb9⟩ : ∃ zz, (mid 1 (n - 1) b8).2 = zz := ⟨_, rfl⟩
        have dm0 := mid_bd 1 (n - 1) (by omega) b8
        simp only [hm0] at dm0
        have dft := fit_bd (a0 + m0) n
        simp only [townB, dbind, ha0, hb8, hm0, hb9] at hinv
        refine W_skip (kq11 _ _ ?_)
        refine W_seq fun kz13 kq13 => ?_
        refine W_block ?_
        refine W_seq fun kz14 kq14 => ?_
        refine W_region [0, 3, 8, 9, 10, 12, 13] fun R hR => ?_   -- r10
        simp only [go_sem, ldS_at hd, stX_at hd, ldS_sv hlt, stX_sv hlt, sv_ext hlt, sv_ext_sv hlt, hx0, hb1, hsteps, hb2, hn, hb3, hm1, hb7, ha0, hb8, hm0, hb9]
        refine GCall_of (Roll_pc Y _ d b (by first | exact hd | exact sv_get hlt | exact get_svx hlt | exact get_extx hd) n (by omega)) ?_   -- t60
        simp only [go_sem, ldS_at hd, stX_at hd, ldS_sv hlt, stX_sv hlt, sv_ext hlt, sv_ext_sv hlt, hx0, hb1, hsteps, hb2, hn, hb3, hm1, hb7, ha0, hb8, hm0, hb9]
        refine hR _ _ (kq14 _ _ ?_); clear hR R; try clear kq14 kz14
        try simp only [go_sem, ldS_at hd, stX_at hd, ldS_sv hlt, stX_sv hlt, sv_ext hlt, sv_ext_sv hlt, hx0, hb1, hsteps, hb2, hn, hb3, hm1, hb7, ha0, hb8, hm0, hb9]
        refine W_draw [0, 3, 8, 9, 10, 12] [0, 1, 2, 3, 4, 5, 6, 7, 8, 9, 10, 11, 12, 13, 14, 15] [(0, 10), (0, 13), (1, 10), (1, 13), (2, 10), (2, 13), (3, 10), (9, 7)] [[], [0], [], [], [], [], [5], [4, 5, 6], [3, 4, 5, 6, 7], [], [3, 4, 5, 6, 7, 8, 9], [2, 3, 4, 5, 6, 7, 8, 9, 10], [2, 3, 4, 5, 6, 7, 8, 9, 10, 11], [0, 1, 2, 3, 4, 5, 6, 7, 8, 9, 10, 11, 12], [0, 1, 2, 3, 4, 5, 6, 7, 8, 9, 10, 11, 12, 13], [0, 1, 2, 3, 4, 5, 6, 7, 8, 9, 10, 11, 12, 13, 14]] mixed (by kernel_rfl) fun R hR => ?_   -- r11
        simp only [go_sem, ldS_at hd, stX_at hd, ldS_sv hlt, stX_sv hlt, sv_ext hlt, sv_ext_sv hlt, hx0, hb1, hsteps, hb2, hn, hb3, hm1, hb7, ha0, hb8, hm0, hb9]
        try simp (disch := omega) only [wrapI, wrapU]
        refine GCall_of (Mid_pc Y _ d b8 (by first | exact hd | exact sv_get hlt | exact get_svx hlt | exact get_extx hd) 1 (n - 1) (by omega) (by omega) (by omega) (by omega)) ?_   -- t68
        simp only [go_sem, ldS_at hd, stX_at hd, ldS_sv hlt, stX_sv hlt, sv_ext hlt, sv_ext_sv hlt, hx0, hb1, hsteps, hb2, hn, hb3, hm1, hb7, ha0, hb8, hm0, hb9]
        try simp (disch := omega) only [wrapI, wrapU]
        refine GCall_of (Fit_pc Y _ (a0 + m0) n (by omega) (by omega) (by omega)) ?_   -- t71
        simp only [go_sem, ldS_at hd, stX_at hd, ldS_sv hlt, stX_sv hlt, sv_ext hlt, sv_ext_sv hlt, hx0, hb1, hsteps, hb2, hn, hb3, hm1, hb7, ha0, hb8, hm0, hb9]
        simp (disch := first | omega | (simp only [go_sem] <;> omega)) only [wrapI, wrapU, appX_exact, appX_tok]
        try simp only [go_sem, ldS_at hd, stX_at hd, ldS_sv hlt, stX_sv hlt, sv_ext hlt, sv_ext_sv hlt, hx0, hb1, hsteps, hb2, hn, hb3, hm1, hb7, ha0, hb8, hm0, hb9]
        try refine And.intro (by repeat' (first | refine And.intro ?_ ?_ | exact GOr_right (fun _ => by simp only [go_sem, ldS_at hd, stX_at hd, ldS_sv hlt, stX_sv hlt, sv_ext hlt, sv_ext_sv hlt, hx0, hb1, hsteps, hb2, hn, hb3, hm1, hb7, ha0, hb8, hm0, hb9]))) ?_
        refine hR _ _ (kq13 _ _ ?_); clear hR R; try clear kq13 kz13
        try simp only [go_sem, ldS_at hd, stX_at hd, ldS_sv hlt, stX_sv hlt, sv_ext hlt, sv_ext_sv hlt, hx0, hb1, hsteps, hb2, hn, hb3, hm1, hb7, ha0, hb8, hm0, hb9]
        refine W_region [0, 3, 8, 9, 10, 12] fun R hR => ?_   -- r9
        simp only [go_sem, ldS_at hd, stX_at hd, ldS_sv hlt, stX_sv hlt, sv_ext hlt, sv_ext_sv hlt, hx0, hb1, hsteps, hb2, hn, hb3, hm1, hb7, ha0, hb8, hm0, hb9]
        try simp (disch := omega) only [wrapI, wrapU]
        refine hR _ _ ?_; clear hR R
        try simp only [go_sem, ldS_at hd, stX_at hd, ldS_sv hlt, stX_sv hlt, sv_ext hlt, sv_ext_sv hlt, hx0, hb1, hsteps, hb2, hn, hb3, hm1, hb7, ha0, hb8, hm0, hb9]
        refine ⟨(k, acs ++ [(a0, fit (a0 + m0) n)], b9), ?_, by (try simp only []); omega, ?_⟩
        · first | exact Weak.refl | exact Weak.eq (by first | rfl | (simp only [go_sem]; done) | (simp only [go_sem]; rfl) | (simp [go_sem]; done) | (simp [go_sem]; omega)) (by first | rfl | (simp only [go_sem]; done) | (simp [go_sem]; done))
        · try dsimp only
          exact ⟨by simp; omega, by rw [if_pos c2.2]; exact hinv⟩
      · -- c2 false
        try simp only [nrm] at c2
        simp only [Bool.and_eq_false_iff, decide_eq_false_iff_not] at c2
        have hz : (if 1 < n then k else 0) = 0 := by split <;> omega
        rw [hz] at hinv
        obtain ⟨gg, hgg⟩ : ∃ zz, (roll (gr + 1) b).1 = zz := ⟨_, rfl⟩
        obtain ⟨b10, hb10⟩ : ∃ zz, (roll (gr + 1) b).2 = zz := ⟨_, rfl⟩
        have dgg := roll_bd (gr + 1) b
        simp only [hgg] at dgg
        simp only [townB, dbind, hgg, hb10] at hinv
        have hgt : ((gg.toNat : Nat) : Int) = gg := by omega
        refine W_exit ?_
        simp only [go_sem, ldS_at hd, stX_at hd, ldS_sv hlt, stX_sv hlt, sv_ext hlt, sv_ext_sv hlt, hx0, hb1, hsteps, hb2, hn, hb3, hm1, hb7, hgg, hb10]
        refine kq9 _ _ ?_
        refine W_seq fun kz15 kq15 => ?_
        refine W_seq fun kz16 kq16 => ?_
        refine W_region [0, 8, 9, 10, 14] fun R hR => ?_   -- r12
        simp only [go_sem, ldS_at hd, stX_at hd, ldS_sv hlt, stX_sv hlt, sv_ext hlt, sv_ext_sv hlt, hx0, hb1, hsteps, hb2, hn, hb3, hm1, hb7, hgg, hb10]
        try simp (disch := omega) only [wrapI, wrapU]
        refine GCall_of (Roll_pc Y _ d b (by first | exact hd | exact sv_get hlt | exact get_svx hlt | exact get_extx hd) (gr + 1) (by omega)) ?_   -- t79
        simp only [go_sem, ldS_at hd, stX_at hd, ldS_sv hlt, stX_sv hlt, sv_ext hlt, sv_ext_sv hlt, hx0, hb1, hsteps, hb2, hn, hb3, hm1, hb7, hgg, hb10]
        try simp (disch := omega) only [wrapI, wrapU]
        refine hR _ _ (kq16 _ _ ?_); clear hR R; try clear kq16 kz16
        try simp only [go_sem, ldS_at hd, stX_at hd, ldS_sv hlt, stX_sv hlt, sv_ext hlt, sv_ext_sv hlt, hx0, hb1, hsteps, hb2, hn, hb3, hm1, hb7, hgg, hb10]
        refine W_block ?_
        refine W_weak (Weak.roomSV (j := 1) (off := 2) (es := 7) rfl rfl (by simp)) ?_
        simp only [go_sem, ldS_at hd, stX_at hd, ldS_sv hlt, stX_sv hlt, sv_ext hlt, sv_ext_sv hlt, hx0, hb1, hsteps, hb2, hn, hb3, hm1, hb7, hgg, hb10]
        refine W_loopT (α := Nat × (List Group) × Int) (fun ⟨k2, acg, b⟩ => [(14, I k2)]) (fun ⟨k2, acg, b⟩ => (σ.setVar d [.int .u64 b]).ext [some [.isl [] .exact, .isl [] .exact, .isl [] .exact, I 0], some [.isl (acc.map I) (.tok σ.rooms.length acc.length 1), .isl (acs.map stPV) (.tok (σ.rooms.length + 1) acs.length 2), .isl (acg.map grPV) (.tok (σ.rooms.length + 2) acg.length 7), I steps]] [acc.length, acs.length, acg.length]) (fun ⟨k2, acg, b⟩ => acg.length + k2 ≤ 2000 ∧ res = townC steps n acc acs k2 acg b) (fun ⟨k2, acg, b⟩ => k2) ((gg.toNat, [], b10)) (by simp only [go_sem, hgt]) (by first | rfl | (simp only [go_sem]; done) | (simp only [go_sem]; rfl)) (⟨by (try dsimp only); simp; omega, hinv⟩) ?_
        rintro ⟨k2, acg, b⟩ ⟨hal3, hinv⟩
        refine W_seq fun kz17 kq17 => ?_
        refine W_seq fun kz18 kq18 => ?_
        refine W_region [0, 8, 9, 10, 14, 81] fun R hR => ?_   -- r13
        simp only [go_sem, ldS_at hd, stX_at hd, ldS_sv hlt, stX_sv hlt, sv_ext hlt, sv_ext_sv hlt, hx0, hb1, hsteps, hb2, hn, hb3, hm1, hb7, hgg, hb10]
        refine hR _ _ (kq18 _ _ ?_); clear hR R; try clear kq18 kz18
        try simp only [go_sem, ldS_at hd, stX_at hd, ldS_sv hlt, stX_sv hlt, sv_ext hlt, sv_ext_sv hlt, hx0, hb1, hsteps, hb2, hn, hb3, hm1, hb7, hgg, hb10]
        refine W_cond rfl (fun c3 => ?_) (fun c3 => ?_)
        · -- c3 true
          try simp only [nrm] at c3
          obtain ⟨k2, rfl⟩ : ∃ j, k2 = j + 1 := ⟨k2 - 1, by omega⟩
          obtain ⟨gres, hgr⟩ : ∃ r, groupD n acs b = r := ⟨_, rfl⟩
          simp only [townC, dbind, hgr] at hinv
          obtain ⟨x2, hx2⟩ : ∃ zz, (anyOf [30, 90] b).1 = zz := ⟨_, rfl⟩
          obtain ⟨b11, hb11⟩ : ∃ zz, (anyOf [30, 90] b).2 = zz := ⟨_, rfl⟩
          have dx2 := anyOf_mem [30, 90] (by simp) b
          simp only [hx2] at dx2
          have dx2b := mem2 dx2
          obtain ⟨sz, hsz⟩ : ∃ zz, (spanOf 0 x2 b11).1 = zz := ⟨_, rfl⟩
          obtain ⟨b12, hb12⟩ : ∃ zz, (spanOf 0 x2 b11).2 = zz := ⟨_, rfl⟩
          have dsz := spanOf_bd 0 x2 (by omega) b11
          simp only [hsz] at dsz
          obtain ⟨x3, hx3⟩ : ∃ zz, (anyOf [0, 4] b12).1 = zz := ⟨_, rfl⟩
          obtain ⟨b13, hb13⟩ : ∃ zz, (anyOf [0, 4] b12).2 = zz := ⟨_, rfl⟩
          have dx3 := anyOf_mem [0, 4] (by simp) b12
          simp only [hx3] at dx3
          have dx3b := mem2 dx3
          obtain ⟨aa, haa⟩ : ∃ zz, (spanOf 0 x3 b13).1 = zz := ⟨_, rfl⟩
          obtain ⟨b14, hb14⟩ : ∃ zz, (spanOf 0 x3 b13).2 = zz := ⟨_, rfl⟩
          have daa := spanOf_bd 0 x3 (by omega) b13
          simp only [haa] at daa
          obtain ⟨stay, hstay⟩ : ∃ zz, (mid 1 4 b14).1 = zz := ⟨_, rfl⟩
          obtain ⟨b15, hb15⟩ : ∃ zz, (mid 1 4 b14).2 = zz := ⟨_, rfl⟩
          have dstay := mid_bd 1 4 (by omega) b14
          simp only [hstay] at dstay
          obtain ⟨fst, hfst⟩ : ∃ zz, (roll n b15).1 = zz := ⟨_, rfl⟩
          obtain ⟨b16, hb16⟩ : ∃ zz, (roll n b15).2 = zz := ⟨_, rfl⟩
          have dfst := roll_bd n b15
          simp only [hfst] at dfst
          obtain ⟨kk, hkk⟩ : ∃ zz, (roll 5 b16).1 = zz := ⟨_, rfl⟩
          obtain ⟨b17, hb17⟩ : ∃ zz, (roll 5 b16).2 = zz := ⟨_, rfl⟩
          have dkk := roll_bd 5 b16
          simp only [hkk] at dkk
          simp only [groupD, dbind, hx2, hb11, hsz, hb12, hx3, hb13, haa, hb14, hstay, hb15, hfst, hb16, hkk, hb17] at hgr
          have hkt : ((kk.toNat : Nat) : Int) = kk := by omega
          refine W_skip (kq17 _ _ ?_)
          refine W_seq fun kz19 kq19 => ?_
          refine W_block ?_
          refine W_seq fun kz20 kq20 => ?_
          refine W_region [0, 8, 9, 10, 14, 15] fun R hR => ?_   -- r15
          simp only [go_sem, ldS_at hd, stX_at hd, ldS_sv hlt, stX_sv hlt, sv_ext hlt, sv_ext_sv hlt, hx0, hb1, hsteps, hb2, hn, hb3, hm1, hb7, hgg, hb10, hx2, hb11, hsz, hb12, hx3, hb13, haa, hb14, hstay, hb15, hfst, hb16, hkk, hb17]
          refine GCall_of (Any_pc Y _ d b (by first | exact hd | exact sv_get hlt | exact get_svx hlt | exact get_extx hd) [30, 90] (by simp) (by simp)) ?_   -- t87
          simp only [go_sem, ldS_at hd, stX_at hd, ldS_sv hlt, stX_sv hlt, sv_ext hlt, sv_ext_sv hlt, hx0, hb1, hsteps, hb2, hn, hb3, hm1, hb7, hgg, hb10, hx2, hb11, hsz, hb12, hx3, hb13, haa, hb14, hstay, hb15, hfst, hb16, hkk, hb17]
          refine GCall_of (Span_pc Y _ d b11 (by first | exact hd | exact sv_get hlt | exact get_svx hlt | exact get_extx hd) 0 x2 (by omega) (by omega) (by omega) (by omega) (by omega)) ?_   -- t88
          simp only [go_sem, ldS_at hd, stX_at hd, ldS_sv hlt, stX_sv hlt, sv_ext hlt, sv_ext_sv hlt, hx0, hb1, hsteps, hb2, hn, hb3, hm1, hb7, hgg, hb10, hx2, hb11, hsz, hb12, hx3, hb13, haa, hb14, hstay, hb15, hfst, hb16, hkk, hb17]
          refine GCall_of (Any_pc Y _ d b12 (by first | exact hd | exact sv_get hlt | exact get_svx hlt | exact get_extx hd) [0, 4] (by simp) (by simp)) ?_   -- t92
          simp only [go_sem, ldS_at hd, stX_at hd, ldS_sv hlt, stX_sv hlt, sv_ext hlt, sv_ext_sv hlt, hx0, hb1, hsteps, hb2, hn, hb3, hm1, hb7, hgg, hb10, hx2, hb11, hsz, hb12, hx3, hb13, haa, hb14, hstay, hb15, hfst, hb16, hkk, hb17]
          refine GCall_of (Span_pc Y _ d b13 (by first | exact hd | exact sv_get hlt | exact get_svx hlt | exact get_extx hd) 0 x3 (by omega) (by omega) (by omega) (by omega) (by omega)) ?_   -- t93
          simp only [go_sem, ldS_at hd, stX_at hd, ldS_sv hlt, stX_sv hlt, sv_ext hlt, sv_ext_sv hlt, hx0, hb1, hsteps, hb2, hn, hb3, hm1, hb7, hgg, hb10, hx2, hb11, hsz, hb12, hx3, hb13, haa, hb14, hstay, hb15, hfst, hb16, hkk, hb17]
          refine GCall_of (Mid_pc Y _ d b14 (by first | exact hd | exact sv_get hlt | exact get_svx hlt | exact get_extx hd) 1 4 (by omega) (by omega) (by omega) (by omega)) ?_   -- t95
          simp only [go_sem, ldS_at hd, stX_at hd, ldS_sv hlt, stX_sv hlt, sv_ext hlt, sv_ext_sv hlt, hx0, hb1, hsteps, hb2, hn, hb3, hm1, hb7, hgg, hb10, hx2, hb11, hsz, hb12, hx3, hb13, haa, hb14, hstay, hb15, hfst, hb16, hkk, hb17]
          refine GCall_of (Roll_pc Y _ d b15 (by first | exact hd | exact sv_get hlt | exact get_svx hlt | exact get_extx hd) n (by omega)) ?_   -- t98
          simp only [go_sem, ldS_at hd, stX_at hd, ldS_sv hlt, stX_sv hlt, sv_ext hlt, sv_ext_sv hlt, hx0, hb1, hsteps, hb2, hn, hb3, hm1, hb7, hgg, hb10, hx2, hb11, hsz, hb12, hx3, hb13, haa, hb14, hstay, hb15, hfst, hb16, hkk, hb17]
          refine hR _ _ (kq20 _ _ ?_); clear hR R; try clear kq20 kz20
          try simp only [go_sem, ldS_at hd, stX_at hd, ldS_sv hlt, stX_sv hlt, sv_ext hlt, sv_ext_sv hlt, hx0, hb1, hsteps, hb2, hn, hb3, hm1, hb7, hgg, hb10, hx2, hb11, hsz, hb12, hx3, hb13, haa, hb14, hstay, hb15, hfst, hb16, hkk, hb17]
          refine W_seq fun kz21 kq21 => ?_
          refine W_region [0, 8, 9, 10, 14, 15, 16] fun R hR => ?_   -- r16
          simp only [go_sem, ldS_at hd, stX_at hd, ldS_sv hlt, stX_sv hlt, sv_ext hlt, sv_ext_sv hlt, hx0, hb1, hsteps, hb2, hn, hb3, hm1, hb7, hgg, hb10, hx2, hb11, hsz, hb12, hx3, hb13, haa, hb14, hstay, hb15, hfst, hb16, hkk, hb17]
          refine hR _ _ (kq21 _ _ ?_); clear hR R; try clear kq21 kz21
          try simp only [go_sem, ldS_at hd, stX_at hd, ldS_sv hlt, stX_sv hlt, sv_ext hlt, sv_ext_sv hlt, hx0, hb1, hsteps, hb2, hn, hb3, hm1, hb7, hgg, hb10, hx2, hb11, hsz, hb12, hx3, hb13, haa, hb14, hstay, hb15, hfst, hb16, hkk, hb17]
          refine W_seq fun kz22 kq22 => ?_
          refine W_seq fun kz23 kq23 => ?_
          refine W_region [0, 8, 9, 10, 14, 15, 16, 17] fun R hR => ?_   -- r17
          simp only [go_sem, ldS_at hd, stX_at hd, ldS_sv hlt, stX_sv hlt, sv_ext hlt, sv_ext_sv hlt, hx0, hb1, hsteps, hb2, hn, hb3, hm1, hb7, hgg, hb10, hx2, hb11, hsz, hb12, hx3, hb13, haa, hb14, hstay, hb15, hfst, hb16, hkk, hb17]
          refine GCall_of (Roll_pc Y _ d b16 (by first | exact hd | exact sv_get hlt | exact get_svx hlt | exact get_extx hd) 5 (by omega)) ?_   -- t103
          simp only [go_sem, ldS_at hd, stX_at hd, ldS_sv hlt, stX_sv hlt, sv_ext hlt, sv_ext_sv hlt, hx0, hb1, hsteps, hb2, hn, hb3, hm1, hb7, hgg, hb10, hx2, hb11, hsz, hb12, hx3, hb13, haa, hb14, hstay, hb15, hfst, hb16, hkk, hb17]
          refine hR _ _ (kq23 _ _ ?_); clear hR R; try clear kq23 kz23
          try simp only [go_sem, ldS_at hd, stX_at hd, ldS_sv hlt, stX_sv hlt, sv_ext hlt, sv_ext_sv hlt, hx0, hb1, hsteps, hb2, hn, hb3, hm1, hb7, hgg, hb10, hx2, hb11, hsz, hb12, hx3, hb13, haa, hb14, hstay, hb15, hfst, hb16, hkk, hb17]
          refine W_block ?_
          refine W_weak (Weak.roomSV (j := 2) (off := 6) (es := 1) rfl rfl (by simp)) ?_
          simp only [go_sem, ldS_at hd, stX_at hd, ldS_sv hlt, stX_sv hlt, sv_ext hlt, sv_ext_sv hlt, hx0, hb1, hsteps, hb2, hn, hb3, hm1, hb7, hgg, hb10, hx2, hb11, hsz, hb12, hx3, hb13, haa, hb14, hstay, hb15, hfst, hb16, hkk, hb17]
          refine W_loopT (α := Nat × Int × (List Int) × Int) (fun ⟨k3, at', acp, bp⟩ => [(16, I at'), (17, I k3)]) (fun ⟨k3, at', acp, bp⟩ => (σ.setVar d [.int .u64 bp]).ext [some [.isl [] .exact, .isl [] .exact, .isl [] .exact, I 0], some [.isl (acc.map I) (.tok σ.rooms.length acc.length 1), .isl (acs.map stPV) (.tok (σ.rooms.length + 1) acs.length 2), .isl (acg.map grPV) (.tok (σ.rooms.length + 2) acg.length 7), I steps], some [I sz.1, I sz.2, I aa.1, I aa.2, I stay, I fst, .isl (acp.map I) (.tok (σ.rooms.length + 3) acp.length 1)]] [acc.length, acs.length, acg.length, acp.length]) (fun ⟨k3, at', acp, bp⟩ => acp.length + k3 ≤ 100 ∧ gres = pathD acs ⟨sz.1, sz.2, aa.1, aa.2, stay, fst, []⟩ (if 0 < acs.length then k3 else 0) at' acp bp) (fun ⟨k3, at', acp, bp⟩ => k3) ((kk.toNat, fst, [], b17)) (by simp only [go_sem, hkt]) (by first | rfl | (simp only [go_sem]; done) | (simp only [go_sem]; rfl)) (⟨by (try dsimp only); simp; omega, hgr.symm⟩) ?_
          rintro ⟨k3, at', acp, bp⟩ ⟨hal4, hg3⟩
          refine W_seq fun kz24 kq24 => ?_
          refine W_seq fun kz25 kq25 => ?_
          refine W_regionJ [0, 8, 9, 10, 14, 15, 16, 17, 111] [(111, .bool (decide (0 < (k3 : Int)) && decide (0 < (acs.length : Int))))] ?_ fun R hR => ?_   -- r18
          · refine kq25 _ _ ?_
            simp only [go_sem, ldS_at hd, stX_at hd, ldS_sv hlt, stX_sv hlt, sv_ext hlt, sv_ext_sv hlt, hx0, hb1, hsteps, hb2, hn, hb3, hm1, hb7, hgg, hb10, hx2, hb11, hsz, hb12, hx3, hb13, haa, hb14, hstay, hb15, hfst, hb16, hkk, hb17]
            refine W_cond rfl (fun c4 => ?_) (fun c4 => ?_)
            · -- c4 true
              try simp only [nrm] at c4
              simp only [Bool.and_eq_true, decide_eq_true_eq] at c4
              obtain ⟨k3, rfl⟩ : ∃ j, k3 = j + 1 := ⟨k3 - 1, by omega⟩
              have hap : 0 < acs.length := by omega
              rw [if_pos hap] at hg3
              obtain ⟨s0, hs0⟩ : ∃ zz, (roll acs.length bp).1 = zz := ⟨_, rfl⟩
              obtain ⟨b18, hb18⟩ : ∃ zz, (roll acs.length bp).2 = zz := ⟨_, rfl⟩
              have ds0 := roll_bd acs.length bp
              simp only [hs0] at ds0
              obtain ⟨s, hs⟩ : ∃ s, acs[s0.toNat]? = some s := ⟨acs[s0.toNat]'(by omega), by simp⟩
              have hs00 : 0 ≤ s0 := by omega
              simp only [pathD, dbind, hs0, hb18, hs, Option.getD_some] at hg3
              refine W_skip (kq24 _ _ ?_)
              refine W_seq fun kz26 kq26 => ?_
              refine W_block ?_
              refine W_seq fun kz27 kq27 => ?_
              refine W_region [0, 8, 9, 10, 14, 15, 16, 17, 18] fun R hR => ?_   -- r20
              simp only [go_sem, ldS_at hd, stX_at hd, ldS_sv hlt, stX_sv hlt, sv_ext hlt, sv_ext_sv hlt, hx0, hb1, hsteps, hb2, hn, hb3, hm1, hb7, hgg, hb10, hx2, hb11, hsz, hb12, hx3, hb13, haa, hb14, hstay, hb15, hfst, hb16, hkk, hb17, hs0, hb18, hs, hs00]
              refine GCall_of (Roll_pc Y _ d bp (by first | exact hd | exact sv_get hlt | exact get_svx hlt | exact get_extx hd) acs.length (by omega)) ?_   -- t118
              simp only [go_sem, ldS_at hd, stX_at hd, ldS_sv hlt, stX_sv hlt, sv_ext hlt, sv_ext_sv hlt, hx0, hb1, hsteps, hb2, hn, hb3, hm1, hb7, hgg, hb10, hx2, hb11, hsz, hb12, hx3, hb13, haa, hb14, hstay, hb15, hfst, hb16, hkk, hb17, hs0, hb18, hs, hs00]
              refine hR _ _ (kq27 _ _ ?_); clear hR R; try clear kq27 kz27
              try simp only [go_sem, ldS_at hd, stX_at hd, ldS_sv hlt, stX_sv hlt, sv_ext hlt, sv_ext_sv hlt, hx0, hb1, hsteps, hb2, hn, hb3, hm1, hb7, hgg, hb10, hx2, hb11, hsz, hb12, hx3, hb13, haa, hb14, hstay, hb15, hfst, hb16, hkk, hb17, hs0, hb18, hs, hs00]
              refine W_seq fun kz28 kq28 => ?_
              refine W_region [0, 8, 9, 10, 14, 15, 16, 17, 18, 19] fun R hR => ?_   -- r21
              simp only [go_sem, ldS_at hd, stX_at hd, ldS_sv hlt, stX_sv hlt, sv_ext hlt, sv_ext_sv hlt, hx0, hb1, hsteps, hb2, hn, hb3, hm1, hb7, hgg, hb10, hx2, hb11, hsz, hb12, hx3, hb13, haa, hb14, hstay, hb15, hfst, hb16, hkk, hb17, hs0, hb18, hs, hs00]
              refine GCall_of (rother_pc Y _ s at') ?_   -- t125
              simp only [go_sem, ldS_at hd, stX_at hd, ldS_sv hlt, stX_sv hlt, sv_ext hlt, sv_ext_sv hlt, hx0, hb1, hsteps, hb2, hn, hb3, hm1, hb7, hgg, hb10, hx2, hb11, hsz, hb12, hx3, hb13, haa, hb14, hstay, hb15, hfst, hb16, hkk, hb17, hs0, hb18, hs, hs00]
              refine hR _ _ (kq28 _ _ ?_); clear hR R; try clear kq28 kz28
              try simp only [go_sem, ldS_at hd, stX_at hd, ldS_sv hlt, stX_sv hlt, sv_ext hlt, sv_ext_sv hlt, hx0, hb1, hsteps, hb2, hn, hb3, hm1, hb7, hgg, hb10, hx2, hb11, hsz, hb12, hx3, hb13, haa, hb14, hstay, hb15, hfst, hb16, hkk, hb17, hs0, hb18, hs, hs00]
              refine W_seq fun kz29 kq29 => ?_
              refine W_region [0, 8, 9, 10, 14, 15, 16, 17, 18, 19, 127] fun R hR => ?_   -- r22
              simp only [go_sem, ldS_at hd, stX_at hd, ldS_sv hlt, stX_sv hlt, sv_ext hlt, sv_ext_sv hlt, hx0, hb1, hsteps, hb2, hn, hb3, hm1, hb7, hgg, hb10, hx2, hb11, hsz, hb12, hx3, hb13, haa, hb14, hstay, hb15, hfst, hb16, hkk, hb17, hs0, hb18, hs, hs00]
              refine hR _ _ (kq29 _ _ ?_); clear hR R; try clear kq29 kz29
              try simp only [go_sem, ldS_at hd, stX_at hd, ldS_sv hlt, stX_sv hlt, sv_ext hlt, sv_ext_sv hlt, hx0, hb1, hsteps, hb2, hn, hb3, hm1, hb7, hgg, hb10, hx2, hb11, hsz, hb12, hx3, hb13, haa, hb14, hstay, hb15, hfst, hb16, hkk, hb17, hs0, hb18, hs, hs00]
              refine W_cond rfl (fun c5 => ?_) (fun c5 => ?_)
              · -- c5 true
                try simp only [nrm] at c5
                refine W_region [0, 8, 9, 10, 14, 15, 16, 17] fun R hR => ?_   -- r23
                simp only [go_sem, ldS_at hd, stX_at hd, ldS_sv hlt, stX_sv hlt, sv_ext hlt, sv_ext_sv hlt, hx0, hb1, hsteps, hb2, hn, hb3, hm1, hb7, hgg, hb10, hx2, hb11, hsz, hb12, hx3, hb13, haa, hb14, hstay, hb15, hfst, hb16, hkk, hb17, hs0, hb18, hs, hs00]
                simp (disch := first | omega | (simp only [go_sem] <;> omega)) only [wrapI, wrapU, appX_exact, appX_tok]
                try simp only [go_sem, ldS_at hd, stX_at hd, ldS_sv hlt, stX_sv hlt, sv_ext hlt, sv_ext_sv hlt, hx0, hb1, hsteps, hb2, hn, hb3, hm1, hb7, hgg, hb10, hx2, hb11, hsz, hb12, hx3, hb13, haa, hb14, hstay, hb15, hfst, hb16, hkk, hb17, hs0, hb18, hs, hs00]
                refine hR _ _ (kq26 _ _ ?_); clear hR R; try clear kq26 kz26
                try simp only [go_sem, ldS_at hd, stX_at hd, ldS_sv hlt, stX_sv hlt, sv_ext hlt, sv_ext_sv hlt, hx0, hb1, hsteps, hb2, hn, hb3, hm1, hb7, hgg, hb10, hx2, hb11, hsz, hb12, hx3, hb13, haa, hb14, hstay, hb15, hfst, hb16, hkk, hb17, hs0, hb18, hs, hs00]
                refine W_region [0, 8, 9, 10, 14, 15, 16, 17] fun R hR => ?_   -- r19
                simp only [go_sem, ldS_at hd, stX_at hd, ldS_sv hlt, stX_sv hlt, sv_ext hlt, sv_ext_sv hlt, hx0, hb1, hsteps, hb2, hn, hb3, hm1, hb7, hgg, hb10, hx2, hb11, hsz, hb12, hx3, hb13, haa, hb14, hstay, hb15, hfst, hb16, hkk, hb17, hs0, hb18, hs, hs00]
                try simp (disch := omega) only [wrapI, wrapU]
                refine hR _ _ ?_; clear hR R
                try simp only [go_sem, ldS_at hd, stX_at hd, ldS_sv hlt, stX_sv hlt, sv_ext hlt, sv_ext_sv hlt, hx0, hb1, hsteps, hb2, hn, hb3, hm1, hb7, hgg, hb10, hx2, hb11, hsz, hb12, hx3, hb13, haa, hb14, hstay, hb15, hfst, hb16, hkk, hb17, hs0, hb18, hs, hs00]
                refine ⟨(k3, other s at', acp ++ [s0], b18), ?_, by (try simp only []); omega, ?_⟩
                · first | exact Weak.refl | exact Weak.eq (by first | rfl | (simp only [go_sem]; done) | (simp only [go_sem]; rfl) | (simp [go_sem]; done) | (simp [go_sem]; omega)) (by first | rfl | (simp only [go_sem]; done) | (simp [go_sem]; done))
                · try dsimp only
                  refine ⟨by (try simp); omega, ?_⟩
                  rw [if_pos hap, hg3]; first | rw [if_pos c5] | rw [if_neg c5]
              · -- c5 false
                try simp only [nrm] at c5
                refine W_skip (kq26 _ _ ?_)
                refine W_region [0, 8, 9, 10, 14, 15, 16, 17] fun R hR => ?_   -- r19
                simp only [go_sem, ldS_at hd, stX_at hd, ldS_sv hlt, stX_sv hlt, sv_ext hlt, sv_ext_sv hlt, hx0, hb1, hsteps, hb2, hn, hb3, hm1, hb7, hgg, hb10, hx2, hb11, hsz, hb12, hx3, hb13, haa, hb14, hstay, hb15, hfst, hb16, hkk, hb17, hs0, hb18, hs, hs00]
                try simp (disch := omega) only [wrapI, wrapU]
                refine hR _ _ ?_; clear hR R
                try simp only [go_sem, ldS_at hd, stX_at hd, ldS_sv hlt, stX_sv hlt, sv_ext hlt, sv_ext_sv hlt, hx0, hb1, hsteps, hb2, hn, hb3, hm1, hb7, hgg, hb10, hx2, hb11, hsz, hb12, hx3, hb13, haa, hb14, hstay, hb15, hfst, hb16, hkk, hb17, hs0, hb18, hs, hs00]
                refine ⟨(k3, at', acp, b18), ?_, by (try simp only []); omega, ?_⟩
                · first | exact Weak.refl | exact Weak.eq (by first | rfl | (simp only [go_sem]; done) | (simp only [go_sem]; rfl) | (simp [go_sem]; done) | (simp [go_sem]; omega)) (by first | rfl | (simp only [go_sem]; done) | (simp [go_sem]; done))
                · try dsimp only
                  refine ⟨by (try simp); omega, ?_⟩
                  rw [if_pos hap, hg3]; first | rw [if_pos c5] | rw [if_neg c5]
            · -- c4 false
              try simp only [nrm] at c4
              simp only [Bool.and_eq_false_iff, decide_eq_false_iff_not] at c4
              have hz : (if 0 < acs.length then k3 else 0) = 0 := by split <;> omega
              rw [hz] at hg3
              simp only [pathD, dret] at hg3
              refine W_exit ?_
              simp only [go_sem, ldS_at hd, stX_at hd, ldS_sv hlt, stX_sv hlt, sv_ext hlt, sv_ext_sv hlt, hx0, hb1, hsteps, hb2, hn, hb3, hm1, hb7, hgg, hb10, hx2, hb11, hsz, hb12, hx3, hb13, haa, hb14, hstay, hb15, hfst, hb16, hkk, hb17]
              refine kq22 _ _ ?_
              refine W_weak (Weak.roSV (j := 2) (off := 6) rfl rfl) ?_
              simp only [go_sem]
              refine W_region [0, 8, 9, 10, 14] fun R hR => ?_   -- r24
              simp only [go_sem, ldS_at hd, stX_at hd, ldS_sv hlt, stX_sv hlt, sv_ext hlt, sv_ext_sv hlt, hx0, hb1, hsteps, hb2, hn, hb3, hm1, hb7, hgg, hb10, hx2, hb11, hsz, hb12, hx3, hb13, haa, hb14, hstay, hb15, hfst, hb16, hkk, hb17]
              simp (disch := first | omega | (simp only [go_sem] <;> omega)) only [wrapI, wrapU, appX_exact, appX_tok]
              try simp only [go_sem, ldS_at hd, stX_at hd, ldS_sv hlt, stX_sv hlt, sv_ext hlt, sv_ext_sv hlt, hx0, hb1, hsteps, hb2, hn, hb3, hm1, hb7, hgg, hb10, hx2, hb11, hsz, hb12, hx3, hb13, haa, hb14, hstay, hb15, hfst, hb16, hkk, hb17]
              refine hR _ _ (kq19 _ _ ?_); clear hR R; try clear kq19 kz19
              try simp only [go_sem, ldS_at hd, stX_at hd, ldS_sv hlt, stX_sv hlt, sv_ext hlt, sv_ext_sv hlt, hx0, hb1, hsteps, hb2, hn, hb3, hm1, hb7, hgg, hb10, hx2, hb11, hsz, hb12, hx3, hb13, haa, hb14, hstay, hb15, hfst, hb16, hkk, hb17]
              refine W_region [0, 8, 9, 10, 14] fun R hR => ?_   -- r14
              simp only [go_sem, ldS_at hd, stX_at hd, ldS_sv hlt, stX_sv hlt, sv_ext hlt, sv_ext_sv hlt, hx0, hb1, hsteps, hb2, hn, hb3, hm1, hb7, hgg, hb10, hx2, hb11, hsz, hb12, hx3, hb13, haa, hb14, hstay, hb15, hfst, hb16, hkk, hb17]
              try simp (disch := omega) only [wrapI, wrapU]
              refine hR _ _ ?_; clear hR R
              try simp only [go_sem, ldS_at hd, stX_at hd, ldS_sv hlt, stX_sv hlt, sv_ext hlt, sv_ext_sv hlt, hx0, hb1, hsteps, hb2, hn, hb3, hm1, hb7, hgg, hb10, hx2, hb11, hsz, hb12, hx3, hb13, haa, hb14, hstay, hb15, hfst, hb16, hkk, hb17]
              refine ⟨(k2, acg ++ [gres.1], bp), ?_, by (try simp only []); omega, ?_⟩
              · refine Weak.trans (Weak.cutSV 2 3 (by omega) (by omega) hcl (by simp only [go_sem]) (by simp only [go_sem] <;> omega) (by simp only [go_sem] <;> omega)) ?_
                simp only [go_sem]
                rw [hg3]
                exact Weak.eq (by first | rfl | (simp only [go_sem]; done) | (simp [go_sem]; done) | (simp [go_sem]; omega)) (by first | rfl | (simp only [go_sem]; done) | (simp [go_sem]; done))
              · try dsimp only
                refine ⟨by simp; omega, ?_⟩
                rw [hinv, hg3]
          · simp only [go_sem, ldS_at hd, stX_at hd, ldS_sv hlt, stX_sv hlt, sv_ext hlt, sv_ext_sv hlt, hx0, hb1, hsteps, hb2, hn, hb3, hm1, hb7, hgg, hb10, hx2, hb11, hsz, hb12, hx3, hb13, haa, hb14, hstay, hb15, hfst, hb16, hkk, hb17]
            refine GWant_split (fun g1 => ?_) (fun g1 => ?_)
            · try simp only [Bool.not_eq_true', Bool.not_eq_false'] at g1
              have n1 := g1; try simp only [nrm] at n1
              simp only [go_sem, ldS_at hd, stX_at hd, ldS_sv hlt, stX_sv hlt, sv_ext hlt, sv_ext_sv hlt, hx0, hb1, hsteps, hb2, hn, hb3, hm1, hb7, hgg, hb10, hx2, hb11, hsz, hb12, hx3, hb13, haa, hb14, hstay, hb15, hfst, hb16, hkk, hb17, g1]
              refine hR _ ?_
              try simp only [go_sem, ldS_at hd, stX_at hd, ldS_sv hlt, stX_sv hlt, sv_ext hlt, sv_ext_sv hlt, hx0, hb1, hsteps, hb2, hn, hb3, hm1, hb7, hgg, hb10, hx2, hb11, hsz, hb12, hx3, hb13, haa, hb14, hstay, hb15, hfst, hb16, hkk, hb17]
              all_goals
                first | rfl | (simp [*]; done) | (simp [*]; omega)
            · try simp only [Bool.not_eq_true', Bool.not_eq_false'] at g1
              have n1 := g1; try simp only [nrm] at n1
              simp only [go_sem, ldS_at hd, stX_at hd, ldS_sv hlt, stX_sv hlt, sv_ext hlt, sv_ext_sv hlt, hx0, hb1, hsteps, hb2, hn, hb3, hm1, hb7, hgg, hb10, hx2, hb11, hsz, hb12, hx3, hb13, haa, hb14, hstay, hb15, hfst, hb16, hkk, hb17, g1]
              refine hR _ ?_
              try simp only [go_sem, ldS_at hd, stX_at hd, ldS_sv hlt, stX_sv hlt, sv_ext hlt, sv_ext_sv hlt, hx0, hb1, hsteps, hb2, hn, hb3, hm1, hb7, hgg, hb10, hx2, hb11, hsz, hb12, hx3, hb13, haa, hb14, hstay, hb15, hfst, hb16, hkk, hb17]
              all_goals
                first | rfl | (simp [*]; done) | (simp [*]; omega)
        · -- c3 false
          try simp only [nrm] at c3
          obtain rfl : k2 = 0 := by omega
          simp only [townC, dret] at hinv
          refine W_exit ?_
          simp only [go_sem, ldS_at hd, stX_at hd, ldS_sv hlt, stX_sv hlt, sv_ext hlt, sv_ext_sv hlt, hx0, hb1, hsteps, hb2, hn, hb3, hm1, hb7, hgg, hb10]
          refine kq15 _ _ ?_
          refine W_seq fun kz30 kq30 => ?_
          refine W_region [8] fun R hR => ?_   -- r25
          simp only [go_sem, ldS_at hd, stX_at hd, ldS_sv hlt, stX_sv hlt, sv_ext hlt, sv_ext_sv hlt, hx0, hb1, hsteps, hb2, hn, hb3, hm1, hb7, hgg, hb10]
          refine hR _ _ (kq30 _ _ ?_); clear hR R; try clear kq30 kz30
          try simp only [go_sem, ldS_at hd, stX_at hd, ldS_sv hlt, stX_sv hlt, sv_ext hlt, sv_ext_sv hlt, hx0, hb1, hsteps, hb2, hn, hb3, hm1, hb7, hgg, hb10]
          refine W_ret ?_
          simp only [go_sem, ldS_at hd, stX_at hd, ldS_sv hlt, stX_sv hlt, sv_ext hlt, sv_ext_sv hlt, hx0, hb1, hsteps, hb2, hn, hb3, hm1, hb7, hgg, hb10]
          refine ⟨.inr (by trivial), ?_⟩
          rw [hinv]; refine Fin_set hcl (by simp only [go_sem]) (by show resPV Try.prog _ _ [.cell 8 26] = some _; simp only [resPV, go_sem]; rfl) (Wk.ro (by simp only [go_sem]) ?_)
          try simp only [go_sem]
          all_goals
            simp only [go_sem]
    · simp only [go_sem, ldS_at hd, stX_at hd, ldS_sv hlt, stX_sv hlt, sv_ext hlt, sv_ext_sv hlt, hx0, hb1, hsteps, hb2, hn, hb3, hm1, hb7]
      refine GWant_split (fun g2 => ?_) (fun g2 => ?_)
      · try simp only [Bool.not_eq_true', Bool.not_eq_false'] at g2
        have n2 := g2; try simp only [nrm] at n2
        simp only [go_sem, ldS_at hd, stX_at hd, ldS_sv hlt, stX_sv hlt, sv_ext hlt, sv_ext_sv hlt, hx0, hb1, hsteps, hb2, hn, hb3, hm1, hb7, g2]
        refine hR _ ?_
        try simp only [go_sem, ldS_at hd, stX_at hd, ldS_sv hlt, stX_sv hlt, sv_ext hlt, sv_ext_sv hlt, hx0, hb1, hsteps, hb2, hn, hb3, hm1, hb7]
        all_goals
          first | rfl | (simp [*]; done) | (simp [*]; omega)
      · try simp only [Bool.not_eq_true', Bool.not_eq_false'] at g2
        have n2 := g2; try simp only [nrm] at n2
        simp only [go_sem, ldS_at hd, stX_at hd, ldS_sv hlt, stX_sv hlt, sv_ext hlt, sv_ext_sv hlt, hx0, hb1, hsteps, hb2, hn, hb3, hm1, hb7, g2]
        refine hR _ ?_
        try simp only [go_sem, ldS_at hd, stX_at hd, ldS_sv hlt, stX_sv hlt, sv_ext hlt, sv_ext_sv hlt, hx0, hb1, hsteps, hb2, hn, hb3, hm1, hb7]
        all_goals
          first | rfl | (simp [*]; done) | (simp [*]; omega)
end Go.Proofs.Ytnpamcpoaklgeaa
namespace Go.Proofs.Ytnpamcpoaklgeaa
open Go Go.RowKit
structure GroupV (n : Nat) (sts : List (Int × Int)) (g : Group) : Prop where
  s1 : 0 ≤ g.slo
  s2 : g.slo ≤ g.shi
  s3 : g.shi ≤ 1000000
  a1 : 0 ≤ g.alo
  a2 : g.alo ≤ g.ahi
  a3 : g.ahi ≤ 96
  t1 : 1 ≤ g.stay
  t2 : g.stay ≤ 96
  f1 : 0 ≤ g.first
  f2 : g.first < n
  p1 : g.path.length ≤ 4
  p2 : chkPath sts g.path g.first = 0
def StreetV (n : Nat) (s : Int × Int) : Prop := 0 ≤ s.1 ∧ s.1 < n ∧ 0 ≤ s.2 ∧ s.2 < n ∧ s.1 ≠ s.2
structure TownV (sq st gr : Nat) (t : Town) : Prop where
  r0 : 1 ≤ t.rooms.length
  r1 : t.rooms.length ≤ sq
  r2 : ∀ r, r ∈ t.rooms → 0 ≤ r ∧ r ≤ 500
  s1 : t.streets.length ≤ st
  s2 : ∀ s, s ∈ t.streets → StreetV t.rooms.length s
  w1 : 0 ≤ t.steps
  w2 : t.steps ≤ 96
  g1 : t.groups.length ≤ gr
  g2 : ∀ g, g ∈ t.groups → GroupV t.rooms.length t.streets g
theorem chkStreets_ok {n : Nat} : ∀ {l : List (Int × Int)}, (∀ s, s ∈ l → StreetV n s) → chkStreets n l = 0 := by
  intro l
  induction l with
  | nil => intro _; rfl
  | cons s r ih =>
    intro h
    obtain ⟨h1, h2, h3, h4, h5⟩ := h s (by simp)
    simp only [chkStreets]
    rw [if_neg (by simp [inR]; omega), if_neg h5]
    exact ih fun x hx => h x (by simp [hx])
theorem chkGroup_ok {t : Town} {g : Group} (h : GroupV t.rooms.length t.streets g) : chkGroup t g = 0 := by
  have e1 : chkSpan g.slo g.shi 1000000 = 0 := by
    have := h.s1; have := h.s2; have := h.s3
    unfold chkSpan; rw [if_neg (by simp [inR]; omega), if_neg (by omega)]
  have e2 : chkSpan g.alo g.ahi 96 = 0 := by
    have := h.a1; have := h.a2; have := h.a3
    unfold chkSpan; rw [if_neg (by simp [inR]; omega), if_neg (by omega)]
  have := h.t1; have := h.t2; have := h.f1; have := h.f2; have := h.p1
  unfold chkGroup
  rw [if_neg (by simp [e1]), if_neg (by simp [e2]), if_neg (by simp [inR]; omega), if_neg (by simp [inR]; omega), if_neg (by omega)]
  exact h.p2
theorem chkGroups_ok {t : Town} : ∀ {l : List Group}, (∀ g, g ∈ l → GroupV t.rooms.length t.streets g) → chkGroups t l = 0 := by
  intro l
  induction l with
  | nil => intro _; rfl
  | cons g r ih =>
    intro h
    simp only [chkGroups]
    rw [if_neg (by rw [chkGroup_ok (h g (by simp))]; simp)]
    exact ih fun x hx => h x (by simp [hx])
theorem TownV.ok {sq st gr : Nat} {t : Town} (h : TownV sq st gr t) (h1 : sq ≤ 12) (h2 : st ≤ 12) (h3 : gr ≤ 12) : chkTown t = 0 := by
  have := h.r0; have := h.r1; have := h.s1; have := h.w1; have := h.w2; have := h.g1
  have e : allIn 0 1000000 t.rooms = true := by
    unfold allIn; rw [List.all_eq_true]; intro r hr
    have := h.r2 r hr
    simp [inR]; omega
  unfold chkTown
  rw [if_neg (by omega), if_neg (by omega), if_neg (by simp [e]), if_neg (by omega), if_neg (by rw [chkStreets_ok h.s2]; simp), if_neg (by simp [inR]; omega), if_neg (by omega)]
  exact chkGroups_ok h.g2
def pathEnd (sts : List (Int × Int)) : List Int → Int → Int
  | [], a => a
  | s :: r, a => pathEnd sts r (other ((sts[s.toNat]?).getD (0, 0)) a)
theorem chkPath_snoc {sts : List (Int × Int)} {s : Int} (h1 : 0 ≤ s) (h2 : s < sts.length) : ∀ (p : List Int) (a : Int), chkPath sts p a = 0 → 0 ≤ other ((sts[s.toNat]?).getD (0, 0)) (pathEnd sts p a) →
    chkPath sts (p ++ [s]) a = 0 ∧ pathEnd sts (p ++ [s]) a = other ((sts[s.toNat]?).getD (0, 0)) (pathEnd sts p a) := by
  intro p
  induction p with
  | nil =>
    intro a _ ho
    obtain ⟨x, hx⟩ : ∃ x, sts[s.toNat]? = some x := ⟨_, List.getElem?_eq_getElem (by omega)⟩
    simp only [hx, Option.getD_some, pathEnd] at ho
    simp only [List.nil_append, chkPath, pathEnd, hx, Option.getD_some]
    rw [if_neg (by simp [inR]; omega), if_neg (by omega)]
    exact ⟨by simp [chkPath], trivial⟩
  | cons y r ih =>
    intro a hc ho
    simp only [List.cons_append, chkPath, pathEnd] at hc ho ⊢
    by_cases hy : (!inR y 0 ((sts.length : Int) - 1)) = true
    · rw [if_pos hy] at hc; cases hc
    · rw [if_neg hy] at hc ⊢
      cases hs : sts[y.toNat]? with
      | none => rw [hs] at hc; cases hc
      | some z =>
        rw [hs] at hc ho
        simp only [Option.getD_some] at hc ho ⊢
        by_cases hz : other z a < 0
        · rw [if_pos hz] at hc; cases hc
        · rw [if_neg hz] at hc ⊢
          exact ih _ hc ho
theorem pathD_ok {n : Nat} {sts : List (Int × Int)} {g : Group} (hg : GroupV n sts { g with path := [] }) : ∀ (k : Nat) (a : Int) (acc : List Int), (k ≠ 0 → 0 < sts.length) → acc.length + k ≤ 4 → chkPath sts acc g.first = 0 → pathEnd sts acc g.first = a →
    Holds (pathD sts g k a acc) (GroupV n sts) := by
  intro k
  induction k with
  | zero =>
    intro a acc _ hl hc _
    exact .ret ⟨hg.s1, hg.s2, hg.s3, hg.a1, hg.a2, hg.a3, hg.t1, hg.t2, hg.f1, hg.f2, by simpa using hl, hc⟩
  | succ k ih =>
    intro a acc h0 hl hc he
    have hs := h0 (by omega)
    refine (roll_bd sts.length).bind fun s hsb => ?_
    split
    · rename_i ho
      obtain ⟨q1, q2⟩ := chkPath_snoc (s := s) (by omega) (by omega) acc g.first hc (by rw [he]; exact ho)
      exact ih _ _ (fun _ => hs) (by simp; omega) q1 (by rw [q2, he])
    · exact ih _ _ (fun _ => hs) (by omega) hc he
theorem groupD_ok {n : Nat} (hn : 1 ≤ n) (sts : List (Int × Int)) : Holds (groupD n sts) (GroupV n sts) := by
  unfold groupD
  refine (anyOf_mem [30, 90] (by simp)).bind fun x hx => ?_
  have hx := mem2 hx
  refine (spanOf_bd 0 x (by omega)).bind fun sz hsz => ?_
  refine (anyOf_mem [0, 4] (by simp)).bind fun y hy => ?_
  have hy := mem2 hy
  refine (spanOf_bd 0 y (by omega)).bind fun a ha => ?_
  refine (mid_bd 1 4 (by omega)).bind fun st hst => ?_
  refine (roll_bd n).bind fun f hf => ?_
  refine (roll_bd 5).bind fun k hk => ?_
  refine pathD_ok ⟨by (try dsimp only); omega, by (try dsimp only); omega, by (try dsimp only); omega, by (try dsimp only); omega, by (try dsimp only); omega, by (try dsimp only); omega, by (try dsimp only); omega, by (try dsimp only); omega, by (try dsimp only); omega, by (try dsimp only); omega, by simp, rfl⟩ _ _ _ (fun h => ?_) ?_ rfl rfl
  · split at h
    · assumption
    · exact absurd rfl h
  · split <;> simp <;> omega
theorem fit_street {a m n : Int} (ha : 0 ≤ a) (ha2 : a < n) (hm : 1 ≤ m) (hm2 : m ≤ n - 1) : 0 ≤ fit (a + m) n ∧ fit (a + m) n < n ∧ a ≠ fit (a + m) n := by
  have hb := fit_bd (a + m) n
  have e : fit (a + m) n = (a + m) % n := by
    unfold fit
    rw [if_neg (by omega), Int.tmod_eq_emod_of_nonneg (by omega), if_neg (by have := Int.emod_nonneg (a + m) (show n ≠ 0 by omega); omega)]
  refine ⟨by omega, by omega, ?_⟩
  rw [e]
  by_cases h : a + m < n
  · rw [Int.emod_eq_of_lt (by omega) h]; omega
  · have : (a + m) % n = a + m - n := by
      rw [← Int.sub_emod_right, Int.emod_eq_of_lt (by omega) (by omega)]
    omega
theorem townC_ok {sq st gr : Nat} {steps : Int} {rooms : List Int} {sts : List (Int × Int)} (hr0 : 1 ≤ rooms.length) (hr1 : rooms.length ≤ sq) (hr2 : ∀ r, r ∈ rooms → 0 ≤ r ∧ r ≤ 500) (hs1 : sts.length ≤ st) (hs2 : ∀ s, s ∈ sts → StreetV rooms.length s)
    (hw1 : 0 ≤ steps) (hw2 : steps ≤ 96) : ∀ (k : Nat) (acc : List Group), acc.length + k ≤ gr → (∀ g, g ∈ acc → GroupV rooms.length sts g) → Holds (townC steps rooms.length rooms sts k acc) (TownV sq st gr) := by
  intro k
  induction k with
  | zero => intro acc hl hg; exact .ret ⟨hr0, hr1, hr2, hs1, hs2, hw1, hw2, by simpa using hl, hg⟩
  | succ k ih =>
    intro acc hl hg
    refine (groupD_ok hr0 sts).bind fun g hgv => ih _ (by simp; omega) fun x hx => ?_
    rcases List.mem_append.1 hx with hx | hx
    · exact hg x hx
    · simp only [List.mem_singleton] at hx; subst hx; exact hgv
theorem townB_ok {sq st gr : Nat} {steps : Int} {rooms : List Int} (hr0 : 1 ≤ rooms.length) (hr1 : rooms.length ≤ sq) (hr2 : ∀ r, r ∈ rooms → 0 ≤ r ∧ r ≤ 500) (hw1 : 0 ≤ steps) (hw2 : steps ≤ 96) : ∀ (k : Nat) (acc : List (Int × Int)), (k ≠ 0 → 1 < rooms.length) → acc.length + k ≤ st →
    (∀ s, s ∈ acc → StreetV rooms.length s) → Holds (townB gr steps rooms.length rooms k acc) (TownV sq st gr) := by
  intro k
  induction k with
  | zero =>
    intro acc _ hl hs
    refine (roll_bd (gr + 1)).bind fun g hg => ?_
    exact townC_ok hr0 hr1 hr2 (by simpa using hl) hs hw1 hw2 _ [] (by simp; omega) (fun g hg => by cases hg)
  | succ k ih =>
    intro acc h1 hl hs
    have hn := h1 (by omega)
    refine (roll_bd rooms.length).bind fun a ha => (mid_bd 1 ((rooms.length : Int) - 1) (by omega)).bind fun m hm => ih _ (fun _ => hn) (by simp; omega) fun x hx => ?_
    rcases List.mem_append.1 hx with hx | hx
    · exact hs x hx
    · simp only [List.mem_singleton] at hx; subst hx
      have := fit_street (a := a) (m := m) (n := rooms.length) (by omega) (by omega) (by omega) (by omega)
      exact ⟨by (try dsimp only); omega, by (try dsimp only); omega, this.1, this.2.1, this.2.2⟩
theorem townA_ok {sq st gr : Nat} {steps : Int} {n : Nat} (hn : 1 ≤ n) (hn2 : n ≤ sq) (hw1 : 0 ≤ steps) (hw2 : steps ≤ 96) : ∀ (k : Nat) (acc : List Int), acc.length + k = n → (∀ r, r ∈ acc → 0 ≤ r ∧ r ≤ 500) → Holds (townA st gr steps n k acc) (TownV sq st gr) := by
  intro k
  induction k with
  | zero =>
    intro acc hl hr
    have hl : acc.length = n := by simpa using hl
    subst hl
    refine (roll_bd (st + 1)).bind fun m hm => ?_
    refine townB_ok hn hn2 hr hw1 hw2 _ [] (fun h => ?_) ?_ (fun s hs => by cases hs)
    · split at h
      · omega
      · exact absurd rfl h
    · split <;> simp <;> omega
  | succ k ih =>
    intro acc hl hr
    refine (roll_bd 60).bind fun x hx => (roll_bd 150).bind fun y hy => (anyOf_mem [x, y, 500] (by simp)).bind fun z hz => ih _ (by simp; omega) fun w hw => ?_
    have hz := mem3 hz
    rcases List.mem_append.1 hw with hw | hw
    · exact hr w hw
    · simp only [List.mem_singleton] at hw; subst hw; omega
theorem townD_ok {sq st gr : Nat} (h : 1 ≤ sq) : Holds (townD sq st gr) (TownV sq st gr) := by
  unfold townD
  refine (anyOf_mem [4, 11] (by simp)).bind fun x hx => (roll_bd x).bind fun steps hst => (mid_bd 1 sq (by omega)).bind fun n hn => ?_
  have hx := mem2 hx
  obtain ⟨m, rfl⟩ : ∃ m : Nat, n = (m : Int) := ⟨n.toNat, by omega⟩
  rw [Int.toNat_natCast]
  exact townA_ok (by omega) (by omega) (by omega) (by omega) m [] (by simp) (fun r hr => by cases hr)
end Go.Proofs.Ytnpamcpoaklgeaa
namespace Go.Proofs.Ytnpamcpoaklgeaa
open Go Go.RowKit
set_option maxRecDepth 100000
def cityA (t : Town) (brk : Int) : Nat → List Int → D City
  | 0, acc => dret ⟨t, brk, acc⟩
  | k + 1, acc => dbind (roll 721) fun x => dbind (mid 300 600) fun y => dbind (anyOf [0, x, y]) fun z => cityA t brk k (acc ++ [z])
def cityD : D City := dbind (townD 4 5 1) fun t => dbind (roll 10) fun x => dbind (roll 60) fun y => dbind (anyOf [0, 1, x, y]) fun brk => cityA t brk t.rooms.length []
theorem dbind_ap {α β : Type} (m : D α) (f : α → D β) (b : Int) : dbind m f b = f (m b).1 (m b).2 := Eq.trans rfl rfl
theorem townD451 (b : Int) : TownV 4 5 1 (townD 4 5 1 b).1 := townD_ok (sq := 4) (st := 5) (gr := 1) (by omega) b
theorem mem4 {a b c d r : Int} (h : r ∈ [a, b, c, d]) : r = a ∨ r = b ∨ r = c ∨ r = d := by simpa using h
set_option maxHeartbeats 4000000 in
theorem CityOf_pc (Y : YEnv) (σ : Sg) (d : Nat) (b : Int) (hd : σ.store[d]? = some (some [.int .u64 b])) :
    PC Try.prog Y 19 [.ptr d 0] σ (ctPV (cityD b).1) (σ.setVar d [.int .u64 (cityD b).2]) := by
  refine PC_of_W Try.func19 rfl (by kernel_rfl) Try.ntmps19 (by simp) fun hcl hca => ?_
  have hlt := lt_of_get hd
  obtain ⟨res, hres⟩ : ∃ r, cityD b = r := ⟨_, rfl⟩
  rw [hres]
  obtain ⟨t, ht⟩ : ∃ zz, (townD 4 5 1 b).1 = zz := ⟨_, rfl⟩
  obtain ⟨b1, hb1⟩ : ∃ zz, (townD 4 5 1 b).2 = zz := ⟨_, rfl⟩
  have dt := townD451 b
  rw [ht] at dt
  obtain ⟨x1, hx1⟩ : ∃ zz, (roll 10 b1).1 = zz := ⟨_, rfl⟩
  obtain ⟨b2, hb2⟩ : ∃ zz, (roll 10 b1).2 = zz := ⟨_, rfl⟩
  have dx1 := roll_bd 10 b1
  simp only [hx1] at dx1
  obtain ⟨x2, hx2⟩ : ∃ zz, (roll 60 b2).1 = zz := ⟨_, rfl⟩
  obtain ⟨b3, hb3⟩ : ∃ zz, (roll 60 b2).2 = zz := ⟨_, rfl⟩
  have dx2 := roll_bd 60 b2
  simp only [hx2] at dx2
  obtain ⟨brk, hbrk⟩ : ∃ zz, (anyOf [0, 1, x1, x2] b3).1 = zz := ⟨_, rfl⟩
  obtain ⟨b4, hb4⟩ : ∃ zz, (anyOf [0, 1, x1, x2] b3).2 = zz := ⟨_, rfl⟩
  have dbrk := anyOf_mem [0, 1, x1, x2] (by simp) b3
  simp only [hbrk] at dbrk
  have d4 := mem4 dbrk
  have hr1 := dt.r1
  unfold cityD at hres
  simp only [dbind_ap, ht, hb1, hx1, hb2, hx2, hb3, hbrk, hb4] at hres
  refine W_seq fun kz1 kq1 => ?_
  refine W_region [0, 2] fun R hR => ?_   -- r0
  simp only [go_sem, ldS_at hd, stX_at hd, ldS_sv hlt, stX_sv hlt, sv_ext hlt, sv_ext_sv hlt, ht, hb1, hx1, hb2, hx2, hb3, hbrk, hb4]
  refine hR _ _ (kq1 _ _ ?_); clear hR R; try clear kq1 kz1
  try simp only [go_sem, ldS_at hd, stX_at hd, ldS_sv hlt, stX_sv hlt, sv_ext hlt, sv_ext_sv hlt, ht, hb1, hx1, hb2, hx2, hb3, hbrk, hb4]
  refine W_seq fun kz2 kq2 => ?_
  refine W_region [0, 2, 3] fun R hR => ?_   -- r1
  simp only [go_sem, ldS_at hd, stX_at hd, ldS_sv hlt, stX_sv hlt, sv_ext hlt, sv_ext_sv hlt, ht, hb1, hx1, hb2, hx2, hb3, hbrk, hb4]
  refine GCall_of (TownOf_pc Y _ d b (by first | exact hd | exact sv_get hlt | exact get_svx hlt | exact get_extx hd) 4 5 1 (by omega) (by omega) (by omega) (by omega) (by omega) (by omega)) ?_   -- t6
  simp only [go_sem, ldS_at hd, stX_at hd, ldS_sv hlt, stX_sv hlt, sv_ext hlt, sv_ext_sv hlt, ht, hb1, hx1, hb2, hx2, hb3, hbrk, hb4]
  refine GCall_of (Roll_pc Y _ d b1 (by first | exact hd | exact sv_get hlt | exact get_svx hlt | exact get_extx hd) 10 (by omega)) ?_   -- t9
  simp only [go_sem, ldS_at hd, stX_at hd, ldS_sv hlt, stX_sv hlt, sv_ext hlt, sv_ext_sv hlt, ht, hb1, hx1, hb2, hx2, hb3, hbrk, hb4]
  refine GCall_of (Roll_pc Y _ d b2 (by first | exact hd | exact sv_get hlt | exact get_svx hlt | exact get_extx hd) 60 (by omega)) ?_   -- t11
  simp only [go_sem, ldS_at hd, stX_at hd, ldS_sv hlt, stX_sv hlt, sv_ext hlt, sv_ext_sv hlt, ht, hb1, hx1, hb2, hx2, hb3, hbrk, hb4]
  refine GCall_of (Any_pc Y _ d b3 (by first | exact hd | exact sv_get hlt | exact get_svx hlt | exact get_extx hd) [0, 1, x1, x2] (by simp) (by simp)) ?_   -- t13
  simp only [go_sem, ldS_at hd, stX_at hd, ldS_sv hlt, stX_sv hlt, sv_ext hlt, sv_ext_sv hlt, ht, hb1, hx1, hb2, hx2, hb3, hbrk, hb4]
  refine hR _ _ (kq2 _ _ ?_); clear hR R; try clear kq2 kz2
  try simp only [go_sem, ldS_at hd, stX_at hd, ldS_sv hlt, stX_sv hlt, sv_ext hlt, sv_ext_sv hlt, ht, hb1, hx1, hb2, hx2, hb3, hbrk, hb4]
  refine W_seq fun kz3 kq3 => ?_
  refine W_seq fun kz4 kq4 => ?_
  refine W_region [0, 2, 3, 4] fun R hR => ?_   -- r2
  simp only [go_sem, ldS_at hd, stX_at hd, ldS_sv hlt, stX_sv hlt, sv_ext hlt, sv_ext_sv hlt, ht, hb1, hx1, hb2, hx2, hb3, hbrk, hb4]
  refine hR _ _ (kq4 _ _ ?_); clear hR R; try clear kq4 kz4
  try simp only [go_sem, ldS_at hd, stX_at hd, ldS_sv hlt, stX_sv hlt, sv_ext hlt, sv_ext_sv hlt, ht, hb1, hx1, hb2, hx2, hb3, hbrk, hb4]
  refine W_block ?_
  refine W_weak (Weak.roomSV (j := 1) (off := 5) (es := 1) rfl rfl (by simp)) ?_
  simp only [go_sem, ldS_at hd, stX_at hd, ldS_sv hlt, stX_sv hlt, sv_ext hlt, sv_ext_sv hlt, ht, hb1, hx1, hb2, hx2, hb3, hbrk, hb4]
  refine W_loopT (α := Nat × (List Int) × Int) (fun ⟨i, acc, b⟩ => [(4, I i)]) (fun ⟨i, acc, b⟩ => (σ.setVar d [.int .u64 b]).ext [some [.isl [] .exact, .isl [] .exact, .isl [] .exact, I 0, I 0, .isl [] .exact], some [ints t.rooms, .isl (t.streets.map stPV) .ro, .isl (t.groups.map grPV) .ro, I t.steps, I brk, .isl (acc.map I) (.tok σ.rooms.length acc.length 1)]] [acc.length]) (fun ⟨i, acc, b⟩ => i ≤ t.rooms.length ∧ acc.length = i ∧ res = cityA t brk (t.rooms.length - i) acc b) (fun ⟨i, acc, b⟩ => t.rooms.length - i) ((0, [], b4)) rfl (by first | rfl | (simp only [go_sem]; done) | (simp only [go_sem]; rfl)) (⟨Nat.zero_le _, rfl, hres.symm⟩) ?_
  rintro ⟨i, acc, b⟩ ⟨hi, hal, hinv⟩
  refine W_seq fun kz5 kq5 => ?_
  refine W_seq fun kz6 kq6 => ?_
  refine W_region [0, 2, 3, 4, 20] fun R hR => ?_   -- r3
  simp only [go_sem, ldS_at hd, stX_at hd, ldS_sv hlt, stX_sv hlt, sv_ext hlt, sv_ext_sv hlt, ht, hb1, hx1, hb2, hx2, hb3, hbrk, hb4]
  refine hR _ _ (kq6 _ _ ?_); clear hR R; try clear kq6 kz6
  try simp only [go_sem, ldS_at hd, stX_at hd, ldS_sv hlt, stX_sv hlt, sv_ext hlt, sv_ext_sv hlt, ht, hb1, hx1, hb2, hx2, hb3, hbrk, hb4]
  refine W_cond rfl (fun c1 => ?_) (fun c1 => ?_)
  · -- c1 true
    try simp only [nrm] at c1
    rw [show t.rooms.length - i = (t.rooms.length - (i + 1)) + 1 by omega] at hinv
    obtain ⟨x, hx⟩ : ∃ zz, (roll 721 b).1 = zz := ⟨_, rfl⟩
    obtain ⟨b5, hb5⟩ : ∃ zz, (roll 721 b).2 = zz := ⟨_, rfl⟩
    have dx := roll_bd 721 b
    simp only [hx] at dx
    obtain ⟨y, hy⟩ : ∃ zz, (mid 300 600 b5).1 = zz := ⟨_, rfl⟩
    obtain ⟨b6, hb6⟩ : ∃ zz, (mid 300 600 b5).2 = zz := ⟨_, rfl⟩
    have dy := mid_bd 300 600 (by omega) b5
    simp only [hy] at dy
    obtain ⟨z, hz⟩ : ∃ zz, (anyOf [0, x, y] b6).1 = zz := ⟨_, rfl⟩
    obtain ⟨b7, hb7⟩ : ∃ zz, (anyOf [0, x, y] b6).2 = zz := ⟨_, rfl⟩
    have dz := anyOf_mem [0, x, y] (by simp) b6
    simp only [hz] at dz
    simp only [cityA, dbind, hx, hb5, hy, hb6, hz, hb7] at hinv
    refine W_skip (kq5 _ _ ?_)
    refine W_seq fun kz7 kq7 => ?_
    refine W_block ?_
    refine W_draw [0, 2, 3, 4] [0, 1, 2, 3, 4, 5, 6, 7, 8, 9, 10, 11, 12] [(0, 6), (0, 8), (0, 10), (1, 6), (1, 8), (1, 10), (2, 6), (2, 8), (5, 4)] [[], [0], [], [], [3], [], [3, 4, 5], [3, 4, 5, 6], [2, 3, 4, 5, 6, 7], [2, 3, 4, 5, 6, 7, 8], [0, 1, 2, 3, 4, 5, 6, 7, 8, 9], [0, 1, 2, 3, 4, 5, 6, 7, 8, 9, 10], [0, 1, 2, 3, 4, 5, 6, 7, 8, 9, 10, 11]] mixed (by kernel_rfl) fun R hR => ?_   -- r5
    simp only [go_sem, ldS_at hd, stX_at hd, ldS_sv hlt, stX_sv hlt, sv_ext hlt, sv_ext_sv hlt, ht, hb1, hx1, hb2, hx2, hb3, hbrk, hb4, hx, hb5, hy, hb6, hz, hb7]
    refine GCall_of (Roll_pc Y _ d b (by first | exact hd | exact sv_get hlt | exact get_svx hlt | exact get_extx hd) 721 (by omega)) ?_   -- t27
    simp only [go_sem, ldS_at hd, stX_at hd, ldS_sv hlt, stX_sv hlt, sv_ext hlt, sv_ext_sv hlt, ht, hb1, hx1, hb2, hx2, hb3, hbrk, hb4, hx, hb5, hy, hb6, hz, hb7]
    refine GCall_of (Mid_pc Y _ d b5 (by first | exact hd | exact sv_get hlt | exact get_svx hlt | exact get_extx hd) 300 600 (by omega) (by omega) (by omega) (by omega)) ?_   -- t29
    simp only [go_sem, ldS_at hd, stX_at hd, ldS_sv hlt, stX_sv hlt, sv_ext hlt, sv_ext_sv hlt, ht, hb1, hx1, hb2, hx2, hb3, hbrk, hb4, hx, hb5, hy, hb6, hz, hb7]
    refine GCall_of (Any_pc Y _ d b6 (by first | exact hd | exact sv_get hlt | exact get_svx hlt | exact get_extx hd) [0, x, y] (by simp) (by simp)) ?_   -- t31
    simp only [go_sem, ldS_at hd, stX_at hd, ldS_sv hlt, stX_sv hlt, sv_ext hlt, sv_ext_sv hlt, ht, hb1, hx1, hb2, hx2, hb3, hbrk, hb4, hx, hb5, hy, hb6, hz, hb7]
    simp (disch := first | omega | (simp only [go_sem] <;> omega)) only [wrapI, wrapU, appX_exact, appX_tok]
    try simp only [go_sem, ldS_at hd, stX_at hd, ldS_sv hlt, stX_sv hlt, sv_ext hlt, sv_ext_sv hlt, ht, hb1, hx1, hb2, hx2, hb3, hbrk, hb4, hx, hb5, hy, hb6, hz, hb7]
    try refine And.intro (by repeat' (first | refine And.intro ?_ ?_ | exact GOr_right (fun _ => by simp only [go_sem, ldS_at hd, stX_at hd, ldS_sv hlt, stX_sv hlt, sv_ext hlt, sv_ext_sv hlt, ht, hb1, hx1, hb2, hx2, hb3, hbrk, hb4, hx, hb5, hy, hb6, hz, hb7]))) ?_
    refine hR _ _ (kq7 _ _ ?_); clear hR R; try clear kq7 kz7
    try simp only [go_sem, ldS_at hd, stX_at hd, ldS_sv hlt, stX_sv hlt, sv_ext hlt, sv_ext_sv hlt, ht, hb1, hx1, hb2, hx2, hb3, hbrk, hb4, hx, hb5, hy, hb6, hz, hb7]
    refine W_region [0, 2, 3, 4] fun R hR => ?_   -- r4
    simp only [go_sem, ldS_at hd, stX_at hd, ldS_sv hlt, stX_sv hlt, sv_ext hlt, sv_ext_sv hlt, ht, hb1, hx1, hb2, hx2, hb3, hbrk, hb4, hx, hb5, hy, hb6, hz, hb7]
    try simp (disch := omega) only [wrapI, wrapU]
    refine hR _ _ ?_; clear hR R
    try simp only [go_sem, ldS_at hd, stX_at hd, ldS_sv hlt, stX_sv hlt, sv_ext hlt, sv_ext_sv hlt, ht, hb1, hx1, hb2, hx2, hb3, hbrk, hb4, hx, hb5, hy, hb6, hz, hb7]
    refine ⟨(i + 1, acc ++ [z], b7), ?_, by (try simp only []); omega, ?_⟩
    · first | exact Weak.refl | exact Weak.eq (by first | rfl | (simp only [go_sem]; done) | (simp only [go_sem]; rfl) | (simp [go_sem]; done) | (simp [go_sem]; omega)) (by first | rfl | (simp only [go_sem]; done) | (simp [go_sem]; done))
    · try dsimp only
      exact ⟨by omega, by simp; omega, hinv⟩
  · -- c1 false
    try simp only [nrm] at c1
    rw [show t.rooms.length - i = 0 by omega] at hinv
    simp only [cityA, dret] at hinv
    refine W_exit ?_
    simp only [go_sem, ldS_at hd, stX_at hd, ldS_sv hlt, stX_sv hlt, sv_ext hlt, sv_ext_sv hlt, ht, hb1, hx1, hb2, hx2, hb3, hbrk, hb4]
    refine kq3 _ _ ?_
    refine W_seq fun kz8 kq8 => ?_
    refine W_region [2] fun R hR => ?_   -- r6
    simp only [go_sem, ldS_at hd, stX_at hd, ldS_sv hlt, stX_sv hlt, sv_ext hlt, sv_ext_sv hlt, ht, hb1, hx1, hb2, hx2, hb3, hbrk, hb4]
    refine hR _ _ (kq8 _ _ ?_); clear hR R; try clear kq8 kz8
    try simp only [go_sem, ldS_at hd, stX_at hd, ldS_sv hlt, stX_sv hlt, sv_ext hlt, sv_ext_sv hlt, ht, hb1, hx1, hb2, hx2, hb3, hbrk, hb4]
    refine W_ret ?_
    simp only [go_sem, ldS_at hd, stX_at hd, ldS_sv hlt, stX_sv hlt, sv_ext hlt, sv_ext_sv hlt, ht, hb1, hx1, hb2, hx2, hb3, hbrk, hb4]
    refine ⟨.inr (by trivial), ?_⟩
    rw [hinv]; refine Fin_set hcl (by simp only [go_sem]) (by show resPV Try.prog _ _ [.cell 2 28] = some _; simp only [resPV, go_sem]; rfl) (Wk.ro (by simp only [go_sem]) ?_)
    try simp only [go_sem]
    all_goals
      simp only [go_sem]
end Go.Proofs.Ytnpamcpoaklgeaa
namespace Go.Proofs.Ytnpamcpoaklgeaa
open Go Go.RowKit
set_option maxRecDepth 100000
def reqPV (c : City) (w : List Band) (b : Band) : PV := .agg [ints c.town.rooms, .isl (c.town.streets.map stPV) .ro, .isl (c.town.groups.map grPV) .ro, I c.town.steps, I c.brk, ints c.sleep, bands w, I b.first, ints b.path, I b.lo, I b.hi, I b.stay, I b.people]
attribute [go_sem] reqPV
def clashOf (c : City) (b : Band) : List Band → Int
  | [] => 0
  | x :: r => if crossVal c b x ≠ 2 then 10 else clashOf c b r
def overL (c : City) (b : Band) : List Int → Int
  | [] => 0
  | s :: r => if (c.town.rooms[s.toNat]?).getD 0 < b.people then 13 else overL c b r
def overOf (c : City) (b : Band) : Int := overL c b (sqs c b).1
def awkL (c : City) (l : List Band) : Nat → List Int → Int
  | _, [] => 0
  | k, owed :: r => if (sleepOf (loudAt c l k)).2 < owed then 11 else awkL c l (k + 1) r
def awkOf (c : City) (l : List Band) : Int := awkL c l 0 c.sleep
def firstOf : List Int → Int
  | [] => 0
  | e :: r => if e ≠ 0 then e else firstOf r
def reqOf (c : City) (w : List Band) (b : Band) : Int := firstOf [clashOf c b w, overOf c b, awkOf c (w ++ [b])]
/-- A function that is called with a value first. -/
def fnPV (q : PV) (p : Nat × Int) : PV := .func (.func p.1) [q] []
attribute [go_sem] fnPV
set_option maxHeartbeats 2000000 in
theorem first_pc (Y : YEnv) (σ : Sg) (l : List (Nat × Int)) (q : PV) (hl : l.length < 2 ^ 50) (h : ∀ p, p ∈ l → ∀ (σ : Sg), PC Try.prog Y p.1 [q] σ (I p.2) σ) :
    PC Try.prog Y 107 [.isl (l.map (fnPV q)) .exact] σ (I (firstOf (l.map (·.2)))) (σ) := by
  refine PC_of_W Try.func107 rfl (by kernel_rfl) Try.ntmps107 (by simp) fun hcl hca => ?_
  obtain ⟨res, hres⟩ : ∃ r, firstOf (l.map (·.2)) = r := ⟨_, rfl⟩
  rw [hres]
  refine W_seq fun kz1 kq1 => ?_
  refine W_region [0] fun R hR => ?_   -- r0
  simp only [go_sem]
  refine hR _ _ (kq1 _ _ ?_); clear hR R; try clear kq1 kz1
  try simp only [go_sem]
  refine W_seq fun kz2 kq2 => ?_
  refine W_seq fun kz3 kq3 => ?_
  refine W_region [6, 7, 8] fun R hR => ?_   -- r1
  simp only [go_sem]
  refine hR _ _ (kq3 _ _ ?_); clear hR R; try clear kq3 kz3
  try simp only [go_sem]
  refine W_block ?_
  refine W_loopS (α := Nat) (fun (i : Nat) => [(8, I i)]) (fun (i : Nat) => i ≤ l.length ∧ res = firstOf ((l.drop i).map (·.2))) (fun (i : Nat) => l.length - i) (0) rfl (⟨Nat.zero_le _, hres.symm⟩) ?_
  rintro i ⟨hi, hinv⟩
  refine W_seq fun kz4 kq4 => ?_
  refine W_region [6, 7, 8, 9] fun R hR => ?_   -- r2
  simp only [go_sem]
  refine hR _ _ (kq4 _ _ ?_); clear hR R; try clear kq4 kz4
  try simp only [go_sem]
  refine W_seq fun kz5 kq5 => ?_
  refine W_cond rfl (fun c1 => ?_) (fun c1 => ?_)
  · -- c1 true
    try simp only [nrm] at c1
    have hi' : i < l.length := by first | assumption | omega
    obtain ⟨x, hx⟩ : ∃ x, l[i]? = some x := ⟨l[i], by simp [hi']⟩
    have hdrop : l.drop i = x :: l.drop (i + 1) := by
      rw [List.drop_eq_getElem_cons hi']; congr 1; exact (List.getElem?_eq_some_iff.1 hx).2
    rw [hdrop] at hinv
    simp only [List.map_cons, firstOf] at hinv
    refine W_skip (kq5 _ _ ?_)
    refine W_seq fun kz6 kq6 => ?_
    refine W_block ?_
    refine W_seq fun kz7 kq7 => ?_
    refine W_region [4, 6, 7, 8] fun R hR => ?_   -- r3
    simp only [go_sem, hx]
    refine hR _ _ (kq7 _ _ ?_); clear hR R; try clear kq7 kz7
    try simp only [go_sem, hx]
    refine W_seq fun kz8 kq8 => ?_
    refine W_region [5, 6, 7, 8] fun R hR => ?_   -- r4
    simp only [go_sem, hx]
    refine GCall_of (h x (List.mem_of_getElem? hx) _) ?_   -- t13
    simp only [go_sem, hx]
    refine hR _ _ (kq8 _ _ ?_); clear hR R; try clear kq8 kz8
    try simp only [go_sem, hx]
    refine W_seq fun kz9 kq9 => ?_
    refine W_region [5, 6, 7, 8, 15] fun R hR => ?_   -- r5
    simp only [go_sem, hx]
    refine hR _ _ (kq9 _ _ ?_); clear hR R; try clear kq9 kz9
    try simp only [go_sem, hx]
    refine W_cond rfl (fun c2 => ?_) (fun c2 => ?_)
    · -- c2 true
      try simp only [nrm] at c2
      refine W_seq fun kz10 kq10 => ?_
      refine W_region [2] fun R hR => ?_   -- r6
      simp only [go_sem, hx]
      refine hR _ _ (kq10 _ _ ?_); clear hR R; try clear kq10 kz10
      try simp only [go_sem, hx]
      refine W_ret ?_
      simp only [go_sem, hx]
      refine ⟨.inr (by trivial), ?_⟩
      first | refine Fin_same hcl rfl (Wk_eq ?_ (by simp only [go_sem])) | refine Fin_self hcl rfl (Wk_eq ?_ (by simp only [go_sem]))
      try simp only [go_sem]
      all_goals
        rw [hinv, if_pos c2]
    · -- c2 false
      try simp only [nrm] at c2
      refine W_skip (kq6 _ _ ?_)
      refine W_region [6, 7, 8] fun R hR => ?_   -- r7
      simp only [go_sem, hx]
      try simp (disch := omega) only [wrapI, wrapU]
      refine hR _ _ ?_; clear hR R
      try simp only [go_sem, hx]
      refine ⟨i + 1, ?_, by (try simp only []); omega, ?_⟩
      · first | exact Weak.refl | exact Weak.eq (by first | rfl | (simp only [go_sem]; done) | (simp only [go_sem]; rfl) | (simp [go_sem]; done) | (simp [go_sem]; omega)) (by first | rfl | (simp only [go_sem]; done) | (simp [go_sem]; done))
      · try dsimp only
        exact ⟨hi', by rw [hinv, if_neg (by simp [c2])]⟩
  · -- c1 false
    try simp only [nrm] at c1
    have hdrop : l.drop i = [] := List.drop_eq_nil_of_le (by omega)
    rw [hdrop] at hinv
    simp only [List.map_nil, firstOf] at hinv
    refine W_exit ?_
    simp only [go_sem]
    refine kq2 _ _ ?_
    refine W_seq fun kz11 kq11 => ?_
    refine W_region [2] fun R hR => ?_   -- r8
    simp only [go_sem]
    refine hR _ _ (kq11 _ _ ?_); clear hR R; try clear kq11 kz11
    try simp only [go_sem]
    refine W_ret ?_
    simp only [go_sem]
    refine ⟨.inr (by trivial), ?_⟩
    first | refine Fin_same hcl rfl (Wk_eq ?_ (by simp only [go_sem])) | refine Fin_self hcl rfl (Wk_eq ?_ (by simp only [go_sem]))
    try simp only [go_sem]
    all_goals
      rw [hinv]
set_option maxHeartbeats 2000000 in
theorem clash_pc (Y : YEnv) (σ : Sg) (ct : City) (w : List Band) (b : Band) (hc : ct.Ok) (hl : BandsOk w) (hw : w.length ≤ 1000) (hk : chkCity ct = 0) (hv : ∀ x, x ∈ w → chkBand ct x = 0) (hb : b.path.length < 2 ^ 50) (hbv : chkBand ct b = 0) :
    PC Try.prog Y 108 [reqPV ct w b] σ (I (clashOf ct b w)) (σ) := by
  refine PC_of_W Try.func108 rfl (by kernel_rfl) Try.ntmps108 (by simp) fun hcl hca => ?_
  have hl2 := hl.2
  obtain ⟨res, hres⟩ : ∃ r, clashOf ct b w = r := ⟨_, rfl⟩
  rw [hres]
  refine W_seq fun kz1 kq1 => ?_
  refine W_region [1] fun R hR => ?_   -- r0
  simp only [go_sem]
  refine hR _ _ (kq1 _ _ ?_); clear hR R; try clear kq1 kz1
  try simp only [go_sem]
  refine W_seq fun kz2 kq2 => ?_
  refine W_seq fun kz3 kq3 => ?_
  refine W_region [1, 6, 7, 8] fun R hR => ?_   -- r1
  simp only [go_sem]
  refine hR _ _ (kq3 _ _ ?_); clear hR R; try clear kq3 kz3
  try simp only [go_sem]
  refine W_block ?_
  refine W_loopS (α := Nat) (fun (i : Nat) => [(8, I i)]) (fun (i : Nat) => i ≤ w.length ∧ res = clashOf ct b (w.drop i)) (fun (i : Nat) => w.length - i) (0) rfl (⟨Nat.zero_le _, hres.symm⟩) ?_
  rintro i ⟨hi, hinv⟩
  refine W_seq fun kz4 kq4 => ?_
  refine W_region [1, 6, 7, 8, 9] fun R hR => ?_   -- r2
  simp only [go_sem]
  refine hR _ _ (kq4 _ _ ?_); clear hR R; try clear kq4 kz4
  try simp only [go_sem]
  refine W_seq fun kz5 kq5 => ?_
  refine W_cond rfl (fun c1 => ?_) (fun c1 => ?_)
  · -- c1 true
    try simp only [nrm] at c1
    have hi' : i < w.length := by first | assumption | omega
    obtain ⟨x, hx⟩ : ∃ x, w[i]? = some x := ⟨w[i], by simp [hi']⟩
    have hdrop : w.drop i = x :: w.drop (i + 1) := by
      rw [List.drop_eq_getElem_cons hi']; congr 1; exact (List.getElem?_eq_some_iff.1 hx).2
    have hxw := List.mem_of_getElem? hx
    rw [hdrop] at hinv
    simp only [clashOf] at hinv
    refine W_skip (kq5 _ _ ?_)
    refine W_seq fun kz6 kq6 => ?_
    refine W_block ?_
    refine W_seq fun kz7 kq7 => ?_
    refine W_region [1, 4, 6, 7, 8] fun R hR => ?_   -- r3
    simp only [go_sem, hx]
    refine hR _ _ (kq7 _ _ ?_); clear hR R; try clear kq7 kz7
    try simp only [go_sem, hx]
    refine W_seq fun kz8 kq8 => ?_
    refine W_region [1, 6, 7, 8, 18] fun R hR => ?_   -- r4
    simp only [go_sem, hx]
    refine GCall_of (bcross_pc Y _ ct b x hc hb (hl2 x hxw) (chkBand_ok hbv).2 (chkBand_ok (hv x hxw)).2) ?_   -- t17
    simp only [go_sem, hx]
    refine hR _ _ (kq8 _ _ ?_); clear hR R; try clear kq8 kz8
    try simp only [go_sem, hx]
    refine W_cond rfl (fun c2 => ?_) (fun c2 => ?_)
    · -- c2 true
      try simp only [nrm] at c2
      refine W_seq fun kz9 kq9 => ?_
      refine W_region [2] fun R hR => ?_   -- r5
      simp only [go_sem, hx]
      refine hR _ _ (kq9 _ _ ?_); clear hR R; try clear kq9 kz9
      try simp only [go_sem, hx]
      refine W_ret ?_
      simp only [go_sem, hx]
      refine ⟨.inr (by trivial), ?_⟩
      first | refine Fin_same hcl rfl (Wk_eq ?_ (by simp only [go_sem])) | refine Fin_self hcl rfl (Wk_eq ?_ (by simp only [go_sem]))
      try simp only [go_sem]
      all_goals
        rw [hinv, if_pos c2]
    · -- c2 false
      try simp only [nrm] at c2
      refine W_skip (kq6 _ _ ?_)
      refine W_region [1, 6, 7, 8] fun R hR => ?_   -- r6
      simp only [go_sem, hx]
      try simp (disch := omega) only [wrapI, wrapU]
      refine hR _ _ ?_; clear hR R
      try simp only [go_sem, hx]
      refine ⟨i + 1, ?_, by (try simp only []); omega, ?_⟩
      · refine Weak.trans (Weak.cutX 1 0 (by omega) (by omega) hcl (by simp only [go_sem] <;> omega) (by simp only [go_sem] <;> omega)) ?_
        simp only [go_sem]
        exact Weak.eq (by first | rfl | (simp only [go_sem]; done) | (simp only [go_sem]; rfl) | (simp [go_sem]; done) | (simp [go_sem]; omega)) (by first | rfl | (simp only [go_sem]; done) | (simp [go_sem]; done))
      · try dsimp only
        exact ⟨hi', by rw [hinv, if_neg (by simp [c2])]⟩
  · -- c1 false
    try simp only [nrm] at c1
    have hdrop : w.drop i = [] := List.drop_eq_nil_of_le (by omega)
    rw [hdrop] at hinv
    simp only [clashOf] at hinv
    refine W_exit ?_
    simp only [go_sem]
    refine kq2 _ _ ?_
    refine W_seq fun kz10 kq10 => ?_
    refine W_region [2] fun R hR => ?_   -- r7
    simp only [go_sem]
    refine hR _ _ (kq10 _ _ ?_); clear hR R; try clear kq10 kz10
    try simp only [go_sem]
    refine W_ret ?_
    simp only [go_sem]
    refine ⟨.inr (by trivial), ?_⟩
    first | refine Fin_same hcl rfl (Wk_eq ?_ (by simp only [go_sem])) | refine Fin_self hcl rfl (Wk_eq ?_ (by simp only [go_sem]))
    try simp only [go_sem]
    all_goals
      rw [hinv]
set_option maxHeartbeats 2000000 in
theorem over_pc (Y : YEnv) (σ : Sg) (ct : City) (w : List Band) (b : Band) (hc : ct.Ok) (hl : BandsOk w) (hw : w.length ≤ 1000) (hk : chkCity ct = 0) (hv : ∀ x, x ∈ w → chkBand ct x = 0) (hb : b.path.length < 2 ^ 50) (hbv : chkBand ct b = 0) (hrg : ∀ s, s ∈ (sqs ct b).1 → 0 ≤ s ∧ s < ct.town.rooms.length) :
    PC Try.prog Y 109 [reqPV ct w b] σ (I (overOf ct b)) (σ) := by
  refine PC_of_W Try.func109 rfl (by kernel_rfl) Try.ntmps109 (by simp) fun hcl hca => ?_
  obtain ⟨l, hl3⟩ : ∃ l, l = (sqs ct b).1 := ⟨_, rfl⟩
  have hln : l.length ≤ 13 := by rw [hl3]; exact (sqs_len ct b).1
  rw [← hl3] at hrg
  rw [show overOf ct b = overL ct b l by rw [hl3]; rfl]
  obtain ⟨res, hres⟩ : ∃ r, overL ct b l = r := ⟨_, rfl⟩
  rw [hres]
  refine W_seq fun kz1 kq1 => ?_
  refine W_region [1] fun R hR => ?_   -- r0
  simp only [go_sem]
  refine hR _ _ (kq1 _ _ ?_); clear hR R; try clear kq1 kz1
  try simp only [go_sem]
  refine W_seq fun kz2 kq2 => ?_
  refine W_region [1, 3] fun R hR => ?_   -- r1
  simp only [go_sem]
  refine GCall_of (PC.val (v' := .tuple [ints l, I (sqs ct b).2]) (squares_pc Y _ ct b hc hb) (by rw [hl3]; rfl)) ?_   -- t12
  simp only [go_sem]
  refine hR _ _ (kq2 _ _ ?_); clear hR R; try clear kq2 kz2
  try simp only [go_sem]
  refine W_seq fun kz3 kq3 => ?_
  refine W_seq fun kz4 kq4 => ?_
  refine W_region [1, 15, 16, 17] fun R hR => ?_   -- r2
  simp only [go_sem]
  refine hR _ _ (kq4 _ _ ?_); clear hR R; try clear kq4 kz4
  try simp only [go_sem]
  refine W_block ?_
  refine W_loopS (α := Nat) (fun (i : Nat) => [(17, I i)]) (fun (i : Nat) => i ≤ l.length ∧ res = overL ct b (l.drop i)) (fun (i : Nat) => l.length - i) (0) rfl (⟨Nat.zero_le _, hres.symm⟩) ?_
  rintro i ⟨hi, hinv⟩
  refine W_seq fun kz5 kq5 => ?_
  refine W_region [1, 15, 16, 17, 18] fun R hR => ?_   -- r3
  simp only [go_sem]
  refine hR _ _ (kq5 _ _ ?_); clear hR R; try clear kq5 kz5
  try simp only [go_sem]
  refine W_seq fun kz6 kq6 => ?_
  refine W_cond rfl (fun c1 => ?_) (fun c1 => ?_)
  · -- c1 true
    try simp only [nrm] at c1
    have hi' : i < l.length := by first | assumption | omega
    obtain ⟨s, hx⟩ : ∃ s, l[i]? = some s := ⟨l[i], by simp [hi']⟩
    have hdrop : l.drop i = s :: l.drop (i + 1) := by
      rw [List.drop_eq_getElem_cons hi']; congr 1; exact (List.getElem?_eq_some_iff.1 hx).2
    obtain ⟨hs0, hs1⟩ := hrg s (List.mem_of_getElem? hx)
    obtain ⟨r, hr⟩ : ∃ r, ct.town.rooms[s.toNat]? = some r := ⟨_, List.getElem?_eq_getElem (by omega)⟩
    rw [hdrop] at hinv
    simp only [overL, hr, Option.getD_some] at hinv
    refine W_skip (kq6 _ _ ?_)
    refine W_seq fun kz7 kq7 => ?_
    refine W_block ?_
    refine W_seq fun kz8 kq8 => ?_
    refine W_region [1, 6, 15, 16, 17] fun R hR => ?_   -- r4
    simp only [go_sem, hx, hs0, hr]
    refine hR _ _ (kq8 _ _ ?_); clear hR R; try clear kq8 kz8
    try simp only [go_sem, hx, hs0, hr]
    refine W_seq fun kz9 kq9 => ?_
    refine W_draw [1, 15, 16, 17, 31] [0, 1, 2, 3, 4, 5, 6, 7, 8, 9, 10] [] [[], [0], [0, 1], [], [3], [3, 4], [3, 4, 5], [], [3, 4, 5, 6, 7], [3, 4, 5, 6, 7, 8], [0, 1, 2, 3, 4, 5, 6, 7, 8, 9]] mixed (by kernel_rfl) fun R hR => ?_   -- r5
    simp only [go_sem, hx, hs0, hr]
    try refine And.intro (by repeat' (first | refine And.intro ?_ ?_ | exact GOr_right (fun _ => by simp only [go_sem, hx, hs0, hr]))) ?_
    refine hR _ _ (kq9 _ _ ?_); clear hR R; try clear kq9 kz9
    try simp only [go_sem, hx, hs0, hr]
    refine W_cond rfl (fun c2 => ?_) (fun c2 => ?_)
    · -- c2 true
      try simp only [nrm] at c2
      refine W_seq fun kz10 kq10 => ?_
      refine W_region [2] fun R hR => ?_   -- r6
      simp only [go_sem, hx, hs0, hr]
      refine hR _ _ (kq10 _ _ ?_); clear hR R; try clear kq10 kz10
      try simp only [go_sem, hx, hs0, hr]
      refine W_ret ?_
      simp only [go_sem, hx, hs0, hr]
      refine ⟨.inr (by trivial), ?_⟩
      first | refine Fin_same hcl rfl (Wk_eq ?_ (by simp only [go_sem])) | refine Fin_self hcl rfl (Wk_eq ?_ (by simp only [go_sem]))
      try simp only [go_sem]
      all_goals
        rw [hinv, if_pos c2]
    · -- c2 false
      try simp only [nrm] at c2
      refine W_skip (kq7 _ _ ?_)
      refine W_region [1, 15, 16, 17] fun R hR => ?_   -- r7
      simp only [go_sem, hx, hs0, hr]
      try simp (disch := omega) only [wrapI, wrapU]
      refine hR _ _ ?_; clear hR R
      try simp only [go_sem, hx, hs0, hr]
      refine ⟨i + 1, ?_, by (try simp only []); omega, ?_⟩
      · first | exact Weak.refl | exact Weak.eq (by first | rfl | (simp only [go_sem]; done) | (simp only [go_sem]; rfl) | (simp [go_sem]; done) | (simp [go_sem]; omega)) (by first | rfl | (simp only [go_sem]; done) | (simp [go_sem]; done))
      · try dsimp only
        exact ⟨hi', by rw [hinv, if_neg c2]⟩
  · -- c1 false
    try simp only [nrm] at c1
    have hdrop : l.drop i = [] := List.drop_eq_nil_of_le (by omega)
    rw [hdrop] at hinv
    simp only [overL] at hinv
    refine W_exit ?_
    simp only [go_sem]
    refine kq3 _ _ ?_
    refine W_seq fun kz11 kq11 => ?_
    refine W_region [2] fun R hR => ?_   -- r8
    simp only [go_sem]
    refine hR _ _ (kq11 _ _ ?_); clear hR R; try clear kq11 kz11
    try simp only [go_sem]
    refine W_ret ?_
    simp only [go_sem]
    refine ⟨.inr (by trivial), ?_⟩
    first | refine Fin_same hcl rfl (Wk_eq ?_ (by simp only [go_sem])) | refine Fin_self hcl rfl (Wk_eq ?_ (by simp only [go_sem]))
    try simp only [go_sem]
    all_goals
      rw [hinv]
set_option maxHeartbeats 2000000 in
theorem CloneB_pc (Y : YEnv) (σ : Sg) (l : List Band) (hl : l.length ≤ 2 ^ 30) :
    PC Try.prog Y 81 [bands l] σ (.isl (l.map bdPV) (.tok σ.rooms.length l.length 6)) (σ.ext [] [l.length]) := by
  refine PC_of_W Try.func81 rfl (by kernel_rfl) Try.ntmps81 (by simp) fun hcl hca => ?_
  refine W_seq fun kz1 kq1 => ?_
  refine W_region [0] fun R hR => ?_   -- r0
  simp only [go_sem]
  refine hR _ _ (kq1 _ _ ?_); clear hR R; try clear kq1 kz1
  try simp only [go_sem]
  refine W_seq fun kz2 kq2 => ?_
  refine W_seq fun kz3 kq3 => ?_
  refine W_isnil [0, 4] (by decide) (by decide) rfl Try.underlying29 fun bn hbn => ?_   -- r1
  refine kq3 _ _ ?_
  try simp only [go_sem]
  refine W_cond rfl (fun c1 => ?_) (fun c1 => ?_)
  · -- c1 true
    try simp only [nrm] at c1
    refine W_seq fun kz4 kq4 => ?_
    refine W_region [2] fun R hR => ?_   -- r2
    simp only [go_sem]
    refine hR _ _ (kq4 _ _ ?_); clear hR R; try clear kq4 kz4
    try simp only [go_sem]
    refine W_weak (Weak.room (t := 2) (es := 6) rfl (by simp)) ?_
    refine W_ret ?_
    simp only [go_sem]
    refine ⟨.inr (by trivial), ?_⟩
    obtain rfl : l = [] := by simpa using hbn c1
    exact Fin_ext 0 1 hcl rfl (Wk_eq rfl (by simp only [go_sem] <;> omega)) CleanL_nil
    try simp only [go_sem]
    all_goals
      skip
  · -- c1 false
    try simp only [nrm] at c1
    refine W_skip (kq2 _ _ ?_)
    refine W_seq fun kz5 kq5 => ?_
    refine W_region [2] fun R hR => ?_   -- r3
    simp only [go_sem]
    simp (disch := first | omega | (simp only [go_sem] <;> omega)) only [wrapI, wrapU, appX_exact, appX_tok]
    try simp only [go_sem]
    refine hR _ _ (kq5 _ _ ?_); clear hR R; try clear kq5 kz5
    try simp only [go_sem]
    refine W_ret ?_
    simp only [go_sem]
    refine ⟨.inr (by trivial), ?_⟩
    exact Fin_ext 0 1 hcl rfl (Wk_eq (by simp only [go_sem]) (by simp only [go_sem] <;> omega)) CleanL_nil
    try simp only [go_sem]
    all_goals
      skip
end Go.Proofs.Ytnpamcpoaklgeaa
namespace Go.Proofs.Ytnpamcpoaklgeaa
open Go Go.RowKit
set_option maxRecDepth 100000
theorem chkStreets_inv {n : Int} : ∀ {l : List (Int × Int)}, chkStreets n l = 0 → ∀ s, s ∈ l → 0 ≤ s.1 ∧ s.1 < n ∧ 0 ≤ s.2 ∧ s.2 < n ∧ s.1 ≠ s.2 := by
  intro l
  induction l with
  | nil => intro _ s hs; cases hs
  | cons a r ih =>
    intro h s hs
    simp only [chkStreets] at h
    split at h
    · simp at h
    · rename_i h1
      split at h
      · simp at h
      · rename_i h2
        rcases List.mem_cons.1 hs with rfl | hs
        · simp [inR] at h1
          exact ⟨by omega, by omega, by omega, by omega, h2⟩
        · exact ih h s hs
theorem chkTown_streets {t : Town} (h : chkTown t = 0) : chkStreets t.rooms.length t.streets = 0 := by
  unfold chkTown at h
  split at h
  · simp at h
  · split at h
    · simp at h
    · split at h
      · simp at h
      · split at h
        · simp at h
        · split at h
          · rename_i h5; exact absurd h h5
          · rename_i h5; simpa using h5
theorem chkCity_town {c : City} (h : chkCity c = 0) : chkTown c.town = 0 := by
  unfold chkCity at h
  split at h
  · rename_i h1; exact absurd h h1
  · rename_i h1; simpa using h1
theorem walkSq_range {st : List (Int × Int)} {n : Int} (hs : ∀ s, s ∈ st → 0 ≤ s.1 ∧ s.1 < n ∧ 0 ≤ s.2 ∧ s.2 < n ∧ s.1 ≠ s.2) : ∀ (l : List Int) (a : Int) (out : List Int), (∀ x, x ∈ out → 0 ≤ x ∧ x < n) → ∀ x, x ∈ (walkSq st l a out).1 → 0 ≤ x ∧ x < n := by
  intro l
  induction l with
  | nil => intro a out ho x hx; exact ho x hx
  | cons k r ih =>
    intro a out ho x hx
    simp only [walkSq] at hx
    split at hx
    · cases hx
    · split at hx
      · cases hx
      · rename_i s hsk
        have h1 := hs s (List.mem_of_getElem? hsk)
        split at hx
        · refine ih _ _ (fun y hy => ?_) x hx
          rcases List.mem_append.1 hy with hy | hy
          · exact ho y hy
          · simp only [List.mem_singleton] at hy; subst hy; omega
        · split at hx
          · refine ih _ _ (fun y hy => ?_) x hx
            rcases List.mem_append.1 hy with hy | hy
            · exact ho y hy
            · simp only [List.mem_singleton] at hy; subst hy; omega
          · cases hx
theorem sqs_range {c : City} {b : Band} (hk : chkCity c = 0) : ∀ s, s ∈ (sqs c b).1 → 0 ≤ s ∧ s < c.town.rooms.length := by
  intro s hs
  unfold sqs at hs
  split at hs
  · cases hs
  · split at hs
    · cases hs
    · rename_i h1 _
      refine walkSq_range (chkStreets_inv (chkTown_streets (chkCity_town hk))) _ _ _ (fun x hx => ?_) s hs
      simp only [List.mem_singleton] at hx; subst hx
      simp [inR] at h1; omega
def grantL (c : City) : List Band → List Band → List Int
  | _, [] => []
  | w, b :: r => reqOf c w b :: grantL c (if reqOf c w b = 0 then w ++ [b] else w) r
def grantAns (c : City) (l : List Band) : List Int × Int := if chkAll c l ≠ 0 then ([], chkAll c l) else (grantL c [] l, 0)
set_option maxHeartbeats 2000000 in
theorem rawake_pc (Y : YEnv) (σ : Sg) (ct : City) (w : List Band) (b : Band) (hc : ct.Ok) (hl : BandsOk w) (hw : w.length ≤ 1000) (hk : chkCity ct = 0) (hv : ∀ x, x ∈ w → chkBand ct x = 0) (hb : b.path.length < 2 ^ 50) (hbv : chkBand ct b = 0) :
    PC Try.prog Y 110 [reqPV ct w b] σ (I (awkOf ct (w ++ [b]))) (σ) := by
  refine PC_of_W Try.func110 rfl (by kernel_rfl) Try.ntmps110 (by simp) fun hcl hca => ?_
  have hsl := hc.hsl
  have hl2 := hl.2
  have hall : BandsOk (w ++ [b]) := ⟨by simp; omega, fun x hx => by rcases List.mem_append.1 hx with h | h; exact hl2 x h; simp only [List.mem_singleton] at h; subst h; exact hb⟩
  have hval : ∀ x, x ∈ w ++ [b] → chkBand ct x = 0 := fun x hx => by rcases List.mem_append.1 hx with h | h; exact hv x h; simp only [List.mem_singleton] at h; subst h; exact hbv
  rw [show awkOf ct (w ++ [b]) = awkL ct (w ++ [b]) 0 ct.sleep from rfl]
  obtain ⟨res, hres⟩ : ∃ r, awkL ct (w ++ [b]) 0 ct.sleep = r := ⟨_, rfl⟩
  rw [hres]
  refine W_seq fun kz1 kq1 => ?_
  refine W_region [1] fun R hR => ?_   -- r0
  simp only [go_sem]
  refine hR _ _ (kq1 _ _ ?_); clear hR R; try clear kq1 kz1
  try simp only [go_sem]
  refine W_seq fun kz2 kq2 => ?_
  refine W_draw [1, 3] [0, 1, 2, 3, 4, 5, 6, 7] [(3, 2), (4, 2), (5, 2)] [[], [0], [0, 1], [], [3], [3, 4], [0, 1, 2, 3, 4, 5], [0, 1, 2, 3, 4, 5, 6]] mixed (by kernel_rfl) fun R hR => ?_   -- r1
  simp only [go_sem]
  refine GCall_of (CloneB_pc Y _ w (by omega)) ?_   -- t10
  simp only [go_sem]
  simp (disch := first | omega | (simp only [go_sem] <;> omega)) only [wrapI, wrapU, appX_exact, appX_tok]
  try simp only [go_sem]
  try refine And.intro (by repeat' (first | refine And.intro ?_ ?_ | exact GOr_right (fun _ => by simp only [go_sem]))) ?_
  refine hR _ _ (kq2 _ _ ?_); clear hR R; try clear kq2 kz2
  try simp only [go_sem]
  refine W_seq fun kz3 kq3 => ?_
  refine W_seq fun kz4 kq4 => ?_
  refine W_region [1, 3, 17, 18, 19] fun R hR => ?_   -- r2
  simp only [go_sem]
  refine hR _ _ (kq4 _ _ ?_); clear hR R; try clear kq4 kz4
  try simp only [go_sem]
  refine W_block ?_
  refine W_loopS (α := Nat) (fun (i : Nat) => [(19, I i)]) (fun (i : Nat) => i ≤ ct.sleep.length ∧ res = awkL ct (w ++ [b]) i (ct.sleep.drop i)) (fun (i : Nat) => ct.sleep.length - i) (0) rfl (⟨Nat.zero_le _, hres.symm⟩) ?_
  rintro i ⟨hi, hinv⟩
  refine W_seq fun kz5 kq5 => ?_
  refine W_region [1, 3, 17, 18, 19, 20] fun R hR => ?_   -- r3
  simp only [go_sem]
  refine hR _ _ (kq5 _ _ ?_); clear hR R; try clear kq5 kz5
  try simp only [go_sem]
  refine W_seq fun kz6 kq6 => ?_
  refine W_cond rfl (fun c1 => ?_) (fun c1 => ?_)
  · -- c1 true
    try simp only [nrm] at c1
    have hi' : i < ct.sleep.length := by first | assumption | omega
    obtain ⟨owed, hx⟩ : ∃ owed, ct.sleep[i]? = some owed := ⟨ct.sleep[i], by simp [hi']⟩
    have hdrop : ct.sleep.drop i = owed :: ct.sleep.drop (i + 1) := by
      rw [List.drop_eq_getElem_cons hi']; congr 1; exact (List.getElem?_eq_some_iff.1 hx).2
    rw [hdrop] at hinv
    simp only [awkL] at hinv
    refine W_skip (kq6 _ _ ?_)
    refine W_seq fun kz7 kq7 => ?_
    refine W_block ?_
    refine W_seq fun kz8 kq8 => ?_
    refine W_region [1, 3, 4, 5, 17, 18, 19] fun R hR => ?_   -- r4
    simp only [go_sem, hx]
    refine hR _ _ (kq8 _ _ ?_); clear hR R; try clear kq8 kz8
    try simp only [go_sem, hx]
    refine W_seq fun kz9 kq9 => ?_
    refine W_region [1, 3, 5, 7, 17, 18, 19] fun R hR => ?_   -- r5
    simp only [go_sem, hx]
    refine GCall_of (PC.ofRo (bsleep_pc Y _ ct (w ++ [b]) i hc hall hval) (by simp only [go_sem, bands] <;> rfl)) ?_   -- t29
    simp only [go_sem, hx]
    refine hR _ _ (kq9 _ _ ?_); clear hR R; try clear kq9 kz9
    try simp only [go_sem, hx]
    refine W_seq fun kz10 kq10 => ?_
    refine W_region [1, 3, 17, 18, 19, 34] fun R hR => ?_   -- r6
    simp only [go_sem, hx]
    refine hR _ _ (kq10 _ _ ?_); clear hR R; try clear kq10 kz10
    try simp only [go_sem, hx]
    refine W_cond rfl (fun c2 => ?_) (fun c2 => ?_)
    · -- c2 true
      try simp only [nrm] at c2
      refine W_seq fun kz11 kq11 => ?_
      refine W_region [2] fun R hR => ?_   -- r7
      simp only [go_sem, hx]
      refine hR _ _ (kq11 _ _ ?_); clear hR R; try clear kq11 kz11
      try simp only [go_sem, hx]
      refine W_ret ?_
      simp only [go_sem, hx]
      refine ⟨.inr (by trivial), ?_⟩
      first | refine Fin_same hcl rfl (Wk_eq ?_ (by simp only [go_sem])) | refine Fin_self hcl rfl (Wk_eq ?_ (by simp only [go_sem]))
      try simp only [go_sem]
      all_goals
        rw [hinv, if_pos c2]
    · -- c2 false
      try simp only [nrm] at c2
      refine W_skip (kq7 _ _ ?_)
      refine W_region [1, 3, 17, 18, 19] fun R hR => ?_   -- r8
      simp only [go_sem, hx]
      try simp (disch := omega) only [wrapI, wrapU]
      refine hR _ _ ?_; clear hR R
      try simp only [go_sem, hx]
      refine ⟨i + 1, ?_, by (try simp only []); omega, ?_⟩
      · first | exact Weak.refl | exact Weak.eq (by first | rfl | (simp only [go_sem]; done) | (simp only [go_sem]; rfl) | (simp [go_sem]; done) | (simp [go_sem]; omega)) (by first | rfl | (simp only [go_sem]; done) | (simp [go_sem]; done))
      · try dsimp only
        exact ⟨hi', by rw [hinv, if_neg c2]⟩
  · -- c1 false
    try simp only [nrm] at c1
    have hdrop : ct.sleep.drop i = [] := List.drop_eq_nil_of_le (by omega)
    rw [hdrop] at hinv
    simp only [awkL] at hinv
    refine W_exit ?_
    simp only [go_sem]
    refine kq3 _ _ ?_
    refine W_seq fun kz12 kq12 => ?_
    refine W_region [2] fun R hR => ?_   -- r9
    simp only [go_sem]
    refine hR _ _ (kq12 _ _ ?_); clear hR R; try clear kq12 kz12
    try simp only [go_sem]
    refine W_ret ?_
    simp only [go_sem]
    refine ⟨.inr (by trivial), ?_⟩
    first | refine Fin_same hcl rfl (Wk_eq ?_ (by simp only [go_sem])) | refine Fin_self hcl rfl (Wk_eq ?_ (by simp only [go_sem]))
    try simp only [go_sem]
    all_goals
      rw [hinv]
set_option maxHeartbeats 2000000 in
theorem granted_pc (Y : YEnv) (σ : Sg) (ct : City) (w : List Band) (b : Band) (hc : ct.Ok) (hl : BandsOk w) (hw : w.length ≤ 1000) (hk : chkCity ct = 0) (hv : ∀ x, x ∈ w → chkBand ct x = 0) (hb : b.path.length < 2 ^ 50) (hbv : chkBand ct b = 0) :
    PC Try.prog Y 74 [reqPV ct w b] σ (I (reqOf ct w b)) (σ) := by
  refine PC_of_W Try.func74 rfl (by kernel_rfl) Try.ntmps74 (by simp) fun hcl hca => ?_
  refine W_seq fun kz1 kq1 => ?_
  refine W_region [1] fun R hR => ?_   -- r0
  simp only [go_sem]
  refine hR _ _ (kq1 _ _ ?_); clear hR R; try clear kq1 kz1
  try simp only [go_sem]
  refine W_seq fun kz2 kq2 => ?_
  refine W_region [2] fun R hR => ?_   -- r1
  simp only [go_sem]
  refine GCall_of (first_pc Y _ [(108, clashOf ct b w), (109, overOf ct b), (110, awkOf ct (w ++ [b]))] (reqPV ct w b) (by simp) (fun p hp σ => by
      simp only [List.mem_cons, List.not_mem_nil, or_false] at hp
      rcases hp with rfl | rfl | rfl
      · exact clash_pc Y σ ct w b hc hl hw hk hv hb hbv
      · exact over_pc Y σ ct w b hc hl hw hk hv hb hbv (sqs_range hk)
      · exact rawake_pc Y σ ct w b hc hl hw hk hv hb hbv)) ?_   -- t10
  simp only [go_sem]
  refine hR _ _ (kq2 _ _ ?_); clear hR R; try clear kq2 kz2
  try simp only [go_sem]
  refine W_ret ?_
  simp only [go_sem]
  refine ⟨.inr (by trivial), ?_⟩
  first | refine Fin_same hcl rfl (Wk_eq ?_ (by simp only [go_sem])) | refine Fin_self hcl rfl (Wk_eq ?_ (by simp only [go_sem]))
  try simp only [go_sem]
  all_goals
    simp only [reqOf, List.map]
set_option maxHeartbeats 2000000 in
theorem Grant_pc (Y : YEnv) (σ : Sg) (ct : City) (l : List Band) (hc : ct.Ok) (hl : BandsOk l) :
    PC Try.prog Y 30 [ctPV ct, bands l] σ (.tuple [ints (grantAns ct l).1, I (grantAns ct l).2]) (σ) := by
  refine PC_of_W Try.func30 rfl (by kernel_rfl) Try.ntmps30 (by simp) fun hcl hca => ?_
  have hl1 := hl.1
  have hl2 := hl.2
  obtain ⟨res, hres⟩ : ∃ r, grantAns ct l = r := ⟨_, rfl⟩
  rw [hres]
  refine W_seq fun kz1 kq1 => ?_
  refine W_region [1, 2] fun R hR => ?_   -- r0
  simp only [go_sem]
  refine hR _ _ (kq1 _ _ ?_); clear hR R; try clear kq1 kz1
  try simp only [go_sem]
  refine W_seq fun kz2 kq2 => ?_
  refine W_seq fun kz3 kq3 => ?_
  refine W_region [1, 2, 6] fun R hR => ?_   -- r1
  simp only [go_sem]
  refine GCall_of (checkBands_pc Y _ ct l hc hl) ?_   -- t14
  simp only [go_sem]
  refine hR _ _ (kq3 _ _ ?_); clear hR R; try clear kq3 kz3
  try simp only [go_sem]
  refine W_seq fun kz4 kq4 => ?_
  refine W_region [1, 2, 6, 16] fun R hR => ?_   -- r2
  simp only [go_sem]
  refine hR _ _ (kq4 _ _ ?_); clear hR R; try clear kq4 kz4
  try simp only [go_sem]
  refine W_cond rfl (fun c1 => ?_) (fun c1 => ?_)
  · -- c1 true
    try simp only [nrm] at c1
    refine W_seq fun kz5 kq5 => ?_
    refine W_region [4, 5] fun R hR => ?_   -- r3
    simp only [go_sem]
    refine hR _ _ (kq5 _ _ ?_); clear hR R; try clear kq5 kz5
    try simp only [go_sem]
    refine W_ret ?_
    simp only [go_sem]
    refine ⟨.inr (by trivial), ?_⟩
    refine Fin_same hcl rfl (Wk.ro (by simp only [go_sem]) ?_)
    try simp only [go_sem]
    all_goals
      rw [← hres]; simp [grantAns, c1]
  · -- c1 false
    try simp only [nrm] at c1
    obtain ⟨hk, hlen, hcb⟩ := chkAll_ok c1
    have hv := chkBands_ok hcb
    have hq : res = (grantL ct [] l, 0) := by rw [← hres]; simp [grantAns, c1]
    refine W_skip (kq2 _ _ ?_)
    refine W_seq fun kz6 kq6 => ?_
    refine W_region [1, 2, 7] fun R hR => ?_   -- r4
    simp only [go_sem]
    refine hR _ _ (kq6 _ _ ?_); clear hR R; try clear kq6 kz6
    try simp only [go_sem]
    refine W_seq fun kz7 kq7 => ?_
    refine W_region [1, 2, 7, 8] fun R hR => ?_   -- r5
    simp only [go_sem]
    refine hR _ _ (kq7 _ _ ?_); clear hR R; try clear kq7 kz7
    try simp only [go_sem]
    refine W_seq fun kz8 kq8 => ?_
    refine W_seq fun kz9 kq9 => ?_
    refine W_region [2, 7, 8, 18, 19, 20] fun R hR => ?_   -- r6
    simp only [go_sem]
    refine hR _ _ (kq9 _ _ ?_); clear hR R; try clear kq9 kz9
    try simp only [go_sem]
    refine W_block ?_
    refine W_weak (Weak.room (t := 7) (es := 6) rfl (by simp)) ?_
    refine W_weak (Weak.keep [2, 7, 8, 18, 19, 20]) ?_
    simp only [go_sem]
    refine W_weak (Weak.room (t := 8) (es := 1) rfl (by simp)) ?_
    refine W_weak (Weak.keep [2, 7, 8, 18, 19, 20]) ?_
    simp only [go_sem]
    refine W_loopT (α := Nat × (List Band) × (List Int)) (fun ⟨i, w, out⟩ => [(7, .isl (w.map bdPV) (.tok σ.rooms.length w.length 6)), (8, .isl (out.map I) (.tok (σ.rooms.length + 1) out.length 1)), (20, I i)]) (fun ⟨i, w, out⟩ => σ.ext [some (ctCells ct)] [w.length, out.length]) (fun ⟨i, w, out⟩ => i ≤ l.length ∧ w.length ≤ i ∧ out.length = i ∧ (∀ x, x ∈ w → x ∈ l) ∧ res = (out ++ grantL ct w (l.drop i), 0)) (fun ⟨i, w, out⟩ => l.length - i) ((0, [], [])) (by simp only [go_sem, List.map]) (by first | rfl | (simp only [go_sem]; done) | (simp only [go_sem]; rfl)) (⟨Nat.zero_le _, Nat.le_refl _, rfl, (fun x hx => by cases hx), hq⟩) ?_
    rintro ⟨i, w, out⟩ ⟨hi, hwl, hol, hsub, hinv⟩
    refine W_seq fun kz10 kq10 => ?_
    refine W_region [2, 7, 8, 18, 19, 20, 21] fun R hR => ?_   -- r7
    simp only [go_sem]
    refine hR _ _ (kq10 _ _ ?_); clear hR R; try clear kq10 kz10
    try simp only [go_sem]
    refine W_seq fun kz11 kq11 => ?_
    refine W_cond rfl (fun c2 => ?_) (fun c2 => ?_)
    · -- c2 true
      try simp only [nrm] at c2
      have hi' : i < l.length := by first | assumption | omega
      obtain ⟨b, hx⟩ : ∃ b, l[i]? = some b := ⟨l[i], by simp [hi']⟩
      have hdrop : l.drop i = b :: l.drop (i + 1) := by
        rw [List.drop_eq_getElem_cons hi']; congr 1; exact (List.getElem?_eq_some_iff.1 hx).2
      have hbl := List.mem_of_getElem? hx
      rw [hdrop] at hinv
      simp only [grantL] at hinv
      refine W_skip (kq11 _ _ ?_)
      refine W_seq fun kz12 kq12 => ?_
      refine W_block ?_
      refine W_seq fun kz13 kq13 => ?_
      refine W_region [2, 7, 8, 10, 18, 19, 20] fun R hR => ?_   -- r8
      simp only [go_sem, hx]
      refine hR _ _ (kq13 _ _ ?_); clear hR R; try clear kq13 kz13
      try simp only [go_sem, hx]
      refine W_seq fun kz14 kq14 => ?_
      refine W_region [2, 7, 8, 10, 11, 18, 19, 20] fun R hR => ?_   -- r9
      simp only [go_sem, hx]
      refine GCall_of (PC.ofRo (granted_pc Y _ ct w b hc ⟨by omega, fun x hx => hl2 x (hsub x hx)⟩ (by omega) hk (fun x hx => hv x (hsub x hx)) (hl2 b hbl) (hv b hbl)) (by simp only [go_sem, bands] <;> rfl)) ?_   -- t28
      simp only [go_sem, hx]
      refine hR _ _ (kq14 _ _ ?_); clear hR R; try clear kq14 kz14
      try simp only [go_sem, hx]
      refine W_seq fun kz15 kq15 => ?_
      refine W_seq fun kz16 kq16 => ?_
      refine W_region [2, 7, 8, 10, 11, 18, 19, 20, 30] fun R hR => ?_   -- r10
      simp only [go_sem, hx]
      refine hR _ _ (kq16 _ _ ?_); clear hR R; try clear kq16 kz16
      try simp only [go_sem, hx]
      refine W_cond rfl (fun c3 => ?_) (fun c3 => ?_)
      · -- c3 true
        try simp only [nrm] at c3
        refine W_region [2, 7, 8, 11, 18, 19, 20] fun R hR => ?_   -- r11
        simp only [go_sem, hx]
        simp (disch := first | omega | (simp only [go_sem] <;> omega)) only [wrapI, wrapU, appX_exact, appX_tok]
        try simp only [go_sem, hx]
        refine hR _ _ (kq15 _ _ ?_); clear hR R; try clear kq15 kz15
        try simp only [go_sem, hx]
        refine W_region [2, 7, 8, 18, 19, 20] fun R hR => ?_   -- r12
        simp only [go_sem, hx]
        simp (disch := first | omega | (simp only [go_sem] <;> omega)) only [wrapI, wrapU, appX_exact, appX_tok]
        try simp only [go_sem, hx]
        refine hR _ _ (kq12 _ _ ?_); clear hR R; try clear kq12 kz12
        try simp only [go_sem, hx]
        refine W_region [2, 7, 8, 18, 19, 20] fun R hR => ?_   -- r13
        simp only [go_sem, hx]
        try simp (disch := omega) only [wrapI, wrapU]
        refine hR _ _ ?_; clear hR R
        try simp only [go_sem, hx]
        refine ⟨(i + 1, w ++ [b], out ++ [reqOf ct w b]), ?_, by (try simp only []); omega, ?_⟩
        · refine Weak.trans (Weak.cutX 1 2 (by omega) (by omega) hcl (by simp only [go_sem] <;> omega) (by simp only [go_sem] <;> omega)) ?_
          simp only [go_sem]
          exact Weak.eq (by first | rfl | (simp only [go_sem]; done) | (simp only [go_sem]; rfl) | (simp [go_sem]; done) | (simp [go_sem]; omega)) (by first | rfl | (simp only [go_sem]; done) | (simp [go_sem]; done))
        · try dsimp only
          refine ⟨hi', by (try simp); omega, by simp; omega, fun x hx => ?_, ?_⟩
          · first | exact hsub x hx | (rcases List.mem_append.1 hx with h | h; exact hsub x h; simp only [List.mem_singleton] at h; subst h; exact hbl)
          · rw [hinv]; simp [c3]
      · -- c3 false
        try simp only [nrm] at c3
        refine W_skip (kq15 _ _ ?_)
        refine W_region [2, 7, 8, 18, 19, 20] fun R hR => ?_   -- r12
        simp only [go_sem, hx]
        simp (disch := first | omega | (simp only [go_sem] <;> omega)) only [wrapI, wrapU, appX_exact, appX_tok]
        try simp only [go_sem, hx]
        refine hR _ _ (kq12 _ _ ?_); clear hR R; try clear kq12 kz12
        try simp only [go_sem, hx]
        refine W_region [2, 7, 8, 18, 19, 20] fun R hR => ?_   -- r13
        simp only [go_sem, hx]
        try simp (disch := omega) only [wrapI, wrapU]
        refine hR _ _ ?_; clear hR R
        try simp only [go_sem, hx]
        refine ⟨(i + 1, w, out ++ [reqOf ct w b]), ?_, by (try simp only []); omega, ?_⟩
        · refine Weak.trans (Weak.cutX 1 2 (by omega) (by omega) hcl (by simp only [go_sem] <;> omega) (by simp only [go_sem] <;> omega)) ?_
          simp only [go_sem]
          exact Weak.eq (by first | rfl | (simp only [go_sem]; done) | (simp only [go_sem]; rfl) | (simp [go_sem]; done) | (simp [go_sem]; omega)) (by first | rfl | (simp only [go_sem]; done) | (simp [go_sem]; done))
        · try dsimp only
          refine ⟨hi', by (try simp); omega, by simp; omega, fun x hx => ?_, ?_⟩
          · first | exact hsub x hx | (rcases List.mem_append.1 hx with h | h; exact hsub x h; simp only [List.mem_singleton] at h; subst h; exact hbl)
          · rw [hinv]; simp [c3]
    · -- c2 false
      try simp only [nrm] at c2
      have hdrop : l.drop i = [] := List.drop_eq_nil_of_le (by omega)
      rw [hdrop] at hinv
      simp only [grantL, List.append_nil] at hinv
      refine W_exit ?_
      simp only [go_sem]
      refine kq8 _ _ ?_
      refine W_seq fun kz17 kq17 => ?_
      refine W_region [4, 5] fun R hR => ?_   -- r14
      simp only [go_sem]
      refine hR _ _ (kq17 _ _ ?_); clear hR R; try clear kq17 kz17
      try simp only [go_sem]
      refine W_ret ?_
      simp only [go_sem]
      refine ⟨.inr (by trivial), ?_⟩
      refine Fin_same hcl rfl (Wk.ro (by simp only [go_sem]) ?_)
      try simp only [go_sem]
      all_goals
        rw [hinv]
set_option maxHeartbeats 2000000 in
theorem EqErrors_pc (Y : YEnv) (σ : Sg) (xs ys : List Int) (o o2 : Own) (hx : xs.length < 2 ^ 50) :
    PC Try.prog Y 31 [.isl (xs.map I) o, .isl (ys.map I) o2] σ (.bool (decide (xs = ys))) (σ) := by
  refine PC_of_W Try.func31 rfl (by kernel_rfl) Try.ntmps31 (by simp) fun hcl hca => ?_
  refine W_seq fun kz1 kq1 => ?_
  refine W_region [0, 1] fun R hR => ?_   -- r0
  simp only [go_sem]
  refine hR _ _ (kq1 _ _ ?_); clear hR R; try clear kq1 kz1
  try simp only [go_sem]
  refine W_seq fun kz2 kq2 => ?_
  refine W_seq fun kz3 kq3 => ?_
  refine W_region [0, 1, 10] fun R hR => ?_   -- r1
  simp only [go_sem]
  refine hR _ _ (kq3 _ _ ?_); clear hR R; try clear kq3 kz3
  try simp only [go_sem]
  refine W_cond rfl (fun c1 => ?_) (fun c1 => ?_)
  · -- c1 true
    try simp only [nrm] at c1
    refine W_seq fun kz4 kq4 => ?_
    refine W_region [4] fun R hR => ?_   -- r2
    simp only [go_sem]
    refine hR _ _ (kq4 _ _ ?_); clear hR R; try clear kq4 kz4
    try simp only [go_sem]
    refine W_ret ?_
    simp only [go_sem]
    refine ⟨.inr (by trivial), ?_⟩
    first | refine Fin_same hcl rfl (Wk_eq ?_ (by simp only [go_sem])) | refine Fin_self hcl rfl (Wk_eq ?_ (by simp only [go_sem]))
    try simp only [go_sem]
    all_goals
      simp; intro h; subst h; exact c1 rfl
  · -- c1 false
    try simp only [nrm] at c1
    refine W_skip (kq2 _ _ ?_)
    refine W_seq fun kz5 kq5 => ?_
    refine W_seq fun kz6 kq6 => ?_
    refine W_region [0, 1, 5] fun R hR => ?_   -- r3
    simp only [go_sem]
    refine hR _ _ (kq6 _ _ ?_); clear hR R; try clear kq6 kz6
    try simp only [go_sem]
    refine W_block ?_
    refine W_loopS (α := Nat) (fun (i : Nat) => [(5, I i)]) (fun (i : Nat) => i ≤ xs.length ∧ xs.take i = ys.take i) (fun (i : Nat) => xs.length - i) (0) rfl (⟨Nat.zero_le _, rfl⟩) ?_
    rintro i ⟨hi, ht⟩
    refine W_seq fun kz7 kq7 => ?_
    refine W_seq fun kz8 kq8 => ?_
    refine W_region [0, 1, 5, 14] fun R hR => ?_   -- r4
    simp only [go_sem]
    refine hR _ _ (kq8 _ _ ?_); clear hR R; try clear kq8 kz8
    try simp only [go_sem]
    refine W_cond rfl (fun c2 => ?_) (fun c2 => ?_)
    · -- c2 true
      try simp only [nrm] at c2
      have hi' : i < xs.length := by first | assumption | omega
      obtain ⟨x, hxi⟩ : ∃ x, xs[i]? = some x := ⟨xs[i], by simp⟩
      obtain ⟨y, hyi⟩ : ∃ y, ys[i]? = some y := ⟨ys[i]'(by omega), by simp⟩
      refine W_skip (kq7 _ _ ?_)
      refine W_seq fun kz9 kq9 => ?_
      refine W_block ?_
      refine W_seq fun kz10 kq10 => ?_
      refine W_draw [0, 1, 5, 25] [0, 1, 2, 3, 4, 5, 6, 7, 8] [] [[], [], [0, 1], [0, 1, 2], [], [], [4, 5], [4, 5, 6], [0, 1, 2, 3, 4, 5, 6, 7]] mixed (by kernel_rfl) fun R hR => ?_   -- r6
      simp only [go_sem, hxi, hyi]
      try refine And.intro (by repeat' (first | refine And.intro ?_ ?_ | exact GOr_right (fun _ => by simp only [go_sem, hxi, hyi]))) ?_
      refine hR _ _ (kq10 _ _ ?_); clear hR R; try clear kq10 kz10
      try simp only [go_sem, hxi, hyi]
      refine W_cond rfl (fun c3 => ?_) (fun c3 => ?_)
      · -- c3 true
        try simp only [nrm] at c3
        refine W_seq fun kz11 kq11 => ?_
        refine W_region [4] fun R hR => ?_   -- r7
        simp only [go_sem, hxi, hyi]
        refine hR _ _ (kq11 _ _ ?_); clear hR R; try clear kq11 kz11
        try simp only [go_sem, hxi, hyi]
        refine W_ret ?_
        simp only [go_sem, hxi, hyi]
        refine ⟨.inr (by trivial), ?_⟩
        first | refine Fin_same hcl rfl (Wk_eq ?_ (by simp only [go_sem])) | refine Fin_self hcl rfl (Wk_eq ?_ (by simp only [go_sem]))
        try simp only [go_sem]
        all_goals
          simp; intro h; subst h; rw [hxi] at hyi; injection hyi with h; exact c3 h
      · -- c3 false
        try simp only [nrm] at c3
        refine W_skip (kq9 _ _ ?_)
        refine W_region [0, 1, 5] fun R hR => ?_   -- r5
        simp only [go_sem, hxi, hyi]
        try simp (disch := omega) only [wrapI, wrapU]
        refine hR _ _ ?_; clear hR R
        try simp only [go_sem, hxi, hyi]
        refine ⟨i + 1, ?_, by (try simp only []); omega, ?_⟩
        · first | exact Weak.refl | exact Weak.eq (by first | rfl | (simp only [go_sem]; done) | (simp only [go_sem]; rfl) | (simp [go_sem]; done) | (simp [go_sem]; omega)) (by first | rfl | (simp only [go_sem]; done) | (simp [go_sem]; done))
        · try dsimp only
          exact ⟨hi', by rw [List.take_add_one, List.take_add_one, ht, hxi, hyi, c3]⟩
    · -- c2 false
      try simp only [nrm] at c2
      have hie : i = xs.length := by omega
      subst hie
      have hxy : xs = ys := by rw [List.take_length] at ht; rw [c1, List.take_length] at ht; exact ht
      refine W_exit ?_
      simp only [go_sem]
      refine kq5 _ _ ?_
      refine W_seq fun kz12 kq12 => ?_
      refine W_region [4] fun R hR => ?_   -- r8
      simp only [go_sem]
      refine hR _ _ (kq12 _ _ ?_); clear hR R; try clear kq12 kz12
      try simp only [go_sem]
      refine W_ret ?_
      simp only [go_sem]
      refine ⟨.inr (by trivial), ?_⟩
      first | refine Fin_same hcl rfl (Wk_eq ?_ (by simp only [go_sem])) | refine Fin_self hcl rfl (Wk_eq ?_ (by simp only [go_sem]))
      try simp only [go_sem]
      all_goals
        simp [hxy]
end Go.Proofs.Ytnpamcpoaklgeaa
