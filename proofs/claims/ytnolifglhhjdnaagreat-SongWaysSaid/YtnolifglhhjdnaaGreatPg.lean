/-
  Walks: numbers copied, to be written again (bateriakit).
  Walks: all ways to vote (baterialaw04).
  All ways to vote: what could still be, and what a round keeps in it (song, plain).
  What still could be of a round is what all ways to vote give (song, plain).
  Walks: results compared, ballots copied, numbers taken into bounds (bateriakit).
  Walks: the document's run of a contest, and its ballots that count (song).
  Walks: contests and ballots made of numbers (bateriakit).
  Walks: standings of a result, the result of a round, a small contest (baterialaw04).
  Songs that are left out one after the other, in plain Lean.
  Walks: songs left out one after the other (song).
  Walks: contests and ballots copied and compared (bateriakit).
  Walks: the chapter's examples checked (song).
  The law SongWays, walked: all ways to vote.
-/
import Derived.Test.YtnolifglhhjdnaaGreatPf
import Derived.CallsIn
import Derived.RangeFuncLeaves
import Derived.RangeFuncRecord
import Derived.OrdersIn
import Derived.Below
import Derived.Laws.World
import Derived.Laws.StructEq
import Derived.Laws.Append
import Derived.MapKept
import Derived.ProofKit
import Derived.Carry
import Derived.Handed
import Derived.ChangeCalls
import Derived.RangeFuncIn
import Derived.RangeFuncNested
import Derived.Test.YtnolifglhhjdnaaGreatProg
import Derived.KernelRfl
import Derived.IntWalk
import Derived.Sort.OwnSortedInts
import Derived.Lib.SlicesCompact
import Derived.Test.YtnolifglhhjdnaaGreatRows
import Derived.Shelf.Sort.Plain
import Derived.Shelf.Slices.In.SortNone
import Derived.Shelf.Small.Bits
import Derived.JoinedOf
set_option linter.unusedSimpArgs false
set_option linter.unusedVariables false
namespace Go.Proofs.YtnolifglhhjdnaaGreat
open Go Go.RowKit
set_option maxRecDepth 100000
set_option maxHeartbeats 2000000 in
theorem IntsW_pc (Y : YEnv) (σ : Sg) (xs : List Int) (o : Own) (hne : xs ≠ []) (h : xs.length < 2 ^ 40) :
  PC Tryz.prog Y 49 [intsO o xs] σ (.gsl σ.store.length xs.length 1) (σ.ext [some (xs.map I)] []) := by
 refine PC_of_W Tryz.func49 rfl (by kernel_rfl) Tryz.ntmps49 (by simp) fun hcl hca => ?_
 refine W_seq fun kz1 kq1 => ?_
 refine W_region [0] fun R hR => ?_
 simp only [go_sem]
 refine hR _ _ (kq1 _ _ ?_); clear hR R; try clear kq1 kz1
 try simp only [go_sem]
 refine W_seq fun kz2 kq2 => ?_
 refine W_regionN [2] 2 fun R hR => ?_
 simp only [GLw, go_sem]
 refine ⟨_, _, Weak.gnil (t := 3) (by simp only [go_sem]), ?_⟩
 simp only [go_sem]
 have hpos : 0 < xs.length := List.length_pos_iff.2 hne
 rw [appG_nil (by simp [PV.cells, PV.scalar]) (by simpa using hpos) (by simp; omega), rowC_ints]
 simp only [go_sem]
 refine hR _ _ (kq2 _ _ ?_); clear hR R; try clear kq2 kz2
 try simp only [go_sem]
 refine W_ret ?_
 simp only [go_sem]
 refine ⟨.inr (by trivial), ?_⟩
 refine Fin_ext (σ := σ) (l := [some (xs.map I)]) (rm := []) 1 0 hcl rfl (Wk_eq rfl (by simp only [go_sem] <;> omega)) (by show CleanLs _ _ _ _; simp only [go_sem])
def seqF {α : Type} (g : Nat → List α) (n : Nat) : List α := (List.range n).flatMap g
theorem seqF_succ {α : Type} {g : Nat → List α} {n : Nat} : seqF g (n + 1) = seqF g n ++ g n := by simp [seqF, List.range_succ, List.flatMap_append]
theorem seqF_le {α : Type} {g : Nat → List α} {i n : Nat} (h : i ≤ n) : (seqF g i).length ≤ (seqF g n).length := by
 obtain ⟨d, rfl⟩ := Nat.le.dest h
 clear h
 induction d with
 | zero => exact Nat.le_refl _
 | succ d ih =>
  rw [← Nat.add_assoc, seqF_succ, List.length_append]
  omega
def firstJ : List Int → Option Nat
 | [] => none
 | x :: l => if x = 0 then (firstJ l).map (· + 1) else some 0
theorem firstJ_some : ∀ {js : List Int} {i : Nat} {j : Int}, (∀ x, x ∈ js.take i → x = 0) → js[i]? = some j → j ≠ 0 → firstJ js = some i := by
 intro js
 induction js with
 | nil => intro i j _ h; simp at h
 | cons x js ih =>
  intro i j h1 h2 h3
  cases i with
  | zero =>
   simp only [List.getElem?_cons_zero, Option.some.injEq] at h2
   subst h2
   simp only [firstJ]
   rw [if_neg h3]
  | succ i =>
   simp only [List.getElem?_cons_succ] at h2
   simp only [firstJ]
   rw [if_pos (h1 x (by simp)), ih (fun y hy => h1 y (by simp [hy])) h2 h3]
   rfl
theorem firstJ_none : ∀ {js : List Int}, (∀ x, x ∈ js → x = 0) → firstJ js = none := by
 intro js
 induction js with
 | nil => intro _; rfl
 | cons x js ih =>
  intro h
  simp only [firstJ]
  rw [if_pos (h x (by simp)), ih fun y hy => h y (by simp [hy])]
  rfl
def addS (r : Rnd) (l : List Std) (i : Nat) (p v : Int) : List Std := match l[i]? with
 | some x => l.set i (moreS r x p v)
 | none => l
theorem addS_at {r : Rnd} {l : List Std} {i : Nat} {p v : Int} {x : Std} (h : l[i]? = some x) : addS r l i p v = l.set i (moreS r x p v) := by unfold addS; rw [h]
def finJ (r : Rnd) (most : Nat) : Nat → List Int → List Std → List (List Std)
 | 0, _, l => [l]
 | k + 1, js, l => match firstJ js with
  | none => [l]
  | some i => seqF (fun p => finJ r most k (js.set i (js.getD i 0 - 1)) (addS r l i p 0)) (most + 1)
def finM (r : Rnd) (most : Nat) (js : List Int) : Nat → List Std → List (List Std)
 | 0, l => finJ r most js.sum.toNat js l
 | m + 1, l => finM r most js m l ++ seqF (fun i => finM r most js m (addS r l i 0 1)) l.length
def keptI (keep : Int) (l : List Std) (i : Nat) : Bool := match l[i]? with
 | some x => decide ((rank l x : Int) < keep)
 | none => false
def cntK (keep : Int) (ls : List (List Std)) (i : Nat) : Int := (ls.countP fun l => keptI keep l i : Nat)
theorem cntK_app {keep : Int} {a b : List (List Std)} {i : Nat} : cntK keep (a ++ b) i = cntK keep a i + cntK keep b i := by simp [cntK, List.countP_append]
theorem cntK_le {keep : Int} {a : List (List Std)} {i : Nat} : 0 ≤ cntK keep a i ∧ cntK keep a i ≤ a.length := by
 have := List.countP_le_length (p := fun l => keptI keep l i) (l := a)
 unfold cntK
 omega
def preM (r : Rnd) (most : Nat) (js : List Int) (m : Nat) (l : List Std) (i : Nat) : List (List Std) := finM r most js m l ++ seqF (fun i => finM r most js m (addS r l i 0 1)) i
def preJ (r : Rnd) (most : Nat) (js : List Int) (l : List Std) (i : Nat) (j : Int) (p : Nat) : List (List Std) := seqF (fun p => finM r most (js.set i (j - 1)) 0 (addS r l i p 0)) p
section
variable {r : Rnd} {most : Nat} {js : List Int} {m : Nat} {l : List Std} {i : Nat} {j : Int} {p : Nat}
theorem preM_zero : preM r most js m l 0 = finM r most js m l := by simp [preM, seqF]
theorem preM_succ : preM r most js m l (i + 1) = preM r most js m l i ++ finM r most js m (addS r l i 0 1) := by simp only [preM, seqF_succ, List.append_assoc]
theorem preM_all : preM r most js m l l.length = finM r most js (m + 1) l := rfl
theorem preM_le (h : i ≤ l.length) : (preM r most js m l i).length ≤ (finM r most js (m + 1) l).length := by
 rw [← preM_all]
 simp only [preM, List.length_append]
 have := seqF_le (g := fun i => finM r most js m (addS r l i 0 1)) h
 omega
theorem preJ_zero : preJ r most js l i j 0 = [] := by simp [preJ, seqF]
theorem preJ_succ : preJ r most js l i j (p + 1) = preJ r most js l i j p ++ finM r most (js.set i (j - 1)) 0 (addS r l i p 0) := by simp only [preJ, seqF_succ]
theorem sum_set : ∀ {js : List Int} {i : Nat} {j y : Int}, js[i]? = some j → (js.set i y).sum = js.sum - j + y := by
 intro js
 induction js with
 | nil => intro i j y h; simp at h
 | cons x js ih =>
  intro i j y h
  cases i with
  | zero =>
   simp only [List.getElem?_cons_zero, Option.some.injEq] at h
   subst h
   simp only [List.set_cons_zero, List.sum_cons]
   omega
  | succ i =>
   simp only [List.getElem?_cons_succ] at h
   have := ih (y := y) h
   simp only [List.set_cons_succ, List.sum_cons]
   omega
theorem sum_nonneg : ∀ {js : List Int}, (∀ x, x ∈ js → 0 ≤ x) → 0 ≤ js.sum := by
 intro js
 induction js with
 | nil => intro _; simp
 | cons x js ih =>
  intro h
  have := ih fun y hy => h y (by simp [hy])
  have := h x (by simp)
  simp only [List.sum_cons]
  omega
theorem le_sumJ {js : List Int} (h : ∀ x, x ∈ js → 0 ≤ x) {j : Int} {i : Nat} (hj : js[i]? = some j) : j ≤ js.sum := by
 have h1 := sum_set (y := 0) hj
 have h2 := sum_nonneg (js := js.set i 0) fun x hx => by
  rcases List.mem_or_eq_of_mem_set hx with hx | hx
  ·exact h x hx
  ·omega
 omega
theorem finM_jury (hn : ∀ x, x ∈ js → 0 ≤ x) (h0 : ∀ x, x ∈ js.take i → x = 0) (hj : js[i]? = some j) (hne : j ≠ 0) : finM r most js 0 l = preJ r most js l i j (most + 1) := by
 have h1 := hn j (List.mem_of_getElem? hj)
 have h2 := le_sumJ hn hj
 have h3 := sum_set (y := j - 1) hj
 have hd : js.getD i 0 = j := by rw [List.getD_eq_getElem?_getD, hj]; rfl
 show finJ r most js.sum.toNat js l = _
 rw [show js.sum.toNat = (js.set i (j - 1)).sum.toNat + 1 by omega]
 simp only [finJ]
 rw [firstJ_some h0 hj hne]
 simp only [hd]
 rfl
theorem finM_base (h0 : ∀ x, x ∈ js → x = 0) : finM r most js 0 l = [l] := by
 show finJ r most js.sum.toNat js l = _
 cases js.sum.toNat with
 | zero => rfl
 | succ k =>
  simp only [finJ]
  rw [firstJ_none h0]
end
structure WOk (c : Contest) (r : Rnd) (most N : Nat) (l : List Std) (js : List Int) (m : Nat) (f : Nat → Int) : Prop where
 wj : 0 ≤ r.jury ∧ r.jury ≤ 2 ^ 20
 wm : 0 ≤ r.member ∧ r.member ≤ 2 ^ 20
 ms : c.most = most
 mb : most ≤ 100
 ln : l.length = N
 jl : js.length = N
 nb : N ≤ 8
 nn : ∀ j, j ∈ js → 0 ≤ j
 mm : m ≤ 2 ^ 20
 sj : js.sum ≤ 2 ^ 20
 pb : ∀ x, x ∈ l → 0 ≤ x.points ∧ x.points + 100 * js.sum ≤ 2 ^ 22
 vb : ∀ x, x ∈ l → 0 ≤ x.votes ∧ x.votes + m ≤ 2 ^ 22
 fl : (finM r most js m l).length ≤ 2 ^ 40
 fb : ∀ i, i < N → 0 ≤ f i ∧ f i + (finM r most js m l).length ≤ 2 ^ 41
section
variable {c : Contest} {r : Rnd} {most N : Nat} {l : List Std} {js : List Int} {m : Nat} {f : Nat → Int}
theorem WOk.vote0 (h : WOk c r most N l js (m + 1) f) : WOk c r most N l js m f := by
 have hle := preM_le (r := r) (most := most) (js := js) (m := m) (Nat.zero_le l.length)
 rw [preM_zero] at hle
 exact ⟨h.wj, h.wm, h.ms, h.mb, h.ln, h.jl, h.nb, h.nn, by have := h.mm; omega, h.sj, h.pb, fun x hx => by have := h.vb x hx; omega, by have := h.fl; omega, fun i hi => by have := h.fb i hi; omega⟩
theorem WOk.vote (h : WOk c r most N l js (m + 1) f) {i : Nat} {x : Std} (hx : l[i]? = some x) : WOk c r most N (l.set i (moreS r x 0 1)) js m (fun s => f s + cntK r.keep (preM r most js m l i) s) := by
 have hi := (List.getElem?_eq_some_iff.1 hx).1
 have hle := preM_le (r := r) (most := most) (js := js) (m := m) (show i + 1 ≤ l.length by omega)
 rw [preM_succ, List.length_append, addS_at hx] at hle
 have hm := List.mem_of_getElem? hx
 refine ⟨h.wj, h.wm, h.ms, h.mb, by rw [List.length_set]; exact h.ln, h.jl, h.nb, h.nn, by have := h.mm; omega, h.sj, fun y hy => ?_, fun y hy => ?_, by have := h.fl; omega, fun s hs => ?_⟩
 ·rcases List.mem_or_eq_of_mem_set hy with hy | rfl
  ·exact h.pb y hy
  ·have := h.pb x hm
   show 0 ≤ x.points + 0 ∧ x.points + 0 + _ ≤ _
   omega
 ·rcases List.mem_or_eq_of_mem_set hy with hy | rfl
  ·have := h.vb y hy; omega
  ·have := h.vb x hm
   show 0 ≤ x.votes + 1 ∧ x.votes + 1 + _ ≤ _
   omega
 ·have h1 := h.fb s hs
  have h2 := cntK_le (keep := r.keep) (a := preM r most js m l i) (i := s)
  omega
theorem WOk.jury (h : WOk c r most N l js 0 f) {i p : Nat} {j : Int} {x : Std} (hx : l[i]? = some x) (h0 : ∀ x, x ∈ js.take i → x = 0) (hj : js[i]? = some j) (hne : j ≠ 0) (hp : p ≤ most) : WOk c r most N (l.set i (moreS r x p 0)) (js.set i (j - 1)) 0 (fun s => f s + cntK r.keep (preJ r most js l i j p) s) := by
 have h1 := h.nn j (List.mem_of_getElem? hj)
 have h3 := sum_set (y := j - 1) hj
 have hfe := finM_jury (r := r) (most := most) (l := l) h.nn h0 hj hne
 have hle := seqF_le (g := fun p : Nat => finM r most (js.set i (j - 1)) 0 (addS r l i p 0)) (show p + 1 ≤ most + 1 by omega)
 rw [show (seqF (fun p : Nat => finM r most (js.set i (j - 1)) 0 (addS r l i p 0)) (p + 1)) = preJ r most js l i j (p + 1) from rfl, show (seqF (fun p : Nat => finM r most (js.set i (j - 1)) 0 (addS r l i p 0)) (most + 1)) = preJ r most js l i j (most + 1) from rfl, ← hfe, preJ_succ, List.length_append, addS_at hx] at hle
 have hm := List.mem_of_getElem? hx
 have hmb := h.mb
 refine ⟨h.wj, h.wm, h.ms, h.mb, by rw [List.length_set]; exact h.ln, by rw [List.length_set]; exact h.jl, h.nb, fun y hy => ?_, h.mm, by have := h.sj; omega, fun y hy => ?_, fun y hy => ?_, by have := h.fl; omega, fun s hs => ?_⟩
 ·rcases List.mem_or_eq_of_mem_set hy with hy | rfl
  ·exact h.nn y hy
  ·omega
 ·rcases List.mem_or_eq_of_mem_set hy with hy | rfl
  ·have := h.pb y hy
   omega
  ·have := h.pb x hm
   show 0 ≤ x.points + (p : Int) ∧ x.points + (p : Int) + _ ≤ _
   omega
 ·rcases List.mem_or_eq_of_mem_set hy with hy | rfl
  ·exact h.vb y hy
  ·have := h.vb x hm
   show 0 ≤ x.votes + 0 ∧ x.votes + 0 + _ ≤ _
   omega
 ·have h1 := h.fb s hs
  have h2 := cntK_le (keep := r.keep) (a := preJ r most js l i j p) (i := s)
  omega
end
theorem drop_sv2 {τ : Sg} {d : Nat} {cs : List PV} {l : List (Option (List PV))} {rm : List Nat} {ys : List LState} {j : Nat} : ((τ.setVar d cs).ext l rm ys).drop (τ.store.length + j) = (τ.setVar d cs).ext (l.set j none) rm ys := by
 have := Sg.drop_ext (σ := τ.setVar d cs) (l := l) (rm := rm) (ys := ys) (j := j)
 rw [sv_len] at this
 exact this
theorem get_sv2 {τ : Sg} {d : Nat} {cs : List PV} {l : List (Option (List PV))} {rm : List Nat} {ys : List LState} {j : Nat} : ((τ.setVar d cs).ext l rm ys).store[τ.store.length + j]? = l[j]? := by
 have := Sg.get_ext (τ.setVar d cs) l rm ys j
 rw [sv_len] at this
 exact this
set_option maxHeartbeats 16000000 in
theorem ways_step (Y : YEnv) (σ : Sg) (c : Contest) (r : Rnd) (most N mid : Nat) (l : List Std) (js : List Int) (m : Nat) (f : Nat → Int) (hW : WOk c r most N l js m f) (hd : σ.store[mid]? = some (some ((rowG f N).map I))) (ih : ∀ (l' : List Std) (js' : List Int) (m' : Nat) (f' : Nat → Int), m' + js'.sum.toNat < m + js.sum.toNat → WOk c r most N l' js' m' f' → ∀ (Y : YEnv) (σ : Sg), σ.store[mid]? = some (some ((rowG f' N).map I)) → PC Tryz.prog Y 14 [cnPV c, rdPV r, sds (l'), I (m' : Nat), ints (js'), .msl mid 0 N] σ (I ((finM r most (js') (m') (l')).length : Nat)) (σ.setVar mid ((rowG (fun s => (f') s + cntK r.keep (finM r most (js') (m') (l')) s) N).map I))) :
  PC Tryz.prog Y 14 [cnPV c, rdPV r, sds l, I m, ints js, .msl mid 0 N] σ (I (finM r most js m l).length) (σ.setVar mid ((rowG (fun s => f s + cntK r.keep (finM r most js m l) s) N).map I)) := by
 refine PC_of_W Tryz.func14 rfl (by kernel_rfl) Tryz.ntmps14 (by simp) fun hcl hca => ?_
 have hlt := lt_of_get hd
 have hwj := hW.wj
 have hwm := hW.wm
 have hms := hW.ms
 have hmb := hW.mb
 have hln := hW.ln
 have hjl := hW.jl
 have hnb := hW.nb
 have hjn := sum_nonneg hW.nn
 have hmm := hW.mm
 have hsj := hW.sj
 have hlt2 : ∀ cs, mid < (σ.setVar mid cs).store.length := fun cs => by rw [sv_len]; exact hlt
 have hf40 := hW.fl
 refine W_seq fun kz1 kq1 => ?_
 refine W_region [2, 3, 4, 5, 6, 7] fun R hR => ?_
 simp only [go_sem, ldS_at hd, stX_at hd, ldS_sv hlt, stX_sv hlt, sv_ext hlt, sv_ext_sv hlt]
 refine hR _ _ (kq1 _ _ ?_); clear hR R; try clear kq1 kz1
 try simp only [go_sem, ldS_at hd, stX_at hd, ldS_sv hlt, stX_sv hlt, sv_ext hlt, sv_ext_sv hlt]
 refine W_seq fun kz2 kq2 => ?_
 refine W_seq fun kz3 kq3 => ?_
 refine W_region [2, 3, 4, 5, 6, 7, 23] fun R hR => ?_
 simp only [go_sem, ldS_at hd, stX_at hd, ldS_sv hlt, stX_sv hlt, sv_ext hlt, sv_ext_sv hlt]
 refine hR _ _ (kq3 _ _ ?_); clear hR R; try clear kq3 kz3
 try simp only [go_sem, ldS_at hd, stX_at hd, ldS_sv hlt, stX_sv hlt, sv_ext hlt, sv_ext_sv hlt]
 refine W_cond rfl (fun c1 => ?_) (fun c1 => ?_)
 ·try simp only [nrm] at c1
  obtain ⟨m, rfl⟩ : ∃ z, m = z + 1 := ⟨m - 1, by first | omega | (simp at c1; omega)⟩
  have hmw : IntKind.i64.wrap (((m + 1 : Nat) : Int) - 1) = (m : Int) := by have := hW.vb; rw [wrapI (by omega) (by omega)]; omega
  refine W_seq fun kz4 kq4 => ?_
  refine W_region [2, 3, 4, 5, 6, 7, 13] fun R hR => ?_
  simp only [go_sem, ldS_at hd, stX_at hd, ldS_sv hlt, stX_sv hlt, sv_ext hlt, sv_ext_sv hlt, hmw]
  try simp (disch := omega) only [wrapI, wrapU]
  refine GCall_of (ih l js m f (by omega) hW.vote0 Y _ (by first | exact hd | exact sv_get hlt | exact get_svx hlt | exact get_extx hd)) ?_
  simp only [go_sem, ldS_at hd, stX_at hd, ldS_sv hlt, stX_sv hlt, sv_ext hlt, sv_ext_sv hlt, hmw]
  try simp (disch := omega) only [wrapI, wrapU]
  refine hR _ _ (kq4 _ _ ?_); clear hR R; try clear kq4 kz4
  try simp only [go_sem, ldS_at hd, stX_at hd, ldS_sv hlt, stX_sv hlt, sv_ext hlt, sv_ext_sv hlt]
  refine W_seq fun kz5 kq5 => ?_
  refine W_seq fun kz6 kq6 => ?_
  refine W_region [2, 3, 4, 5, 6, 7, 13, 14] fun R hR => ?_
  simp only [go_sem, ldS_at hd, stX_at hd, ldS_sv hlt, stX_sv hlt, sv_ext hlt, sv_ext_sv hlt]
  refine hR _ _ (kq6 _ _ ?_); clear hR R; try clear kq6 kz6
  try simp only [go_sem, ldS_at hd, stX_at hd, ldS_sv hlt, stX_sv hlt, sv_ext hlt, sv_ext_sv hlt]
  refine W_block ?_
  refine W_loopT (α := Nat) (fun (i : Nat) => [(13, I (preM r most js m l i).length), (14, I i)]) (fun (i : Nat) => (σ.setVar mid ((rowG (fun s => f s + cntK r.keep (preM r most js m l i) s) N).map I)).ext [some [I c.songs, I c.juries, I c.members, I c.most, rds c.rounds], some [I r.keep, I r.jury, I r.member]] []) (fun (i : Nat) => i ≤ N) (fun (i : Nat) => N - i) (0) (by rw [preM_zero]; rfl) (by simp only [preM_zero]) (Nat.zero_le _) ?_
  rintro i hi
  refine W_seq fun kz7 kq7 => ?_
  refine W_seq fun kz8 kq8 => ?_
  refine W_region [2, 3, 4, 5, 6, 7, 13, 14, 35] fun R hR => ?_
  simp only [go_sem, ldS_at hd, stX_at hd, ldS_sv hlt, stX_sv hlt, sv_ext hlt, sv_ext_sv hlt]
  refine hR _ _ (kq8 _ _ ?_); clear hR R; try clear kq8 kz8
  try simp only [go_sem, ldS_at hd, stX_at hd, ldS_sv hlt, stX_sv hlt, sv_ext hlt, sv_ext_sv hlt]
  refine W_cond rfl (fun c2 => ?_) (fun c2 => ?_)
  ·try simp only [nrm] at c2
   have hi' : i < N := by first | omega | (simp at c2; omega)
   obtain ⟨x, hx⟩ : ∃ z, l[i]? = some z := ⟨l[i]'(by omega), by simp⟩
   have hil : (i : Int) < (l.length : Int) := by omega
   have hpx := hW.pb x (List.mem_of_getElem? hx)
   have hvx := hW.vb x (List.mem_of_getElem? hx)
   obtain ⟨own, hown⟩ : ∃ z, moreS r x 0 1 = z := ⟨_, rfl⟩
   have hrl := row4_len l
   have hld := row4_ld hx
   have hrp := row4_put own (l := l) (j := i) (by omega)
   have hb1 : i * 4 + 4 ≤ (rowC (l.map sdPV)).length := by rw [hrl]; omega
   have hadd : addS r l i 0 1 = l.set i own := by rw [addS_at hx, hown]
   have hsc := preM_succ (r := r) (most := most) (js := js) (m := m) (l := l) (i := i)
   have hle := preM_le (r := r) (most := most) (js := js) (m := m) (l := l) (show i + 1 ≤ l.length by omega)
   rw [hadd] at hsc
   have hlen : (preM r most js m l (i + 1)).length = (preM r most js m l i).length + (finM r most js m (l.set i own)).length := by rw [hsc, List.length_append]
   have hww : IntKind.i64.wrap (((preM r most js m l i).length : Int) + ((finM r most js m (l.set i own)).length : Int)) = ((preM r most js m l (i + 1)).length : Int) := by rw [wrapI (by omega) (by omega), hlen]; omega
   have hrow : rowG (fun s => f s + cntK r.keep (preM r most js m l i) s + cntK r.keep (finM r most js m (l.set i own)) s) N = rowG (fun s => f s + cntK r.keep (preM r most js m l (i + 1)) s) N := rowG_congr fun s _ => by rw [hsc, cntK_app]; omega
   refine W_skip (kq7 _ _ ?_)
   refine W_seq fun kz9 kq9 => ?_
   refine W_block ?_
   refine W_seq fun kz10 kq10 => ?_
   refine W_regionN [2, 3, 4, 5, 6, 7, 13, 14, 15] 2 fun R hR => ?_
   simp only [go_sem, ldS_at hd, stX_at hd, ldS_sv hlt, stX_sv hlt, sv_ext hlt, sv_ext_sv hlt, GLw]
   try simp (disch := first | omega | (simp only [go_sem] <;> omega)) only [wrapI, wrapU, appX_exact, appX_tok]
   try simp only [go_sem, ldS_at hd, stX_at hd, ldS_sv hlt, stX_sv hlt, sv_ext hlt, sv_ext_sv hlt, GLw]
   refine ⟨_, _, Weak.gnil (t := 38) (by simp only [go_sem]), ?_⟩
   simp only [go_sem]
   rw [appG_nil (by simp [PV.cells, PV.scalar, sdPV, sdCells]) (by simp; omega) (by simp; omega)]
   simp only [go_sem, ldS_at hd, stX_at hd, ldS_sv hlt, stX_sv hlt, sv_ext hlt, sv_ext_sv hlt, GLw]
   refine hR _ _ (kq10 _ _ ?_); clear hR R; try clear kq10 kz10
   try simp only [go_sem, ldS_at hd, stX_at hd, ldS_sv hlt, stX_sv hlt, sv_ext hlt, sv_ext_sv hlt]
   refine W_seq fun kz11 kq11 => ?_
   refine W_draw [2, 3, 4, 5, 6, 7, 13, 14, 15] [0, 1, 2, 3, 4, 5, 6, 7, 8, 9] [(0, 9), (1, 9)] [[], [], [], [], [], [3, 4], [3, 4, 5], [2, 3, 4, 5, 6], [0, 1, 2, 3, 4, 5, 6, 7], [0, 1, 2, 3, 4, 5, 6, 7, 8]] mixed (by kernel_rfl) fun R hR => ?_
   simp only [go_sem, ldS_at hd, stX_at hd, ldS_sv hlt, stX_sv hlt, sv_ext hlt, sv_ext_sv hlt, hil, iaM_nat (Int.ofNat_lt.1 hil), Nat.zero_add, hld, hb1, hrp]
   refine GCall_of (PC.val (v' := sdPV own) (rMore_pc Y _ r x 0 1 hwj hwm (by omega) (by omega)) (by rw [← hown]; rfl)) ?_
   simp only [go_sem, ldS_at hd, stX_at hd, ldS_sv hlt, stX_sv hlt, sv_ext hlt, sv_ext_sv hlt, hil, iaM_nat (Int.ofNat_lt.1 hil), Nat.zero_add, hld, hb1, hrp]
   try refine And.intro (by repeat' (first | refine And.intro ?_ ?_ | exact trivial | exact GOr_right (fun _ => by simp only [go_sem, ldS_at hd, stX_at hd, ldS_sv hlt, stX_sv hlt, sv_ext hlt, sv_ext_sv hlt, hil, iaM_nat (Int.ofNat_lt.1 hil), Nat.zero_add, hld, hb1, hrp]))) ?_
   refine hR _ _ (kq11 _ _ ?_); clear hR R; try clear kq11 kz11
   try simp only [go_sem, ldS_at hd, stX_at hd, ldS_sv hlt, stX_sv hlt, sv_ext hlt, sv_ext_sv hlt]
   refine W_weak (Weak.freeze (t := 15) (id := σ.store.length + 2) (len := l.length) (es := 4) (l := (l.set i own).map sdPV) rfl (by first | (rw [get_sv2]; rfl) | (rw [Sg.get_ext]; rfl)) (by simp) (fun q hq => by obtain ⟨x, _, rfl⟩ := List.mem_map.1 hq; rfl)) ?_
   simp only [go_sem, drop_sv2, List.set_cons_succ, List.set_cons_zero]
   refine W_region [2, 3, 4, 5, 6, 7, 13, 14] fun R hR => ?_
   simp only [go_sem, ldS_at hd, stX_at hd, ldS_sv hlt, stX_sv hlt, sv_ext hlt, sv_ext_sv hlt, hmw, hww]
   try simp (disch := omega) only [wrapI, wrapU]
   refine GCall_of (ih (l.set i own) js m (fun s => f s + cntK r.keep (preM r most js m l i) s) (by omega) (by rw [← hown]; exact hW.vote hx) Y _ (by first | exact hd | exact sv_get hlt | exact get_svx hlt | exact get_extx hd)) ?_
   simp only [go_sem, ldS_at hd, stX_at hd, ldS_sv hlt, stX_sv hlt, sv_ext hlt, sv_ext_sv hlt, hmw, hww]
   try simp (disch := omega) only [wrapI, wrapU]
   refine hR _ _ (kq9 _ _ ?_); clear hR R; try clear kq9 kz9
   try simp only [go_sem, ldS_at hd, stX_at hd, ldS_sv hlt, stX_sv hlt, sv_ext hlt, sv_ext_sv hlt]
   refine W_region [2, 3, 4, 5, 6, 7, 13, 14] fun R hR => ?_
   simp only [go_sem, ldS_at hd, stX_at hd, ldS_sv hlt, stX_sv hlt, sv_ext hlt, sv_ext_sv hlt]
   try simp (disch := omega) only [wrapI, wrapU]
   refine hR _ _ ?_; clear hR R
   try simp only [go_sem, ldS_at hd, stX_at hd, ldS_sv hlt, stX_sv hlt, sv_ext hlt, sv_ext_sv hlt]
   refine ⟨i + 1, ?_, by (try simp only []); omega, ?_⟩
   ·refine Weak.trans (Weak.keep [2, 3, 4, 5, 6, 7, 13, 14]) ?_
    simp only [go_sem]
    refine Weak.trans (Weak.cutSV (σ := σ) 2 0 (by omega) (by omega) hcl (by simp only [go_sem]) (by simp only [go_sem] <;> omega) (by simp only [go_sem] <;> omega)) ?_
    simp only [go_sem]
    exact Weak.eq rfl (by rw [hrow])
   ·try dsimp only
    exact hi'
  ·try simp only [nrm] at c2
   have hie : l.length = i := by first | omega | (simp at c2; omega)
   rw [← hie, preM_all]
   refine W_exit ?_
   simp only [go_sem, ldS_at hd, stX_at hd, ldS_sv hlt, stX_sv hlt, sv_ext hlt, sv_ext_sv hlt]
   refine kq5 _ _ ?_
   refine W_seq fun kz12 kq12 => ?_
   refine W_region [12] fun R hR => ?_
   simp only [go_sem, ldS_at hd, stX_at hd, ldS_sv hlt, stX_sv hlt, sv_ext hlt, sv_ext_sv hlt]
   refine hR _ _ (kq12 _ _ ?_); clear hR R; try clear kq12 kz12
   try simp only [go_sem, ldS_at hd, stX_at hd, ldS_sv hlt, stX_sv hlt, sv_ext hlt, sv_ext_sv hlt]
   refine W_ret ?_
   simp only [go_sem, ldS_at hd, stX_at hd, ldS_sv hlt, stX_sv hlt, sv_ext hlt, sv_ext_sv hlt]
   refine ⟨.inr (by trivial), ?_⟩
   first | refine Fin_set hcl (by simp only [go_sem]) rfl (Wk_eq ?_ (by simp only [go_sem])) | refine Fin_set0 hcl (by simp only [go_sem]) rfl (Wk_eq ?_ (by simp only [go_sem]))
   try simp only [go_sem]
   all_goals
    first | rfl | (rw [hfin]; rfl) | (simp only [go_sem]; done)
 ·try simp only [nrm] at c1
  have hm0 : m = 0 := by first | omega | (simp at c1; omega)
  subst hm0
  refine W_skip (kq2 _ _ ?_)
  refine W_seq fun kz13 kq13 => ?_
  refine W_seq fun kz14 kq14 => ?_
  refine W_region [2, 4, 5, 6, 7, 16] fun R hR => ?_
  simp only [go_sem, ldS_at hd, stX_at hd, ldS_sv hlt, stX_sv hlt, sv_ext hlt, sv_ext_sv hlt]
  refine hR _ _ (kq14 _ _ ?_); clear hR R; try clear kq14 kz14
  try simp only [go_sem, ldS_at hd, stX_at hd, ldS_sv hlt, stX_sv hlt, sv_ext hlt, sv_ext_sv hlt]
  refine W_block ?_
  refine W_loopT (α := Nat) (fun (i : Nat) => [(16, I i)]) (fun (i : Nat) => σ.ext [some [I c.songs, I c.juries, I c.members, I c.most, rds c.rounds], some [I r.keep, I r.jury, I r.member]] []) (fun (i : Nat) => i ≤ N ∧ ∀ x, x ∈ js.take i → x = 0) (fun (i : Nat) => N - i) (0) rfl (by first | rfl | (simp only [go_sem]; done) | (simp only [go_sem]; rfl)) (⟨Nat.zero_le _, fun x h => absurd h (by simp)⟩) ?_
  rintro i ⟨hi, hz⟩
  refine W_seq fun kz15 kq15 => ?_
  refine W_seq fun kz16 kq16 => ?_
  refine W_region [2, 4, 5, 6, 7, 16, 64] fun R hR => ?_
  simp only [go_sem, ldS_at hd, stX_at hd, ldS_sv hlt, stX_sv hlt, sv_ext hlt, sv_ext_sv hlt]
  refine hR _ _ (kq16 _ _ ?_); clear hR R; try clear kq16 kz16
  try simp only [go_sem, ldS_at hd, stX_at hd, ldS_sv hlt, stX_sv hlt, sv_ext hlt, sv_ext_sv hlt]
  refine W_cond rfl (fun c3 => ?_) (fun c3 => ?_)
  ·try simp only [nrm] at c3
   have hi' : i < N := by first | omega | (simp at c3; omega)
   obtain ⟨j, hj⟩ : ∃ z, js[i]? = some z := ⟨js[i]'(by omega), by simp⟩
   have hij : (i : Int) < (js.length : Int) := by omega
   have hjN : i + 1 ≤ js.length := by omega
   refine W_skip (kq15 _ _ ?_)
   refine W_seq fun kz17 kq17 => ?_
   refine W_block ?_
   refine W_seq fun kz18 kq18 => ?_
   refine W_seq fun kz19 kq19 => ?_
   refine W_region [2, 4, 5, 6, 7, 16, 71] fun R hR => ?_
   simp only [go_sem, ldS_at hd, stX_at hd, ldS_sv hlt, stX_sv hlt, sv_ext hlt, sv_ext_sv hlt, hij, hj]
   refine hR _ _ (kq19 _ _ ?_); clear hR R; try clear kq19 kz19
   try simp only [go_sem, ldS_at hd, stX_at hd, ldS_sv hlt, stX_sv hlt, sv_ext hlt, sv_ext_sv hlt]
   refine W_cond rfl (fun c4 => ?_) (fun c4 => ?_)
   ·try simp only [nrm] at c4
    skip
    refine W_exit ?_
    simp only [go_sem, ldS_at hd, stX_at hd, ldS_sv hlt, stX_sv hlt, sv_ext hlt, sv_ext_sv hlt]
    refine kq17 _ _ ?_
    refine W_region [2, 4, 5, 6, 7, 16] fun R hR => ?_
    simp only [go_sem, ldS_at hd, stX_at hd, ldS_sv hlt, stX_sv hlt, sv_ext hlt, sv_ext_sv hlt]
    try simp (disch := omega) only [wrapI, wrapU]
    refine hR _ _ ?_; clear hR R
    try simp only [go_sem, ldS_at hd, stX_at hd, ldS_sv hlt, stX_sv hlt, sv_ext hlt, sv_ext_sv hlt]
    refine ⟨i + 1, ?_, by (try simp only []); omega, ?_⟩
    ·first | exact Weak.refl | exact Weak.eq (by first | rfl | (simp only [go_sem]; done) | (simp only [go_sem]; rfl) | (simp [go_sem]; done) | (simp [go_sem]; omega)) (by first | rfl | (simp only [go_sem]; done) | (simp [go_sem]; done))
    ·try dsimp only
     refine ⟨hi', fun y hy => ?_⟩
     rw [List.take_add_one, hj] at hy
     rcases List.mem_append.1 hy with h | h
     ·exact hz y h
     ·simp at h
      rw [h]; first | exact c4 | simpa using c4
   ·try simp only [nrm] at c4
    have hjne : j ≠ 0 := by first | exact c4 | simpa using c4
    have hjx := hW.nn j (List.mem_of_getElem? hj)
    have hfin := finM_jury (r := r) (most := most) (l := l) hW.nn hz hj hjne
    have hss := sum_set (y := j - 1) hj
    have hjsum := le_sumJ hW.nn hj
    have hwj1 : IntKind.i64.wrap (j - 1) = j - 1 := wrapI (by omega) (by omega)
    obtain ⟨x, hx⟩ : ∃ z, l[i]? = some z := ⟨l[i]'(by omega), by simp⟩
    have hil : (i : Int) < (l.length : Int) := by omega
    have hpx := hW.pb x (List.mem_of_getElem? hx)
    have hvx := hW.vb x (List.mem_of_getElem? hx)
    refine W_skip (kq18 _ _ ?_)
    refine W_seq fun kz20 kq20 => ?_
    refine W_region [2, 5, 6, 7, 16, 17] fun R hR => ?_
    simp only [go_sem, ldS_at hd, stX_at hd, ldS_sv hlt, stX_sv hlt, sv_ext hlt, sv_ext_sv hlt]
    refine GCall_of (IntsW_pc Y _ js .ro (by intro e; rw [e] at hj; simp at hj) (by omega)) ?_
    simp only [go_sem, ldS_at hd, stX_at hd, ldS_sv hlt, stX_sv hlt, sv_ext hlt, sv_ext_sv hlt]
    refine hR _ _ (kq20 _ _ ?_); clear hR R; try clear kq20 kz20
    try simp only [go_sem, ldS_at hd, stX_at hd, ldS_sv hlt, stX_sv hlt, sv_ext hlt, sv_ext_sv hlt]
    refine W_seq fun kz21 kq21 => ?_
    refine W_region [2, 5, 6, 7, 16, 17] fun R hR => ?_
    simp only [go_sem, ldS_at hd, stX_at hd, ldS_sv hlt, stX_sv hlt, sv_ext hlt, sv_ext_sv hlt, hij, iaM_nat (Int.ofNat_lt.1 hij), hj, hwj1, List.getElem?_map, Nat.mul_one, Nat.zero_add, hjN]
    try simp (disch := omega) only [wrapI, wrapU]
    refine hR _ _ (kq21 _ _ ?_); clear hR R; try clear kq21 kz21
    try simp only [go_sem, ldS_at hd, stX_at hd, ldS_sv hlt, stX_sv hlt, sv_ext hlt, sv_ext_sv hlt]
    refine W_seq fun kz22 kq22 => ?_
    refine W_weak (Weak.freeze (t := 17) (id := σ.store.length + 2) (len := js.length) (es := 1) (l := (js.set i (j - 1)).map I) rfl (by rw [Sg.get_ext, rowC_ints]; simp) (by simp) (fun q hq => by obtain ⟨x, _, rfl⟩ := List.mem_map.1 hq; rfl)) ?_
    simp only [go_sem]
    refine W_region [2, 5, 6, 7, 16, 17, 18] fun R hR => ?_
    simp only [go_sem, ldS_at hd, stX_at hd, ldS_sv hlt, stX_sv hlt, sv_ext hlt, sv_ext_sv hlt]
    refine hR _ _ (kq22 _ _ ?_); clear hR R; try clear kq22 kz22
    try simp only [go_sem, ldS_at hd, stX_at hd, ldS_sv hlt, stX_sv hlt, sv_ext hlt, sv_ext_sv hlt]
    refine W_seq fun kz23 kq23 => ?_
    refine W_seq fun kz24 kq24 => ?_
    refine W_region [2, 5, 6, 7, 16, 17, 18, 19] fun R hR => ?_
    simp only [go_sem, ldS_at hd, stX_at hd, ldS_sv hlt, stX_sv hlt, sv_ext hlt, sv_ext_sv hlt]
    refine hR _ _ (kq24 _ _ ?_); clear hR R; try clear kq24 kz24
    try simp only [go_sem, ldS_at hd, stX_at hd, ldS_sv hlt, stX_sv hlt, sv_ext hlt, sv_ext_sv hlt]
    refine W_block ?_
    refine W_loopT (α := Nat) (fun (p : Nat) => [(18, I (preJ r most js l i j p).length), (19, I p)]) (fun (p : Nat) => (σ.setVar mid ((rowG (fun s => f s + cntK r.keep (preJ r most js l i j p) s) N).map I)).ext [some [I c.songs, I c.juries, I c.members, I c.most, rds c.rounds], some [I r.keep, I r.jury, I r.member], none] []) (fun (p : Nat) => p ≤ most + 1) (fun (p : Nat) => most + 1 - p) (0) (by rw [preJ_zero]; rfl) (by rw [show rowG (fun s => f s + cntK r.keep (preJ r most js l i j 0) s) N = rowG f N from rowG_congr fun s _ => by rw [preJ_zero]; simp [cntK], sv_self hd]) (Nat.zero_le _) ?_
    rintro p hp
    refine W_seq fun kz25 kq25 => ?_
    refine W_seq fun kz26 kq26 => ?_
    refine W_region [2, 5, 6, 7, 16, 17, 18, 19, 83] fun R hR => ?_
    simp only [go_sem, ldS_at hd, stX_at hd, ldS_sv hlt, stX_sv hlt, sv_ext hlt, sv_ext_sv hlt]
    refine hR _ _ (kq26 _ _ ?_); clear hR R; try clear kq26 kz26
    try simp only [go_sem, ldS_at hd, stX_at hd, ldS_sv hlt, stX_sv hlt, sv_ext hlt, sv_ext_sv hlt]
    refine W_cond rfl (fun c5 => ?_) (fun c5 => ?_)
    ·try simp only [nrm] at c5
     have hp' : p < most + 1 := by first | omega | (simp at c5; omega)
     obtain ⟨own, hown⟩ : ∃ z, moreS r x p 0 = z := ⟨_, rfl⟩
     have hrl := row4_len l
     have hld := row4_ld hx
     have hrp := row4_put own (l := l) (j := i) (by omega)
     have hb1 : i * 4 + 4 ≤ (rowC (l.map sdPV)).length := by rw [hrl]; omega
     have hadd : addS r l i p 0 = l.set i own := by rw [addS_at hx, hown]
     have hsc := preJ_succ (r := r) (most := most) (js := js) (l := l) (i := i) (j := j) (p := p)
     have hle := seqF_le (g := fun p : Nat => finM r most (js.set i (j - 1)) 0 (addS r l i p 0)) (show p + 1 ≤ most + 1 by omega)
     have hle : (preJ r most js l i j (p + 1)).length ≤ (preJ r most js l i j (most + 1)).length := hle
     rw [← hfin] at hle
     rw [hadd] at hsc
     have hlen : (preJ r most js l i j (p + 1)).length = (preJ r most js l i j p).length + (finM r most (js.set i (j - 1)) 0 (l.set i own)).length := by rw [hsc, List.length_append]
     have hww : IntKind.i64.wrap (((preJ r most js l i j p).length : Int) + ((finM r most (js.set i (j - 1)) 0 (l.set i own)).length : Int)) = ((preJ r most js l i j (p + 1)).length : Int) := by rw [wrapI (by omega) (by omega), hlen]; omega
     have hrow : rowG (fun s => f s + cntK r.keep (preJ r most js l i j p) s + cntK r.keep (finM r most (js.set i (j - 1)) 0 (l.set i own)) s) N = rowG (fun s => f s + cntK r.keep (preJ r most js l i j (p + 1)) s) N := rowG_congr fun s _ => by rw [hsc, cntK_app]; omega
     refine W_skip (kq25 _ _ ?_)
     refine W_seq fun kz27 kq27 => ?_
     refine W_block ?_
     refine W_seq fun kz28 kq28 => ?_
     refine W_regionN [2, 5, 6, 7, 16, 17, 18, 19, 20] 2 fun R hR => ?_
     simp only [go_sem, ldS_at hd, stX_at hd, ldS_sv hlt, stX_sv hlt, sv_ext hlt, sv_ext_sv hlt, GLw]
     try simp (disch := first | omega | (simp only [go_sem] <;> omega)) only [wrapI, wrapU, appX_exact, appX_tok]
     try simp only [go_sem, ldS_at hd, stX_at hd, ldS_sv hlt, stX_sv hlt, sv_ext hlt, sv_ext_sv hlt, GLw]
     refine ⟨_, _, Weak.gnil (t := 86) (by simp only [go_sem]), ?_⟩
     simp only [go_sem]
     rw [appG_nil (by simp [PV.cells, PV.scalar, sdPV, sdCells]) (by simp; omega) (by simp; omega)]
     simp only [go_sem, ldS_at hd, stX_at hd, ldS_sv hlt, stX_sv hlt, sv_ext hlt, sv_ext_sv hlt, GLw]
     refine hR _ _ (kq28 _ _ ?_); clear hR R; try clear kq28 kz28
     try simp only [go_sem, ldS_at hd, stX_at hd, ldS_sv hlt, stX_sv hlt, sv_ext hlt, sv_ext_sv hlt]
     refine W_seq fun kz29 kq29 => ?_
     refine W_draw [2, 5, 6, 7, 16, 17, 18, 19, 20] [0, 1, 2, 3, 4, 5, 6, 7, 8, 9, 10] [(0, 10), (1, 10)] [[], [], [], [], [], [3, 4], [3, 4, 5], [], [2, 3, 4, 5, 6, 7], [0, 1, 2, 3, 4, 5, 6, 7, 8], [0, 1, 2, 3, 4, 5, 6, 7, 8, 9]] mixed (by kernel_rfl) fun R hR => ?_
     simp only [go_sem, ldS_at hd, stX_at hd, ldS_sv hlt, stX_sv hlt, sv_ext hlt, sv_ext_sv hlt, hil, iaM_nat (Int.ofNat_lt.1 hil), Nat.zero_add, hld, hb1, hrp]
     refine GCall_of (PC.val (v' := sdPV own) (rMore_pc Y _ r x p 0 hwj hwm (by omega) (by omega)) (by rw [← hown]; rfl)) ?_
     simp only [go_sem, ldS_at hd, stX_at hd, ldS_sv hlt, stX_sv hlt, sv_ext hlt, sv_ext_sv hlt, hil, iaM_nat (Int.ofNat_lt.1 hil), Nat.zero_add, hld, hb1, hrp]
     try refine And.intro (by repeat' (first | refine And.intro ?_ ?_ | exact trivial | exact GOr_right (fun _ => by simp only [go_sem, ldS_at hd, stX_at hd, ldS_sv hlt, stX_sv hlt, sv_ext hlt, sv_ext_sv hlt, hil, iaM_nat (Int.ofNat_lt.1 hil), Nat.zero_add, hld, hb1, hrp]))) ?_
     refine hR _ _ (kq29 _ _ ?_); clear hR R; try clear kq29 kz29
     try simp only [go_sem, ldS_at hd, stX_at hd, ldS_sv hlt, stX_sv hlt, sv_ext hlt, sv_ext_sv hlt]
     refine W_weak (Weak.freeze (t := 20) (id := σ.store.length + 3) (len := l.length) (es := 4) (l := (l.set i own).map sdPV) rfl (by first | (rw [get_sv2]; rfl) | (rw [Sg.get_ext]; rfl)) (by simp) (fun q hq => by obtain ⟨x, _, rfl⟩ := List.mem_map.1 hq; rfl)) ?_
     simp only [go_sem, drop_sv2, List.set_cons_succ, List.set_cons_zero]
     refine W_region [2, 5, 6, 7, 16, 17, 18, 19] fun R hR => ?_
     simp only [go_sem, ldS_at hd, stX_at hd, ldS_sv hlt, stX_sv hlt, sv_ext hlt, sv_ext_sv hlt, hww]
     refine GCall_of (ih (l.set i own) (js.set i (j - 1)) 0 (fun s => f s + cntK r.keep (preJ r most js l i j p) s) (by omega) (by rw [← hown]; exact hW.jury hx hz hj hjne (by omega)) Y _ (by first | exact hd | exact sv_get hlt | exact get_svx hlt | exact get_extx hd)) ?_
     simp only [go_sem, ldS_at hd, stX_at hd, ldS_sv hlt, stX_sv hlt, sv_ext hlt, sv_ext_sv hlt, hww]
     try simp (disch := omega) only [wrapI, wrapU]
     refine hR _ _ (kq27 _ _ ?_); clear hR R; try clear kq27 kz27
     try simp only [go_sem, ldS_at hd, stX_at hd, ldS_sv hlt, stX_sv hlt, sv_ext hlt, sv_ext_sv hlt]
     refine W_region [2, 5, 6, 7, 16, 17, 18, 19] fun R hR => ?_
     simp only [go_sem, ldS_at hd, stX_at hd, ldS_sv hlt, stX_sv hlt, sv_ext hlt, sv_ext_sv hlt]
     try simp (disch := omega) only [wrapI, wrapU]
     refine hR _ _ ?_; clear hR R
     try simp only [go_sem, ldS_at hd, stX_at hd, ldS_sv hlt, stX_sv hlt, sv_ext hlt, sv_ext_sv hlt]
     refine ⟨p + 1, ?_, by (try simp only []); omega, ?_⟩
     ·refine Weak.trans (Weak.keep [2, 5, 6, 7, 16, 17, 18, 19]) ?_
      simp only [go_sem]
      refine Weak.trans (Weak.cutSV (σ := σ) 3 0 (by omega) (by omega) hcl (by simp only [go_sem]) (by simp only [go_sem] <;> omega) (by simp only [go_sem] <;> omega)) ?_
      simp only [go_sem]
      exact Weak.eq rfl (by rw [hrow])
     ·try dsimp only
      exact hp'
    ·try simp only [nrm] at c5
     have hpe : most + 1 = p := by first | omega | (simp at c5; omega)
     rw [← hpe, ← hfin]
     refine W_exit ?_
     simp only [go_sem, ldS_at hd, stX_at hd, ldS_sv hlt, stX_sv hlt, sv_ext hlt, sv_ext_sv hlt]
     refine kq23 _ _ ?_
     refine W_seq fun kz30 kq30 => ?_
     refine W_region [12] fun R hR => ?_
     simp only [go_sem, ldS_at hd, stX_at hd, ldS_sv hlt, stX_sv hlt, sv_ext hlt, sv_ext_sv hlt]
     refine hR _ _ (kq30 _ _ ?_); clear hR R; try clear kq30 kz30
     try simp only [go_sem, ldS_at hd, stX_at hd, ldS_sv hlt, stX_sv hlt, sv_ext hlt, sv_ext_sv hlt]
     refine W_ret ?_
     simp only [go_sem, ldS_at hd, stX_at hd, ldS_sv hlt, stX_sv hlt, sv_ext hlt, sv_ext_sv hlt]
     refine ⟨.inr (by trivial), ?_⟩
     first | refine Fin_set hcl (by simp only [go_sem]) rfl (Wk_eq ?_ (by simp only [go_sem])) | refine Fin_set0 hcl (by simp only [go_sem]) rfl (Wk_eq ?_ (by simp only [go_sem]))
     try simp only [go_sem]
     all_goals
      first | rfl | (rw [hfin]; rfl) | (simp only [go_sem]; done)
  ·try simp only [nrm] at c3
   have hie : js.length = i := by first | omega | (simp at c3; omega)
   rw [← hie, List.take_length] at hz
   have hfin := finM_base (r := r) (most := most) (l := l) hz
   refine W_exit ?_
   simp only [go_sem, ldS_at hd, stX_at hd, ldS_sv hlt, stX_sv hlt, sv_ext hlt, sv_ext_sv hlt]
   refine kq13 _ _ ?_
   refine W_seq fun kz31 kq31 => ?_
   refine W_seq fun kz32 kq32 => ?_
   refine W_region [2, 5, 7, 21] fun R hR => ?_
   simp only [go_sem, ldS_at hd, stX_at hd, ldS_sv hlt, stX_sv hlt, sv_ext hlt, sv_ext_sv hlt]
   refine hR _ _ (kq32 _ _ ?_); clear hR R; try clear kq32 kz32
   try simp only [go_sem, ldS_at hd, stX_at hd, ldS_sv hlt, stX_sv hlt, sv_ext hlt, sv_ext_sv hlt]
   refine W_block ?_
   refine W_loopT (α := Nat) (fun (i : Nat) => [(21, I i)]) (fun (i : Nat) => (σ.setVar mid ((rowG (fun s => f s + (if s < i then cntK r.keep [l] s else 0)) N).map I)).ext [some [I c.songs, I c.juries, I c.members, I c.most, rds c.rounds], some [I r.keep, I r.jury, I r.member]] []) (fun (i : Nat) => i ≤ N) (fun (i : Nat) => N - i) (0) rfl (by rw [show rowG (fun s => f s + (if s < 0 then cntK r.keep [l] s else 0)) N = rowG f N from rowG_congr fun s _ => by rw [if_neg (by omega), Int.add_zero], sv_self hd]) (Nat.zero_le _) ?_
   rintro i hi
   refine W_seq fun kz33 kq33 => ?_
   refine W_seq fun kz34 kq34 => ?_
   refine W_region [2, 5, 7, 21, 111] fun R hR => ?_
   simp only [go_sem, ldS_at hd, stX_at hd, ldS_sv hlt, stX_sv hlt, sv_ext hlt, sv_ext_sv hlt]
   refine hR _ _ (kq34 _ _ ?_); clear hR R; try clear kq34 kz34
   try simp only [go_sem, ldS_at hd, stX_at hd, ldS_sv hlt, stX_sv hlt, sv_ext hlt, sv_ext_sv hlt]
   refine W_cond rfl (fun c6 => ?_) (fun c6 => ?_)
   ·try simp only [nrm] at c6
    have hi' : i < N := by first | omega | (simp at c6; omega)
    obtain ⟨x, hx⟩ : ∃ z, l[i]? = some z := ⟨l[i]'(by omega), by simp⟩
    have hil : (i : Int) < (l.length : Int) := by omega
    have hpx := hW.pb x (List.mem_of_getElem? hx)
    have hvx := hW.vb x (List.mem_of_getElem? hx)
    have hiN : (i : Int) < (N : Int) := by omega
    have hiN1 : i + 1 ≤ N := by omega
    have hfx := hW.fb i hi'
    have hwf : IntKind.i64.wrap (f i + 1) = f i + 1 := wrapI (by omega) (by omega)
    have hrl2 := rowG_len (fun s => f s + (if s < i then cntK r.keep [l] s else 0)) N
    have hrb := rowG_get (f := fun s => f s + (if s < i then cntK r.keep [l] s else 0)) hi'
    rw [if_neg (by omega), Int.add_zero] at hrb
    refine W_skip (kq33 _ _ ?_)
    refine W_seq fun kz35 kq35 => ?_
    refine W_block ?_
    refine W_seq fun kz36 kq36 => ?_
    refine W_region [2, 5, 7, 21, 118] fun R hR => ?_
    simp only [go_sem, ldS_at hd, stX_at hd, ldS_sv hlt, stX_sv hlt, sv_ext hlt, sv_ext_sv hlt, hil, hx]
    refine GCall_of (rKept_pc Y _ l i x r.keep .ro hx (by omega)) ?_
    simp only [go_sem, ldS_at hd, stX_at hd, ldS_sv hlt, stX_sv hlt, sv_ext hlt, sv_ext_sv hlt, hil, hx]
    refine hR _ _ (kq36 _ _ ?_); clear hR R; try clear kq36 kz36
    try simp only [go_sem, ldS_at hd, stX_at hd, ldS_sv hlt, stX_sv hlt, sv_ext hlt, sv_ext_sv hlt]
    refine W_cond rfl (fun c7 => ?_) (fun c7 => ?_)
    ·try simp only [nrm] at c7
     have hkI : cntK r.keep [l] i = 1 := by simp only [cntK, keptI, List.countP_cons, List.countP_nil, hx]; rw [if_pos (decide_eq_true c7)]; rfl
     have hrs : (rowG (fun s => f s + (if s < i then cntK r.keep [l] s else 0)) N).set i (f i + 1) = rowG (fun s => f s + (if s < i + 1 then cntK r.keep [l] s else 0)) N := by
      rw [rowG_set]
      refine rowG_congr fun y _ => ?_
      by_cases e : y = i
      ·subst e; rw [if_pos rfl, if_pos (by omega), hkI]
      ·by_cases q : y < i
       ·rw [if_neg e, if_pos q, if_pos (by omega)]
       ·rw [if_neg e, if_neg q, if_neg (by omega)]
     refine W_region [2, 5, 7, 21] fun R hR => ?_
     simp only [go_sem, ldS_at hd, stX_at hd, ldS_sv hlt, stX_sv hlt, sv_ext hlt, sv_ext_sv hlt, ldS_at (get_svx hlt), stX_old (hlt2 _), stX_sv hlt, sv_sv, hiN, hiN1, hrb, hrl2, hwf, List.getElem?_map, Nat.mul_one, Nat.zero_add, hrs]
     try simp (disch := omega) only [wrapI, wrapU]
     refine hR _ _ (kq35 _ _ ?_); clear hR R; try clear kq35 kz35
     try simp only [go_sem, ldS_at hd, stX_at hd, ldS_sv hlt, stX_sv hlt, sv_ext hlt, sv_ext_sv hlt]
     refine W_region [2, 5, 7, 21] fun R hR => ?_
     simp only [go_sem, ldS_at hd, stX_at hd, ldS_sv hlt, stX_sv hlt, sv_ext hlt, sv_ext_sv hlt]
     try simp (disch := omega) only [wrapI, wrapU]
     refine hR _ _ ?_; clear hR R
     try simp only [go_sem, ldS_at hd, stX_at hd, ldS_sv hlt, stX_sv hlt, sv_ext hlt, sv_ext_sv hlt]
     refine ⟨i + 1, ?_, by (try simp only []); omega, ?_⟩
     ·first | exact Weak.eq rfl rfl | exact Weak.eq rfl (by rw [hrs])
     ·try dsimp only
      exact hi'
    ·try simp only [nrm] at c7
     have hkI : cntK r.keep [l] i = 0 := by simp only [cntK, keptI, List.countP_cons, List.countP_nil, hx]; rw [if_neg (by simpa using c7)]; rfl
     have hrs : rowG (fun s => f s + (if s < i then cntK r.keep [l] s else 0)) N = rowG (fun s => f s + (if s < i + 1 then cntK r.keep [l] s else 0)) N := by
      refine rowG_congr fun y _ => ?_
      by_cases e : y = i
      ·subst e; rw [if_neg (by omega), if_pos (by omega), hkI]
      ·by_cases q : y < i
       ·rw [if_pos q, if_pos (by omega)]
       ·rw [if_neg q, if_neg (by omega)]
     refine W_skip (kq35 _ _ ?_)
     refine W_region [2, 5, 7, 21] fun R hR => ?_
     simp only [go_sem, ldS_at hd, stX_at hd, ldS_sv hlt, stX_sv hlt, sv_ext hlt, sv_ext_sv hlt]
     try simp (disch := omega) only [wrapI, wrapU]
     refine hR _ _ ?_; clear hR R
     try simp only [go_sem, ldS_at hd, stX_at hd, ldS_sv hlt, stX_sv hlt, sv_ext hlt, sv_ext_sv hlt]
     refine ⟨i + 1, ?_, by (try simp only []); omega, ?_⟩
     ·first | exact Weak.eq rfl rfl | exact Weak.eq rfl (by rw [hrs])
     ·try dsimp only
      exact hi'
   ·try simp only [nrm] at c6
    have hie : N = i := by first | omega | (simp at c6; omega)
    have hro : rowG (fun s => f s + (if s < N then cntK r.keep [l] s else 0)) N = rowG (fun s => f s + cntK r.keep [l] s) N := rowG_congr fun s hs => by rw [if_pos hs]
    rw [← hie, hro, ← hfin]
    refine W_exit ?_
    simp only [go_sem, ldS_at hd, stX_at hd, ldS_sv hlt, stX_sv hlt, sv_ext hlt, sv_ext_sv hlt]
    refine kq31 _ _ ?_
    refine W_seq fun kz37 kq37 => ?_
    refine W_region [12] fun R hR => ?_
    simp only [go_sem, ldS_at hd, stX_at hd, ldS_sv hlt, stX_sv hlt, sv_ext hlt, sv_ext_sv hlt]
    refine hR _ _ (kq37 _ _ ?_); clear hR R; try clear kq37 kz37
    try simp only [go_sem, ldS_at hd, stX_at hd, ldS_sv hlt, stX_sv hlt, sv_ext hlt, sv_ext_sv hlt]
    refine W_ret ?_
    simp only [go_sem, ldS_at hd, stX_at hd, ldS_sv hlt, stX_sv hlt, sv_ext hlt, sv_ext_sv hlt]
    refine ⟨.inr (by trivial), ?_⟩
    first | refine Fin_set hcl (by simp only [go_sem]) rfl (Wk_eq ?_ (by simp only [go_sem])) | refine Fin_set0 hcl (by simp only [go_sem]) rfl (Wk_eq ?_ (by simp only [go_sem]))
    try simp only [go_sem]
    all_goals
     first | rfl | (rw [hfin]; rfl) | (simp only [go_sem]; done)
theorem ways_pc (c : Contest) (r : Rnd) (most N mid : Nat) : ∀ (k : Nat) (l : List Std) (js : List Int) (m : Nat) (f : Nat → Int), m + js.sum.toNat < k → WOk c r most N l js m f → ∀ (Y : YEnv) (σ : Sg), σ.store[mid]? = some (some ((rowG f N).map I)) → PC Tryz.prog Y 14 [cnPV c, rdPV r, sds (l), I (m : Nat), ints (js), .msl mid 0 N] σ (I ((finM r most (js) (m) (l)).length : Nat)) (σ.setVar mid ((rowG (fun s => (f) s + cntK r.keep (finM r most (js) (m) (l)) s) N).map I)) := by
 intro k
 induction k with
 | zero => intro l js m f h; omega
 | succ k ih =>
  intro l js m f h hW Y σ hd
  exact ways_step Y σ c r most N mid l js m f hW hd fun l' js' m' f' h' hW' Y σ hd' => ih l' js' m' f' (by omega) hW' Y σ hd'
def give (r : Rnd) (l : List Std) (p v : Int → Int) : List Std := l.map fun x => moreS r x (p x.song) (v x.song)
def sumV (l : List Std) (v : Int → Int) : Int := (l.map fun x => v x.song).sum
def bump (v : Int → Int) (s d : Int) : Int → Int := fun x => if x = s then v x + d else v x
def Sc (r : Rnd) (l : List Std) : Prop := ∀ x, x ∈ l → moreS r x 0 0 = x
section
variable {r : Rnd} {most : Nat} {js : List Int} {m : Nat} {l : List Std} {i : Nat} {x : Std} {p v : Int → Int} {a b : Int}
theorem moreS2 {a b a' b' : Int} : moreS r (moreS r x a b) a' b' = moreS r x (a + a') (b + b') := by simp [moreS, weighS, Int.add_assoc]
theorem song_ne (hn : (l.map (·.song)).Nodup) (hx : l[i]? = some x) {k : Nat} {y : Std} (hy : l[k]? = some y) (hne : i ≠ k) : y.song ≠ x.song := fun e => by
 obtain ⟨h1, h2⟩ := List.getElem?_eq_some_iff.1 hx
 obtain ⟨h3, h4⟩ := List.getElem?_eq_some_iff.1 hy
 exact hne ((List.getElem_inj hn (h₀ := by simpa using h1) (h₁ := by simpa using h3)).1 (by simp [h2, h4, e]))
theorem song_set (hx : l[i]? = some x) : (l.set i (moreS r x a b)).map (·.song) = l.map (·.song) := by
 apply List.ext_getElem?
 intro k
 rw [List.getElem?_map, List.getElem?_map, List.getElem?_set]
 by_cases e : i = k
 ·subst e
  rw [if_pos rfl, if_pos (List.getElem?_eq_some_iff.1 hx).1, hx]
  rfl
 ·rw [if_neg e]
theorem give_set (hn : (l.map (·.song)).Nodup) (hx : l[i]? = some x) : give r (l.set i (moreS r x a b)) p v = give r l (bump p x.song a) (bump v x.song b) := by
 unfold give
 apply List.ext_getElem?
 intro k
 rw [List.getElem?_map, List.getElem?_map, List.getElem?_set]
 by_cases e : i = k
 ·subst e
  rw [if_pos rfl, if_pos (List.getElem?_eq_some_iff.1 hx).1, hx]
  simp only [Option.map_some, Option.some.injEq, bump, if_true]
  rw [moreS2, Int.add_comm a, Int.add_comm b]
  rfl
 ·rw [if_neg e]
  cases hy : l[k]? with
  | none => rfl
  | some y =>
   have := song_ne hn hx hy e
   simp only [Option.map_some, bump, if_neg this]
theorem bump0 {s : Int} : bump v s 0 = v := by funext y; unfold bump; split <;> omega
theorem sc_set (hS : Sc r l) : Sc r (l.set i (moreS r x a b)) := fun y hy => by
 rcases List.mem_or_eq_of_mem_set hy with hy | rfl
 ·exact hS y hy
 ·rw [moreS2, Int.add_zero, Int.add_zero]
theorem give_zero (hS : Sc r l) (hp : ∀ y, y ∈ l → p y.song = 0) (hv : ∀ y, y ∈ l → v y.song = 0) : give r l p v = l := by
 unfold give
 refine (List.map_congr_left fun y hy => ?_).trans (List.map_id l)
 rw [hp y hy, hv y hy, hS y hy]
 rfl
theorem firstJ_spec : ∀ {js : List Int} {i : Nat}, firstJ js = some i → ∃ j, js[i]? = some j ∧ j ≠ 0 := by
 intro js
 induction js with
 | nil => intro i h; cases h
 | cons y js ih =>
  intro i h
  simp only [firstJ] at h
  by_cases e : y = 0
  ·rw [if_pos e] at h
   cases hf : firstJ js with
   | none => rw [hf] at h; cases h
   | some k =>
    rw [hf] at h
    simp only [Option.map_some, Option.some.injEq] at h
    subst h
    exact ih hf
  ·rw [if_neg e] at h
   injection h with h
   subst h
   exact ⟨y, rfl, e⟩
theorem firstJ_zero : ∀ {js : List Int}, firstJ js = none → ∀ y, y ∈ js → y = 0 := by
 intro js
 induction js with
 | nil => intro _ y h; cases h
 | cons z js ih =>
  intro h y hy
  simp only [firstJ] at h
  by_cases e : z = 0
  ·rw [if_pos e] at h
   cases hf : firstJ js with
   | none =>
    rcases List.mem_cons.1 hy with rfl | hy
    ·exact e
    ·exact ih hf y hy
   | some k => rw [hf] at h; cases h
  ·rw [if_neg e] at h; cases h
theorem mem_seqF {α : Type} {g : Nat → List α} {n : Nat} {y : α} : y ∈ seqF g n ↔ ∃ q, q < n ∧ y ∈ g q := by
 unfold seqF
 rw [List.mem_flatMap]
 constructor
 ·rintro ⟨q, h1, h2⟩; exact ⟨q, List.mem_range.1 h1, h2⟩
 ·rintro ⟨q, h1, h2⟩; exact ⟨q, List.mem_range.2 h1, h2⟩
def PtsOk (most : Nat) (js : List Int) (l : List Std) (p : Int → Int) : Prop := ∀ (i : Nat) (x : Std) (j : Int), l[i]? = some x → js[i]? = some j → 0 ≤ p x.song ∧ p x.song ≤ j * most
theorem finJ_sound : ∀ (k : Nat) (js : List Int) (l l' : List Std), (l.map (·.song)).Nodup → Sc r l → js.length = l.length → (∀ j, j ∈ js → 0 ≤ j) → l' ∈ finJ r most k js l → ∃ p, l' = give r l p (fun _ => 0) ∧ PtsOk most js l p := by
 intro k
 have hbase : ∀ (js : List Int) (l : List Std), Sc r l → (∀ j, j ∈ js → 0 ≤ j) → ∃ p, l = give r l p (fun _ => 0) ∧ PtsOk most js l p := fun js l hS hj => ⟨fun _ => 0, (give_zero hS (fun _ _ => rfl) (fun _ _ => rfl)).symm, fun i x j _ h2 => ⟨Int.le_refl _, Int.mul_nonneg (hj j (List.mem_of_getElem? h2)) (by omega)⟩⟩
 induction k with
 | zero =>
  intro js l l' hn hS hl hj h
  simp only [finJ, List.mem_singleton] at h
  subst h
  exact hbase js l' hS hj
 | succ k ih =>
  intro js l l' hn hS hl hj h
  simp only [finJ] at h
  split at h
  ·simp only [List.mem_singleton] at h
   subst h
   exact hbase js l' hS hj
  ·rename_i i hf
   obtain ⟨j, hji, hj0⟩ := firstJ_spec hf
   have hil : i < l.length := by rw [← hl]; exact (List.getElem?_eq_some_iff.1 hji).1
   obtain ⟨x, hx⟩ : ∃ z, l[i]? = some z := ⟨l[i], by simp [hil]⟩
   obtain ⟨q, hq, h⟩ := mem_seqF.1 h
   have hjd : js.getD i 0 = j := by rw [List.getD_eq_getElem?_getD, hji]; rfl
   rw [addS_at hx, hjd] at h
   have hjp := hj j (List.mem_of_getElem? hji)
   obtain ⟨p', h1, h2⟩ := ih (js.set i (j - 1)) (l.set i (moreS r x q 0)) l' (by rw [song_set hx]; exact hn) (sc_set hS) (by simp [hl]) (fun y hy => by
    rcases List.mem_or_eq_of_mem_set hy with hy | rfl
    ·exact hj y hy
    ·omega) h
   rw [give_set hn hx, bump0] at h1
   refine ⟨_, h1, fun i' x' j' hx' hj' => ?_⟩
   by_cases e : i = i'
   ·subst e
    rw [hx] at hx'
    injection hx' with hx'
    subst hx'
    rw [hji] at hj'
    injection hj' with hj'
    subst hj'
    have := h2 i (moreS r x q 0) (j - 1) (by rw [List.getElem?_set_self hil]) (by rw [List.getElem?_set_self (by omega)])
    have e3 : (moreS r x q 0).song = x.song := rfl
    rw [e3, Int.sub_mul] at this
    simp only [bump, if_true]
    omega
   ·have hne := song_ne hn hx hx' e
    have := h2 i' x' j' (by rw [List.getElem?_set_ne e]; exact hx') (by rw [List.getElem?_set_ne e]; exact hj')
    simp only [bump, if_neg hne]
    exact this
theorem sumV_songs {l l' : List Std} (h : l.map (·.song) = l'.map (·.song)) : sumV l v = sumV l' v := by
 unfold sumV
 rw [show (l.map fun x => v x.song) = (l.map (·.song)).map v by rw [List.map_map]; rfl, h, List.map_map]
 rfl
theorem sumV_bump {s d : Int} : ∀ {l : List Std}, (l.map (·.song)).Nodup → sumV l (bump v s d) = sumV l v + (if s ∈ l.map (·.song) then d else 0) := by
 intro l
 induction l with
 | nil => intro _; simp [sumV]
 | cons y l ih =>
  intro hn
  rw [List.map_cons] at hn
  obtain ⟨h1, h2⟩ := List.nodup_cons.1 hn
  have := ih h2
  simp only [sumV, List.map_cons, List.sum_cons, List.mem_cons] at this ⊢
  by_cases e : y.song = s
  ·subst e
   rw [if_neg h1] at this
   rw [if_pos (.inl rfl)]
   simp only [bump, if_true] at this ⊢
   omega
  ·have e2 : ¬ s = y.song := fun h => e h.symm
   by_cases q : s ∈ l.map (·.song)
   ·rw [if_pos q] at this
    rw [if_pos (.inr q)]
    have e3 : bump v s d y.song = v y.song := by unfold bump; rw [if_neg e]
    rw [e3]
    omega
   ·rw [if_neg q] at this
    rw [if_neg (by intro h; rcases h with h | h; exact e2 h; exact q h)]
    have e3 : bump v s d y.song = v y.song := by unfold bump; rw [if_neg e]
    rw [e3]
    omega
theorem sumV_zero : ∀ l : List Std, sumV l (fun _ => 0) = 0 := by
 intro l
 unfold sumV
 induction l with
 | nil => rfl
 | cons y l ih => rw [List.map_cons, List.sum_cons, ih]; rfl
theorem mem_song (hx : l[i]? = some x) : x.song ∈ l.map (·.song) := List.mem_map.2 ⟨x, List.mem_of_getElem? hx, rfl⟩
theorem finM_sound : ∀ (m : Nat) (l l' : List Std), (l.map (·.song)).Nodup → Sc r l → js.length = l.length → (∀ j, j ∈ js → 0 ≤ j) → l' ∈ finM r most js m l → ∃ p v, l' = give r l p v ∧ PtsOk most js l p ∧ (∀ s, 0 ≤ v s) ∧ sumV l v ≤ m := by
 intro m
 induction m with
 | zero =>
  intro l l' hn hS hl hj h
  obtain ⟨p, h1, h2⟩ := finJ_sound _ js l l' hn hS hl hj h
  refine ⟨p, _, h1, h2, fun _ => Int.le_refl _, ?_⟩
  rw [sumV_zero]
  omega
 | succ m ih =>
  intro l l' hn hS hl hj h
  simp only [finM] at h
  rcases List.mem_append.1 h with h | h
  ·obtain ⟨p, v, h1, h2, h3, h4⟩ := ih l l' hn hS hl hj h
   exact ⟨p, v, h1, h2, h3, by omega⟩
  ·obtain ⟨i, hi, h⟩ := mem_seqF.1 h
   obtain ⟨x, hx⟩ : ∃ z, l[i]? = some z := ⟨l[i], by simp [hi]⟩
   rw [addS_at hx] at h
   obtain ⟨p, v, h1, h2, h3, h4⟩ := ih (l.set i (moreS r x 0 1)) l' (by rw [song_set hx]; exact hn) (sc_set hS) (by simp [hl]) hj h
   rw [give_set hn hx, bump0] at h1
   rw [sumV_songs (song_set hx)] at h4
   refine ⟨p, _, h1, fun i' x' j' hx' hj' => ?_, fun s => ?_, ?_⟩
   ·by_cases e : i = i'
    ·subst e
     rw [hx] at hx'
     injection hx' with hx'
     subst hx'
     exact h2 i (moreS r x 0 1) j' (by rw [List.getElem?_set_self hi]) hj'
    ·exact h2 i' x' j' (by rw [List.getElem?_set_ne e]; exact hx') hj'
   ·have := h3 s
    unfold bump
    split <;> omega
   ·rw [sumV_bump hn, if_pos (mem_song hx)]
    omega
theorem sum_zero {g : Std → Int} : ∀ {l : List Std}, (∀ x, x ∈ l → 0 ≤ g x) → (l.map g).sum ≤ 0 → ∀ x, x ∈ l → g x = 0 := by
 intro l h hs x hx
 have := mem_le_sum h hx
 have := h x hx
 omega
theorem map_set {J : Int → Int} (hn : (l.map (·.song)).Nodup) (hx : l[i]? = some x) : (l.map fun x => J x.song).set i (J x.song - 1) = (l.set i (moreS r x a b)).map fun y => bump J x.song (-1) y.song := by
 apply List.ext_getElem?
 intro k
 rw [List.getElem?_map, List.getElem?_set, List.getElem?_set, List.getElem?_map, List.length_map]
 by_cases e : i = k
 ·subst e
  rw [if_pos rfl, if_pos rfl, if_pos (List.getElem?_eq_some_iff.1 hx).1, if_pos (List.getElem?_eq_some_iff.1 hx).1]
  simp only [Option.map_some, Option.some.injEq]
  show _ = bump J x.song (-1) x.song
  simp only [bump, if_true]
  omega
 ·rw [if_neg e, if_neg e]
  cases hy : l[k]? with
  | none => rfl
  | some y =>
   have := song_ne hn hx hy e
   simp only [Option.map_some, bump, if_neg this]
theorem finJ_full (pick : Int → Bool) : ∀ (k : Nat) (l : List Std) (J : Int → Int), (l.map (·.song)).Nodup → Sc r l → (∀ x, x ∈ l → 0 ≤ J x.song) → (l.map fun x => J x.song).sum.toNat = k → give r l (fun s => if pick s = true then J s * most else 0) (fun _ => 0) ∈ finJ r most k (l.map fun x => J x.song) l := by
 intro k
 have hbase : ∀ (l : List Std) (J : Int → Int), Sc r l → (∀ x, x ∈ l → J x.song = 0) → give r l (fun s => if pick s = true then J s * most else 0) (fun _ => 0) = l := fun l J hS h => give_zero hS (fun y hy => by simp only [h y hy, Int.zero_mul, ite_self]) fun _ _ => rfl
 induction k with
 | zero =>
  intro l J hn hS hJ hk
  simp only [finJ, List.mem_singleton]
  exact hbase l J hS (sum_zero hJ (by omega))
 | succ k ih =>
  intro l J hn hS hJ hk
  simp only [finJ]
  cases hf : firstJ (l.map fun x => J x.song) with
  | none =>
   simp only [List.mem_singleton]
   exact hbase l J hS fun x hx => firstJ_zero hf _ (List.mem_map.2 ⟨x, hx, rfl⟩)
  | some i =>
   obtain ⟨j, hji, hj0⟩ := firstJ_spec hf
   rw [List.getElem?_map] at hji
   cases hx : l[i]? with
   | none => rw [hx] at hji; cases hji
   | some x =>
    rw [hx] at hji
    simp only [Option.map_some, Option.some.injEq] at hji
    subst hji
    have hxJ := hJ x (List.mem_of_getElem? hx)
    have hjm : (l.map fun x => J x.song)[i]? = some (J x.song) := by rw [List.getElem?_map, hx]; rfl
    have hjd : (l.map fun x => J x.song).getD i 0 = J x.song := by rw [List.getD_eq_getElem?_getD, hjm]; rfl
    simp only [hjd]
    obtain ⟨q, hq⟩ : ∃ q : Nat, q = if pick x.song = true then most else 0 := ⟨_, rfl⟩
    have hqm : q < most + 1 := by rw [hq]; split <;> omega
    refine mem_seqF.2 ⟨q, hqm, ?_⟩
    rw [addS_at hx]
    have hms := map_set (r := r) (a := q) (b := 0) (J := J) hn hx
    have hsum := sum_set (y := J x.song - 1) hjm
    rw [hms] at hsum ⊢
    have h1 := ih (l.set i (moreS r x q 0)) (bump J x.song (-1)) (by rw [song_set hx]; exact hn) (sc_set hS) (fun y hy => by
     rcases List.mem_or_eq_of_mem_set hy with hy | rfl
     ·have := hJ y hy
      unfold bump
      split
      ·rename_i e; rw [e]; omega
      ·exact this
     ·show 0 ≤ bump J x.song (-1) x.song
      simp only [bump, if_true]
      omega) (by omega)
    rw [give_set hn hx, bump0] at h1
    have e : bump (fun s => if pick s = true then bump J x.song (-1) s * (most : Int) else 0) x.song q = fun s => if pick s = true then J s * most else 0 := by
     funext s
     by_cases es : s = x.song
     ·subst es
      simp only [bump, if_true]
      rw [hq]
      by_cases hp : pick x.song = true
      ·rw [if_pos hp, if_pos hp, if_pos hp, Int.add_mul]; omega
      ·rw [if_neg hp, if_neg hp, if_neg hp]; rfl
     ·simp only [bump, if_neg es]
    rw [e] at h1
    exact h1
theorem finM_full {P : Int → Int} (hJ : ∀ l' : List Std, l'.map (·.song) = l.map (·.song) → Sc r l' → give r l' P (fun _ => 0) ∈ finM r most js 0 l') : ∀ (m : Nat) (l' : List Std) (v : Int → Int), l'.map (·.song) = l.map (·.song) → (l.map (·.song)).Nodup → Sc r l' → (∀ s, 0 ≤ v s) → sumV l' v ≤ m → give r l' P v ∈ finM r most js m l' := by
 intro m
 induction m with
 | zero =>
  intro l' v hs hn hS hv hm
  have h0 := sum_zero (g := fun x => v x.song) (fun x _ => hv x.song) (l := l') (by unfold sumV at hm; omega)
  have : give r l' P v = give r l' P (fun _ => 0) := List.map_congr_left fun x hx => by rw [h0 x hx]
  rw [this]
  exact hJ l' hs hS
 | succ m ih =>
  intro l' v hs hn hS hv hm
  simp only [finM]
  by_cases h : sumV l' v ≤ m
  ·exact List.mem_append_left _ (ih l' v hs hn hS hv h)
  ·refine List.mem_append_right _ ?_
   have hex : ∃ x, x ∈ l' ∧ 0 < v x.song := by
    refine Classical.byContradiction fun hc => h ?_
    have h0 : ∀ x, x ∈ l' → v x.song = 0 := fun x hx => by
     have := hv x.song
     have : ¬ 0 < v x.song := fun q => hc ⟨x, hx, q⟩
     omega
    have : sumV l' v = sumV l' (fun _ => 0) := by unfold sumV; rw [List.map_congr_left h0]
    rw [this, sumV_zero]
    omega
   obtain ⟨x, hx0, hvx⟩ := hex
   obtain ⟨i, hx⟩ := List.mem_iff_getElem?.1 hx0
   have hn' : (l'.map (·.song)).Nodup := by rw [hs]; exact hn
   refine mem_seqF.2 ⟨i, (List.getElem?_eq_some_iff.1 hx).1, ?_⟩
   rw [addS_at hx]
   have h1 := ih (l'.set i (moreS r x 0 1)) (bump v x.song (-1)) (by rw [song_set hx]; exact hs) hn (sc_set hS) (fun s => by
    have := hv s
    unfold bump
    split
    ·rename_i e; rw [e]; omega
    ·exact this) (by
    rw [sumV_songs (song_set hx), sumV_bump hn', if_pos (mem_song hx)]
    omega)
   rw [give_set hn' hx, bump0] at h1
   have e : bump (bump v x.song (-1)) x.song 1 = v := by
    funext s
    unfold bump
    split <;> omega
   rw [e] at h1
   exact h1
end
theorem cntA_countP {t : Tally} {own : Std} {s : Int} : ∀ {l : List Int}, cntA t own s l = (l.countP (fun x => decide (x ≠ s ∧ Ahd (stdT t x 0 0) own)) : Nat) := by
 intro l
 induction l with
 | nil => rfl
 | cons x l ih =>
  simp only [cntA, List.countP_cons, decide_eq_true_eq, ih]
  by_cases h : x ≠ s ∧ Ahd (stdT t x 0 0) own
  ·rw [if_pos h, if_pos (show x ≠ s ∧ aheadS (stdT t x 0 0) own < 0 from h)]; omega
  ·rw [if_neg h, if_neg (show ¬ (x ≠ s ∧ aheadS (stdT t x 0 0) own < 0) from h)]; omega
theorem sum_sub {g : Int → Int} {l1 l2 : List Int} (h : l1.Sublist l2) (hg : ∀ x, x ∈ l2 → 0 ≤ g x) : (l1.map g).sum ≤ (l2.map g).sum := by
 induction h with
 | slnil => exact Int.le_refl _
 | cons a _ ih =>
  have := ih fun x hx => hg x (by simp [hx])
  have := hg a (by simp)
  simp only [List.map_cons, List.sum_cons]
  omega
 | cons_cons a _ ih =>
  have := ih fun x hx => hg x (by simp [hx])
  simp only [List.map_cons, List.sum_cons]
  omega
section
variable {t : Tally} {c : Contest} {p v : Int → Int} {i : Nat} {s : Int}
def finT (t : Tally) (p v : Int → Int) : List Std := t.songs.map fun x => stdT t x (p x) (v x)
theorem give_fin : give t.rd (allT t) p v = finT t p v := by
 unfold give finT allT
 rw [List.map_map]
 refine List.map_congr_left fun x _ => ?_
 show moreS t.rd (stdT t x 0 0) (p x) (v x) = _
 exact more_std
theorem allT_sc : Sc t.rd (allT t) := fun x hx => by
 obtain ⟨s, _, rfl⟩ := List.mem_map.1 hx
 exact more_std
theorem allT_nd (h : t.songs.Nodup) : ((allT t).map (·.song)).Nodup := by rw [allT_song]; exact h
theorem allT_jur : t.songs.map (jurT t c) = (allT t).map fun x => jurT t c x.song := by
 unfold allT
 rw [List.map_map]
 rfl
theorem rank_fin {own : Std} : rank (finT t p v) own = t.songs.countP fun x => decide (Ahd (stdT t x (p x) (v x)) own) := by
 unfold rank finT
 rw [List.countP_map]
 rfl
theorem kept_fin (hs : t.songs[i]? = some s) : keptI t.rd.keep (finT t p v) i = decide (((t.songs.countP fun x => decide (Ahd (stdT t x (p x) (v x)) (stdT t s (p s) (v s))) : Nat) : Int) < t.rd.keep) := by
 unfold keptI
 have : (finT t p v)[i]? = some (stdT t s (p s) (v s)) := by unfold finT; rw [List.getElem?_map, hs]; rfl
 simp only [this]
 rw [rank_fin]
theorem may_of_fin (hT : TlB t) (hs : t.songs[i]? = some s) {w : Int} (h1 : p s ≤ openT t c s) (h2 : v s ≤ w) (h3 : ∀ x, x ∈ t.songs → x ≠ s → 0 ≤ p x ∧ 0 ≤ v x) (h : keptI t.rd.keep (finT t p v) i = true) : mayT t c s w = true := by
 rw [kept_fin hs] at h
 have h := of_decide_eq_true h
 unfold mayT
 refine decide_eq_true ?_
 rw [cntA_countP]
 refine Int.lt_of_le_of_lt (Int.ofNat_le.2 (List.countP_mono_left fun x hx hq => ?_)) h
 obtain ⟨q1, q2⟩ := of_decide_eq_true hq
 have := h3 x hx q1
 exact decide_eq_true (q2.bet (std_bet rfl hT.wj.1 hT.wm.1 (by omega) (by omega)) (std_bet rfl hT.wj.1 hT.wm.1 (by omega) (by omega)))
theorem fin_of_may (hs : t.songs[i]? = some s) {w : Int} (h1 : p s = openT t c s) (h2 : v s = w) (h3 : ∀ x, x ∈ t.songs → x ≠ s → p x = 0 ∧ v x = 0) (h : mayT t c s w = true) : keptI t.rd.keep (finT t p v) i = true := by
 rw [kept_fin hs]
 unfold mayT at h
 have h := of_decide_eq_true h
 rw [cntA_countP] at h
 refine decide_eq_true (Int.lt_of_le_of_lt (Int.ofNat_le.2 (List.countP_mono_left fun x hx hq => ?_)) h)
 have hq := of_decide_eq_true hq
 by_cases e : x = s
 ·subst e
  exact absurd hq Ahd.irrefl
 ·obtain ⟨e1, e2⟩ := h3 x hx e
  rw [e1, e2, h1, h2] at hq
  exact decide_eq_true ⟨e, hq⟩
theorem must_of_all (hn : t.songs.Nodup) {C : List Int} {f : Int → Nat} {fr : Int} (hs : t.songs[i]? = some s) (hA : Attack t c (stdT t s 0 0) s fr C f) (h1 : p s = 0) (h2 : v s = 0) (h3 : ∀ x, x ∈ C → p x = openT t c x ∧ v x = f x) : keptI t.rd.keep (finT t p v) i = false := by
 rw [kept_fin hs]
 refine decide_eq_false ?_
 have h4 : C.length ≤ t.songs.countP fun x => decide (Ahd (stdT t x (p x) (v x)) (stdT t s (p s) (v s))) := by
  have e : C.length = C.countP fun x => decide (Ahd (stdT t x (p x) (v x)) (stdT t s (p s) (v s))) := by
   refine (List.countP_eq_length.2 fun x hx => ?_).symm
   have := hA.ah x hx
   obtain ⟨e1, e2⟩ := h3 x hx
   rw [e1, e2, h1, h2]
   exact this
  rw [e]
  have hp : (t.songs.filter fun x => decide (x ∈ C)).Perm C := (List.perm_ext_iff_of_nodup (hn.sublist List.filter_sublist) hA.nd).2 fun x => by
   rw [List.mem_filter, decide_eq_true_eq]
   exact ⟨fun h => h.2, fun h => ⟨(hA.mm x h).1, h⟩⟩
  rw [← hp.countP_eq]
  exact List.filter_sublist.countP_le
 have := hA.ln
 omega
theorem all_of_must (hT : TlB t) (hn : t.songs.Nodup) (hs : t.songs[i]? = some s) {fr : Nat} (hf : freeT t c = fr) (h1 : ∀ x, x ∈ t.songs → 0 ≤ p x ∧ p x ≤ openT t c x) (h2 : ∀ x, 0 ≤ v x) (h3 : (t.songs.map v).sum ≤ fr) (h : keptI t.rd.keep (finT t p v) i = false) : mustT t c s = false := by
 rw [kept_fin hs] at h
 have h := of_decide_eq_false h
 obtain ⟨kn, hkn⟩ : ∃ z : Nat, t.rd.keep = z := ⟨t.rd.keep.toNat, by have := hT.kp.1; omega⟩
 rw [List.countP_eq_length_filter] at h
 obtain ⟨L, hL⟩ : ∃ z, (t.songs.filter fun x => decide (Ahd (stdT t x (p x) (v x)) (stdT t s (p s) (v s)))) = z := ⟨_, rfl⟩
 rw [hL] at h
 have hLm : ∀ x, x ∈ L → x ∈ t.songs ∧ Ahd (stdT t x (p x) (v x)) (stdT t s (p s) (v s)) := fun x hx => by
  rw [← hL, List.mem_filter] at hx
  exact ⟨hx.1, of_decide_eq_true hx.2⟩
 have hLs : (L.take kn).Sublist t.songs := (List.take_sublist _ _).trans (by rw [← hL]; exact List.filter_sublist)
 have hps := h1 s (List.mem_of_getElem? hs)
 refine (must_iff hn hT.kp.1).2 ⟨L.take kn, fun x => (v x).toNat, hn.sublist hLs, by rw [List.length_take]; omega, fun x hx => ?_, fun x hx => ?_, ?_⟩
 ·obtain ⟨q1, q2⟩ := hLm x (List.mem_of_mem_take hx)
  refine ⟨q1, fun e => ?_⟩
  subst e
  exact Ahd.irrefl q2
 ·obtain ⟨q1, q2⟩ := hLm x (List.mem_of_mem_take hx)
  have hp := h1 x q1
  have hv := h2 x
  have hvs := h2 s
  unfold aheadV
  refine decide_eq_true (q2.bet (std_bet rfl hT.wj.1 hT.wm.1 (by omega) (by omega)) (std_bet rfl hT.wj.1 hT.wm.1 (by omega) (by omega)))
 ·rw [hf]
  have e : (L.take kn).map (fun x => (((v x).toNat : Nat) : Int)) = (L.take kn).map v := List.map_congr_left fun x _ => by have := h2 x; omega
  rw [e]
  exact Int.le_trans (sum_sub hLs fun x _ => h2 x) h3
theorem sumV_all : sumV (allT t) v = (t.songs.map v).sum := by
 unfold sumV allT
 rw [List.map_map]
 rfl
theorem sum_in {C : List Int} {f : Int → Int} (hC : C.Nodup) (hn : t.songs.Nodup) (hs : ∀ x, x ∈ C → x ∈ t.songs) : (t.songs.map fun x => if x ∈ C then f x else 0).sum = (C.map f).sum := by
 have h1 : (t.songs.filter fun x => decide (x ∈ C)).Perm C := (List.perm_ext_iff_of_nodup (hn.sublist List.filter_sublist) hC).2 fun x => by
  rw [List.mem_filter, decide_eq_true_eq]
  exact ⟨fun h => h.2, fun h => ⟨hs x h, h⟩⟩
 rw [← sum_perm (g := f) h1]
 clear h1 hs hn
 induction t.songs with
 | nil => rfl
 | cons y l ih =>
  simp only [List.map_cons, List.sum_cons, List.filter_cons, decide_eq_true_eq]
  by_cases h : y ∈ C
  ·rw [if_pos h, if_pos h, List.map_cons, List.sum_cons, ih]
  ·rw [if_neg h, if_neg h, ih]; omega
end
theorem ways_must {c : Contest} {l : List Ballot} {rn : Nat} {t : Tally} {fr most i : Nat} {s : Int} (hO : RndOk c l rn t fr) (hms : c.most = most) (hj : ∀ x, x ∈ t.songs → 0 ≤ jurT t c x) (hs : t.songs[i]? = some s) :
  (cntK t.rd.keep (finM t.rd most (t.songs.map (jurT t c)) fr (allT t)) i = (finM t.rd most (t.songs.map (jurT t c)) fr (allT t)).length ↔ mustT t c s = true) ∧ (0 < cntK t.rd.keep (finM t.rd most (t.songs.map (jurT t c)) fr (allT t)) i ↔ mayT t c s fr = true) := by
 have hnd := allT_nd hO.nd
 have hjl : (t.songs.map (jurT t c)).length = (allT t).length := by rw [List.length_map, allT_len]
 have hjn : ∀ j, j ∈ t.songs.map (jurT t c) → 0 ≤ j := fun j h => by
  obtain ⟨x, hx, rfl⟩ := List.mem_map.1 h
  exact hj x hx
 have hsound : ∀ l', l' ∈ finM t.rd most (t.songs.map (jurT t c)) fr (allT t) → ∃ p v, l' = finT t p v ∧ (∀ x, x ∈ t.songs → 0 ≤ p x ∧ p x ≤ openT t c x) ∧ (∀ x, 0 ≤ v x) ∧ (t.songs.map v).sum ≤ fr := fun l' h => by
  obtain ⟨p, v, h1, h2, h3, h4⟩ := finM_sound fr (allT t) l' hnd allT_sc hjl hjn h
  rw [give_fin] at h1
  rw [sumV_all] at h4
  refine ⟨p, v, h1, fun x hx => ?_, h3, h4⟩
  obtain ⟨k, hk⟩ := List.mem_iff_getElem?.1 hx
  have := h2 k (stdT t x 0 0) (jurT t c x) (by unfold allT; rw [List.getElem?_map, hk]; rfl) (by rw [List.getElem?_map, hk]; rfl)
  rw [openT_jur, hms]
  exact this
 have hfull : ∀ (pick : Int → Bool) (v : Int → Int), (∀ x, 0 ≤ v x) → (t.songs.map v).sum ≤ fr → finT t (fun x => if pick x = true then openT t c x else 0) v ∈ finM t.rd most (t.songs.map (jurT t c)) fr (allT t) := fun pick v h1 h2 => by
  have h3 := finM_full (r := t.rd) (most := most) (js := t.songs.map (jurT t c)) (l := allT t) (P := fun x => if pick x = true then openT t c x else 0) (fun l' hl hS => by
   have e : t.songs.map (jurT t c) = l'.map fun x => jurT t c x.song := by
    rw [allT_jur, show ((allT t).map fun x => jurT t c x.song) = ((allT t).map (·.song)).map (jurT t c) by rw [List.map_map]; rfl, ← hl, List.map_map]
    rfl
   rw [e]
   have := finJ_full (r := t.rd) (most := most) pick _ l' (jurT t c) (by rw [hl]; exact hnd) hS (fun x hx => hj _ (by
    have : x.song ∈ l'.map (·.song) := List.mem_map.2 ⟨x, hx, rfl⟩
    rw [hl, allT_song] at this
    exact this)) rfl
   rw [show (fun s => if pick s = true then jurT t c s * (most : Int) else 0) = fun x => if pick x = true then openT t c x else 0 by funext x; rw [openT_jur, hms]] at this
   exact this) fr (allT t) v rfl hnd allT_sc h1 (by rw [sumV_all]; exact h2)
  rw [give_fin] at h3
  exact h3
 constructor
 ·constructor
  ·intro h
   cases hm : mustT t c s with
   | true => rfl
   | false =>
    obtain ⟨C, f, hA⟩ := (must_iff hO.nd hO.T.kp.1).1 hm
    rw [hO.ff] at hA
    have hin := hfull (fun x => decide (x ≠ s)) (fun x => if x ∈ C then (f x : Int) else 0) (fun x => by split <;> omega) (by rw [sum_in hA.nd hO.nd fun x hx => (hA.mm x hx).1]; exact hA.sm)
    have hk := must_of_all hO.nd (p := fun x => if decide (x ≠ s) = true then openT t c x else 0) (v := fun x => if x ∈ C then (f x : Int) else 0) hs hA (by simp) (by rw [if_neg fun h => (hA.mm s h).2 rfl]) fun x hx => ⟨by simp [(hA.mm x hx).2], by rw [if_pos hx]⟩
    have hall := List.countP_eq_length.1 (Int.ofNat.inj h) _ hin
    rw [hk] at hall
    cases hall
  ·intro h
   have : (finM t.rd most (t.songs.map (jurT t c)) fr (allT t)).countP (fun l => keptI t.rd.keep l i) = (finM t.rd most (t.songs.map (jurT t c)) fr (allT t)).length := List.countP_eq_length.2 fun l' hl' => by
    obtain ⟨p, v, rfl, h1, h2, h3⟩ := hsound l' hl'
    cases hk : keptI t.rd.keep (finT t p v) i with
    | true => rfl
    | false =>
     have := all_of_must hO.T hO.nd hs hO.ff h1 h2 h3 hk
     rw [h] at this
     cases this
   unfold cntK
   rw [this]
 ·constructor
  ·intro h
   have h : 0 < (finM t.rd most (t.songs.map (jurT t c)) fr (allT t)).countP fun l => keptI t.rd.keep l i := by unfold cntK at h; omega
   obtain ⟨l', hl', hk⟩ := List.countP_pos_iff.1 h
   obtain ⟨p, v, rfl, h1, h2, h3⟩ := hsound l' hl'
   have hms2 := List.mem_of_getElem? hs
   refine may_of_fin hO.T hs (h1 s hms2).2 ?_ (fun x hx _ => ⟨(h1 x hx).1, h2 x⟩) hk
   exact Int.le_trans (mem_le_sum (fun x _ => h2 x) hms2) h3
  ·intro h
   have hin := hfull (fun x => decide (x = s)) (fun x => if x = s then (fr : Int) else 0) (fun x => by split <;> omega) (by
    have e := sum_in (t := t) (C := [s]) (f := fun _ => (fr : Int)) (by simp) hO.nd (fun x hx => by simp only [List.mem_singleton] at hx; rw [hx]; exact List.mem_of_getElem? hs)
    simp only [List.mem_singleton, List.map_cons, List.map_nil, List.sum_cons, List.sum_nil, Int.add_zero] at e
    omega)
   have hk := fin_of_may (p := fun x => if decide (x = s) = true then openT t c x else 0) (v := fun x => if x = s then (fr : Int) else 0) hs (by simp) (by simp) (fun x _ hne => by simp [hne]) h
   have : 0 < (finM t.rd most (t.songs.map (jurT t c)) fr (allT t)).countP fun l => keptI t.rd.keep l i := List.countP_pos_iff.2 ⟨_, hin, hk⟩
   unfold cntK
   omega
theorem eqRes (a b : Res) : decide (a = b) = (decide (a.songs = b.songs) && (decide (a.points = b.points) && (decide (a.votes = b.votes) && (decide (a.scores = b.scores) && decide (a.kept = b.kept))))) := by
 obtain ⟨a1, a2, a3, a4, a5⟩ := a
 obtain ⟨b1, b2, b3, b4, b5⟩ := b
 rw [Bool.eq_iff_iff]
 simp
def rsSmall (r : Res) : Prop := r.songs.length < 2 ^ 40 ∧ r.points.length < 2 ^ 40 ∧ r.votes.length < 2 ^ 40 ∧ r.scores.length < 2 ^ 40 ∧ r.kept.length < 2 ^ 40
set_option maxHeartbeats 4000000 in
theorem EqResult_pc (Y : YEnv) (σ : Sg) (a b : Res) (ha : rsSmall a) :
  PC Tryz.prog Y 11 [rsPV a, rsPV b] σ (.bool (decide (a = b))) (σ) := by
 refine PC_of_W Tryz.func11 rfl (by kernel_rfl) Tryz.ntmps11 (by simp) fun hcl hca => ?_
 obtain ⟨ha1, ha2, ha3, ha4, ha5⟩ := ha
 have he := eqRes a b
 refine W_seq fun kz1 kq1 => ?_
 refine W_region [2, 3] fun R hR => ?_
 simp only [go_sem]
 refine hR _ _ (kq1 _ _ ?_); clear hR R; try clear kq1 kz1
 try simp only [go_sem]
 refine W_seq fun kz2 kq2 => ?_
 refine W_regionJ [4] [(4, .bool (decide (a = b)))] ?_ fun R hR => ?_
 ·refine kq2 _ _ ?_
  simp only [go_sem]
  refine W_ret ?_
  simp only [go_sem]
  refine ⟨.inr (by trivial), ?_⟩
  first | refine Fin_same hcl rfl (Wk_eq ?_ (by simp only [go_sem])) | refine Fin_self hcl rfl (Wk_eq ?_ (by simp only [go_sem]))
  try simp only [go_sem]
  all_goals
   rfl
 ·simp only [go_sem]
  refine GCall_of (EqInts_pc Y _ a.songs b.songs .ro .ro (by omega)) ?_
  simp only [go_sem]
  refine GWant_split (fun g1 => ?_) (fun g1 => ?_)
  ·try simp only [Bool.not_eq_true', Bool.not_eq_false'] at g1
   have n1 := g1; try simp only [nrm] at n1
   simp only [go_sem, g1]
   refine GCall_of (EqInts_pc Y _ a.points b.points .ro .ro (by omega)) ?_
   simp only [go_sem, g1]
   refine GWant_split (fun g2 => ?_) (fun g2 => ?_)
   ·try simp only [Bool.not_eq_true', Bool.not_eq_false'] at g2
    have n2 := g2; try simp only [nrm] at n2
    simp only [go_sem, g1, g2]
    refine GCall_of (EqInts_pc Y _ a.votes b.votes .ro .ro (by omega)) ?_
    simp only [go_sem, g1, g2]
    refine GWant_split (fun g3 => ?_) (fun g3 => ?_)
    ·try simp only [Bool.not_eq_true', Bool.not_eq_false'] at g3
     have n3 := g3; try simp only [nrm] at n3
     simp only [go_sem, g1, g2, g3]
     refine GCall_of (EqInts_pc Y _ a.scores b.scores .ro .ro (by omega)) ?_
     simp only [go_sem, g1, g2, g3]
     refine GWant_split (fun g4 => ?_) (fun g4 => ?_)
     ·try simp only [Bool.not_eq_true', Bool.not_eq_false'] at g4
      have n4 := g4; try simp only [nrm] at n4
      simp only [go_sem, g1, g2, g3, g4]
      refine GCall_of (EqInts_pc Y _ a.kept b.kept .ro .ro (by omega)) ?_
      simp only [go_sem, g1, g2, g3, g4]
      refine hR _ ?_
      all_goals try simp only [go_sem]
      all_goals
       first | rfl | (rw [he]; simp [*]; done) | (rw [he]; simp_all; done)
     ·try simp only [Bool.not_eq_true', Bool.not_eq_false'] at g4
      have n4 := g4; try simp only [nrm] at n4
      simp only [go_sem, g1, g2, g3, g4]
      refine hR _ ?_
      all_goals try simp only [go_sem]
      all_goals
       first | rfl | (rw [he]; simp [*]; done) | (rw [he]; simp_all; done)
    ·try simp only [Bool.not_eq_true', Bool.not_eq_false'] at g3
     have n3 := g3; try simp only [nrm] at n3
     simp only [go_sem, g1, g2, g3]
     refine hR _ ?_
     all_goals try simp only [go_sem]
     all_goals
      first | rfl | (rw [he]; simp [*]; done) | (rw [he]; simp_all; done)
   ·try simp only [Bool.not_eq_true', Bool.not_eq_false'] at g2
    have n2 := g2; try simp only [nrm] at n2
    simp only [go_sem, g1, g2]
    refine hR _ ?_
    all_goals try simp only [go_sem]
    all_goals
     first | rfl | (rw [he]; simp [*]; done) | (rw [he]; simp_all; done)
  ·try simp only [Bool.not_eq_true', Bool.not_eq_false'] at g1
   have n1 := g1; try simp only [nrm] at n1
   simp only [go_sem, g1]
   refine hR _ ?_
   all_goals try simp only [go_sem]
   all_goals
    first | rfl | (rw [he]; simp [*]; done) | (rw [he]; simp_all; done)
theorem res_small {t : Tally} (h : TlB t) : rsSmall (resT t) := by
 have h1 := h.sl
 have h2 := resT_klen h.kp.2
 have h3 := h.kp
 refine ⟨?_, ?_, ?_, ?_, ?_⟩
 ·show t.songs.length < _; omega
 ·show ((allT t).map _).length < _; rw [List.length_map, allT_len]; omega
 ·show ((allT t).map _).length < _; rw [List.length_map, allT_len]; omega
 ·show ((allT t).map _).length < _; rw [List.length_map, allT_len]; omega
 ·rw [h2]; omega
theorem run_ok {c : Contest} {l : List Ballot} (h : chkBls c l = 0) : runD c l = (resultsT c l, winnerT c l, 0) ∧ (∀ x, x ∈ resultsT c l → rsSmall x) ∧ (resultsT c l).length = c.rounds.length := by
 obtain ⟨hV, hl, hb, hn⟩ := blsV_of h
 refine ⟨by unfold runD; rw [if_neg (by simp [h])], fun x hx => ?_, by unfold resultsT; rw [List.length_map]; exact rdsT_len⟩
 obtain ⟨t, ht, rfl⟩ := List.mem_map.1 hx
 exact res_small (roundsT_b hV hl hb t ht)
theorem roL_bools {xs : List Bool} : PV.roL (xs.map PV.bool) = xs.map PV.bool := roL_enc fun x => by simp only [ro_bool]
attribute [go_sem] roL_bools
theorem okC_bools {xs : List Bool} : okC 1 (xs.map PV.bool) = True := okC_map fun x => by simp [okC, PV.cells, PV.scalar]
attribute [go_sem] okC_bools
set_option maxHeartbeats 8000000 in
theorem rRun_pc (Y : YEnv) (σ : Sg) (c : Contest) (l : List Ballot) (hr : c.rounds.length < 2 ^ 40) (hl : l.length < 2 ^ 40) :
  PC Tryz.prog Y 22 [cnPV c, bls l] σ (.tuple [rss (runD c l).1, I (runD c l).2.1, I (runD c l).2.2]) (σ) := by
 refine PC_of_W Tryz.func22 rfl (by kernel_rfl) Tryz.ntmps22 (by simp) fun hcl hca => ?_
 refine W_seq fun kz1 kq1 => ?_
 refine W_region [1, 2] fun R hR => ?_
 simp only [go_sem]
 refine hR _ _ (kq1 _ _ ?_); clear hR R; try clear kq1 kz1
 try simp only [go_sem]
 refine W_seq fun kz2 kq2 => ?_
 refine W_seq fun kz3 kq3 => ?_
 refine W_region [1, 2, 7] fun R hR => ?_
 simp only [go_sem]
 refine GCall_of (rchkBls_pc Y _ c l hr hl) ?_
 simp only [go_sem]
 refine hR _ _ (kq3 _ _ ?_); clear hR R; try clear kq3 kz3
 try simp only [go_sem]
 refine W_seq fun kz4 kq4 => ?_
 refine W_region [1, 2, 7, 14] fun R hR => ?_
 simp only [go_sem]
 refine hR _ _ (kq4 _ _ ?_); clear hR R; try clear kq4 kz4
 try simp only [go_sem]
 refine W_cond rfl (fun c1 => ?_) (fun c1 => ?_)
 ·try simp only [nrm] at c1
  have hres : runD c l = ([], 0, chkBls c l) := by unfold runD; rw [if_pos c1]
  refine W_seq fun kz5 kq5 => ?_
  refine W_region [4, 5, 6] fun R hR => ?_
  simp only [go_sem]
  refine hR _ _ (kq5 _ _ ?_); clear hR R; try clear kq5 kz5
  try simp only [go_sem]
  refine W_ret ?_
  simp only [go_sem]
  refine ⟨.inr (by trivial), ?_⟩
  rw [hres]
  refine Fin_same hcl rfl (Wk.ro (by simp only [go_sem]) ?_)
  try simp only [go_sem]
  all_goals
   first | rfl | (simp only [go_sem]; done) | (simp only [go_sem, resultsT, hts, hRS, hwin, List.map_map]; first | done | rfl)
 ·try simp only [nrm] at c1
  obtain ⟨hV, hl3, hb, hnd⟩ := blsV_of c1
  have hTb := roundsT_b hV hl3 hb
  have hrl := hV.rl
  have hres : runD c l = (resultsT c l, winnerT c l, 0) := by unfold runD; rw [if_neg (by simp [c1])]
  have hups : ∀ t, t ∈ roundsT c l → Up t.songs := fun t h => roundsT_up h
  obtain ⟨ts, hts⟩ : ∃ z, roundsT c l = z := ⟨_, rfl⟩
  have htl : ts.length = c.rounds.length := by rw [← hts]; exact rdsT_len
  rw [hts] at hTb hups
  obtain ⟨RS, hRS⟩ : ∃ z, ts.map resT = z := ⟨_, rfl⟩
  have hRl : RS.length = ts.length := by rw [← hRS]; simp
  refine W_skip (kq2 _ _ ?_)
  refine W_seq fun kz6 kq6 => ?_
  refine W_region [1, 2, 8] fun R hR => ?_
  simp only [go_sem]
  refine hR _ _ (kq6 _ _ ?_); clear hR R; try clear kq6 kz6
  try simp only [go_sem]
  refine W_seq fun kz7 kq7 => ?_
  refine W_seq fun kz8 kq8 => ?_
  refine W_region [1, 2, 8, 9] fun R hR => ?_
  simp only [go_sem]
  refine hR _ _ (kq8 _ _ ?_); clear hR R; try clear kq8 kz8
  try simp only [go_sem]
  refine W_block ?_
  refine W_weak (Weak.room (t := 8) (es := 5) rfl (by simp)) ?_
  refine W_weak (Weak.keep [1, 2, 8, 9]) ?_
  simp only [go_sem]
  refine W_loopT (α := Nat) (fun (i : Nat) => [(8, .isl ((RS.take i).map rsPV) (.tok σ.rooms.length i 5)), (9, I i)]) (fun (i : Nat) => σ.ext [some (cnCells c)] [i]) (fun (i : Nat) => i ≤ ts.length) (fun (i : Nat) => ts.length - i) (0) rfl (by first | rfl | (simp only [go_sem]; done) | (simp only [go_sem]; rfl)) (Nat.zero_le _) ?_
  rintro i hi
  refine W_seq fun kz9 kq9 => ?_
  refine W_seq fun kz10 kq10 => ?_
  refine W_region [1, 2, 8, 9, 20] fun R hR => ?_
  simp only [go_sem]
  refine hR _ _ (kq10 _ _ ?_); clear hR R; try clear kq10 kz10
  try simp only [go_sem]
  refine W_cond rfl (fun c2 => ?_) (fun c2 => ?_)
  ·try simp only [nrm] at c2
   have hi' : i < ts.length := by first | omega | (simp at c2; omega)
   obtain ⟨t, ht0⟩ : ∃ z, ts[i]? = some z := ⟨ts[i], by simp [hi']⟩
   have hTt := hTb t (List.mem_of_getElem? ht0)
   have hut := hups t (List.mem_of_getElem? ht0)
   have ht : (roundsT c l)[i]? = some t := by rw [hts]; exact ht0
   obtain ⟨r, hri, hte⟩ := rdsT_get ht
   rw [Nat.zero_add] at hte
   have hri2 : RS[i]? = some (resT t) := by rw [← hRS, List.getElem?_map, ht0]; rfl
   have hsn : RS.take (i + 1) = RS.take i ++ [resT t] := by rw [List.take_add_one, hri2]; rfl
   have htk : (RS.take i).length = i := by rw [List.length_take]; omega
   refine W_skip (kq9 _ _ ?_)
   refine W_seq fun kz11 kq11 => ?_
   refine W_block ?_
   refine W_draw [1, 2, 8, 9] [0, 1, 2, 3, 4, 5, 6, 7, 8, 9, 10, 11] [(0, 8), (0, 10), (1, 8), (2, 8), (3, 8)] [[], [], [], [], [], [], [], [4, 5, 6], [1, 2, 3, 4, 5, 6, 7], [1, 2, 3, 4, 5, 6, 7, 8], [0, 1, 2, 3, 4, 5, 6, 7, 8, 9], [0, 1, 2, 3, 4, 5, 6, 7, 8, 9, 10]] mixed (by kernel_rfl) fun R hR => ?_
   simp only [go_sem]
   refine GCall_of (rSongs_pc c l hV hl3 hb hnd i t ht Y _) ?_
   simp only [go_sem]
   refine GCall_of (PC.val (v' := rsPV (resT t)) (rRes_pc Y _ c l i r t.songs hri hV hl3 hb hnd (by rw [← hte]; exact hTt) hut) (by rw [← hte])) ?_
   simp only [go_sem]
   try simp (disch := first | omega | (simp only [go_sem] <;> omega)) only [wrapI, wrapU, appX_exact, appX_tok]
   try simp only [go_sem]
   try refine And.intro (by repeat' (first | refine And.intro ?_ ?_ | exact GOr_right (fun _ => by simp only [go_sem]))) ?_
   refine hR _ _ (kq11 _ _ ?_); clear hR R; try clear kq11 kz11
   try simp only [go_sem]
   refine W_region [1, 2, 8, 9] fun R hR => ?_
   simp only [go_sem]
   try simp (disch := omega) only [wrapI, wrapU]
   refine hR _ _ ?_; clear hR R
   try simp only [go_sem]
   refine ⟨i + 1, ?_, by (try simp only []); omega, ?_⟩
   ·exact Weak.eq (by rw [hsn]; simp only [List.map_append, List.map_cons, List.map_nil]; first | done | rfl) rfl
   ·try dsimp only
    exact hi'
  ·try simp only [nrm] at c2
   have hie : ts.length = i := by first | omega | (simp at c2; omega)
   subst hie
   rw [← hRl, List.take_length]
   refine W_exit ?_
   simp only [go_sem]
   refine kq7 _ _ ?_
   refine W_seq fun kz12 kq12 => ?_
   obtain ⟨m, hm⟩ : ∃ z, ts.length = z + 1 := ⟨ts.length - 1, by omega⟩
   obtain ⟨tl, htl2⟩ : ∃ z, ts[m]? = some z := ⟨ts[m]'(by omega), by simp⟩
   have hTl := hTb tl (List.mem_of_getElem? htl2)
   obtain ⟨k0, kt, hk⟩ : ∃ a b, (resT tl).kept = a :: b := by
    have h1 := resT_klen (t := tl) hTl.kp.2
    have h2 := hTl.kp.1
    cases h : (resT tl).kept with
    | nil => rw [h] at h1; simp at h1; omega
    | cons a b => exact ⟨a, b, rfl⟩
   have hwin := res_last hts htl2 hm hk
   have hw9 : IntKind.i64.wrap ((ts.length : Int) - 1) = (m : Int) := by rw [wrapI (by omega) (by omega)]; omega
   have hm9 : (m : Int) < (ts.length : Int) := by omega
   have hm92 : m < ts.length := by omega
   have hLr : RS[m]? = some (resT tl) := by rw [← hRS, List.getElem?_map, htl2]; rfl
   refine W_draw [4, 5, 6] [0, 1, 2, 3, 4, 5, 6, 7, 8, 9, 10, 11, 12] [] [[], [], [], [2], [2, 3], [1, 2, 3, 4], [1, 2, 3, 4, 5], [1, 2, 3, 4, 5, 6], [1, 2, 3, 4, 5, 6, 7], [1, 2, 3, 4, 5, 6, 7, 8], [0], [0, 1, 2, 3, 4, 5, 6, 7, 8, 9, 10], [0, 1, 2, 3, 4, 5, 6, 7, 8, 9, 10, 11]] mixed (by kernel_rfl) fun R hR => ?_
   simp only [go_sem, iaX0 (c := 1) (p := I k0) rfl, List.map_cons, elS0, hRl, hw9, hm9, hm92, hLr, hk, iaX_map hLr rfl, elS_map hLr]
   try simp (disch := omega) only [wrapI, wrapU]
   try refine And.intro (by repeat' (first | refine And.intro ?_ ?_ | exact GOr_right (fun _ => by simp only [go_sem, iaX0 (c := 1) (p := I k0) rfl, List.map_cons, elS0, hRl, hw9, hm9, hm92, hLr, hk, iaX_map hLr rfl, elS_map hLr]))) ?_
   refine hR _ _ (kq12 _ _ ?_); clear hR R; try clear kq12 kz12
   try simp only [go_sem]
   refine W_ret ?_
   simp only [go_sem]
   refine ⟨.inr (by trivial), ?_⟩
   rw [hres]
   refine Fin_same hcl rfl (Wk.ro (by simp only [go_sem]) ?_)
   try simp only [go_sem]
   all_goals
    first | rfl | (simp only [go_sem]; done) | (simp only [go_sem, resultsT, hts, hRS, hwin, List.map_map]; first | done | rfl)
set_option maxHeartbeats 8000000 in
theorem ContestOf_pc (Y : YEnv) (σ : Sg) (d : Nat) (b : Int) (hd : σ.store[d]? = some (some [.int .u64 b])) (songs juries members : Int) (h1 : 1 ≤ songs ∧ songs ≤ 1000) (h2 : 0 ≤ juries ∧ juries ≤ 1000) (h3 : 0 ≤ members ∧ members ≤ 1000) :
  PC Tryz.prog Y 18 [.ptr d 0, I songs, I juries, I members] σ (cnPV (contestD songs juries members b).1) (σ.setVar d [.int .u64 (contestD songs juries members b).2]) := by
 refine PC_of_W Tryz.func18 rfl (by kernel_rfl) Tryz.ntmps18 (by simp) fun hcl hca => ?_
 have hlt := lt_of_get hd
 obtain ⟨s, hs⟩ : ∃ zz, (mid 1 songs b).1 = zz := ⟨_, rfl⟩
 obtain ⟨b1, hb1⟩ : ∃ zz, (mid 1 songs b).2 = zz := ⟨_, rfl⟩
 have ds := mid_bd 1 songs h1.1 b
 simp only [hs] at ds
 obtain ⟨j, hj⟩ : ∃ zz, (roll (juries + 1) b1).1 = zz := ⟨_, rfl⟩
 obtain ⟨b2, hb2⟩ : ∃ zz, (roll (juries + 1) b1).2 = zz := ⟨_, rfl⟩
 have dj := roll_bd (juries + 1) b1
 simp only [hj] at dj
 obtain ⟨m, hm⟩ : ∃ zz, (roll (members + 1) b2).1 = zz := ⟨_, rfl⟩
 obtain ⟨b3, hb3⟩ : ∃ zz, (roll (members + 1) b2).2 = zz := ⟨_, rfl⟩
 have dm := roll_bd (members + 1) b2
 simp only [hm] at dm
 obtain ⟨mo, hmo⟩ : ∃ zz, (anyOf [0, 2, 10] b3).1 = zz := ⟨_, rfl⟩
 obtain ⟨b4, hb4⟩ : ∃ zz, (anyOf [0, 2, 10] b3).2 = zz := ⟨_, rfl⟩
 have dmo := anyOf_mem [0, 2, 10] (by simp) b3
 simp only [hmo] at dmo
 obtain ⟨kz, hkz⟩ : ∃ zz, (mid 1 3 b4).1 = zz := ⟨_, rfl⟩
 obtain ⟨b5, hb5⟩ : ∃ zz, (mid 1 3 b4).2 = zz := ⟨_, rfl⟩
 have dkz := mid_bd 1 3 (by omega) b4
 simp only [hkz] at dkz
 obtain ⟨kn, hkn⟩ : ∃ z : Nat, kz = z := ⟨kz.toNat, by omega⟩
 subst hkn
 obtain ⟨rs, hrs⟩ : ∃ z, roundsC kn s [] b5 = z := ⟨_, rfl⟩
 have hdef : contestD songs juries members b = (⟨s, j, m, mo, rs.1⟩, rs.2) := by simp only [contestD, dbind, dret, hs, hb1, hj, hb2, hm, hb3, hmo, hb4, hkz, hb5, Int.toNat_natCast, hrs]
 rw [hdef]
 refine W_seq fun kz1 kq1 => ?_
 refine W_region [0, 1, 2, 3, 8] fun R hR => ?_
 simp only [go_sem, ldS_at hd, stX_at hd, ldS_sv hlt, stX_sv hlt, sv_ext hlt, sv_ext_sv hlt, hs, hb1, hj, hb2, hm, hb3, hmo, hb4, hkz, hb5]
 refine hR _ _ (kq1 _ _ ?_); clear hR R; try clear kq1 kz1
 try simp only [go_sem, ldS_at hd, stX_at hd, ldS_sv hlt, stX_sv hlt, sv_ext hlt, sv_ext_sv hlt, hs, hb1, hj, hb2, hm, hb3, hmo, hb4, hkz, hb5]
 refine W_seq fun kz2 kq2 => ?_
 refine W_region [0, 8, 9] fun R hR => ?_
 simp only [go_sem, ldS_at hd, stX_at hd, ldS_sv hlt, stX_sv hlt, sv_ext hlt, sv_ext_sv hlt, hs, hb1, hj, hb2, hm, hb3, hmo, hb4, hkz, hb5]
 refine GCall_of (Mid_pc Y _ d b (by first | exact hd | exact sv_get hlt | exact get_svx hlt | exact get_extx hd) 1 songs (by omega) (by omega) (by omega) (by omega)) ?_
 simp only [go_sem, ldS_at hd, stX_at hd, ldS_sv hlt, stX_sv hlt, sv_ext hlt, sv_ext_sv hlt, hs, hb1, hj, hb2, hm, hb3, hmo, hb4, hkz, hb5]
 try simp (disch := omega) only [wrapI]
 try simp (disch := omega) only [wrapI, wrapU]
 refine GCall_of (Roll_pc Y _ d b1 (by first | exact hd | exact sv_get hlt | exact get_svx hlt | exact get_extx hd) (juries + 1) (by omega)) ?_
 simp only [go_sem, ldS_at hd, stX_at hd, ldS_sv hlt, stX_sv hlt, sv_ext hlt, sv_ext_sv hlt, hs, hb1, hj, hb2, hm, hb3, hmo, hb4, hkz, hb5]
 try simp (disch := omega) only [wrapI]
 try simp (disch := omega) only [wrapI, wrapU]
 refine GCall_of (Roll_pc Y _ d b2 (by first | exact hd | exact sv_get hlt | exact get_svx hlt | exact get_extx hd) (members + 1) (by omega)) ?_
 simp only [go_sem, ldS_at hd, stX_at hd, ldS_sv hlt, stX_sv hlt, sv_ext hlt, sv_ext_sv hlt, hs, hb1, hj, hb2, hm, hb3, hmo, hb4, hkz, hb5]
 try simp (disch := omega) only [wrapI, wrapU]
 refine GCall_of (Any_pc Y _ d b3 (by first | exact hd | exact sv_get hlt | exact get_svx hlt | exact get_extx hd) [0, 2, 10] (by simp) (by simp)) ?_
 simp only [go_sem, ldS_at hd, stX_at hd, ldS_sv hlt, stX_sv hlt, sv_ext hlt, sv_ext_sv hlt, hs, hb1, hj, hb2, hm, hb3, hmo, hb4, hkz, hb5]
 try simp (disch := omega) only [wrapI, wrapU]
 refine hR _ _ (kq2 _ _ ?_); clear hR R; try clear kq2 kz2
 try simp only [go_sem, ldS_at hd, stX_at hd, ldS_sv hlt, stX_sv hlt, sv_ext hlt, sv_ext_sv hlt, hs, hb1, hj, hb2, hm, hb3, hmo, hb4, hkz, hb5]
 refine W_seq fun kz3 kq3 => ?_
 refine W_region [0, 8, 9, 10] fun R hR => ?_
 simp only [go_sem, ldS_at hd, stX_at hd, ldS_sv hlt, stX_sv hlt, sv_ext hlt, sv_ext_sv hlt, hs, hb1, hj, hb2, hm, hb3, hmo, hb4, hkz, hb5]
 refine hR _ _ (kq3 _ _ ?_); clear hR R; try clear kq3 kz3
 try simp only [go_sem, ldS_at hd, stX_at hd, ldS_sv hlt, stX_sv hlt, sv_ext hlt, sv_ext_sv hlt, hs, hb1, hj, hb2, hm, hb3, hmo, hb4, hkz, hb5]
 refine W_seq fun kz4 kq4 => ?_
 refine W_seq fun kz5 kq5 => ?_
 refine W_region [0, 8, 9, 10, 11] fun R hR => ?_
 simp only [go_sem, ldS_at hd, stX_at hd, ldS_sv hlt, stX_sv hlt, sv_ext hlt, sv_ext_sv hlt, hs, hb1, hj, hb2, hm, hb3, hmo, hb4, hkz, hb5]
 refine GCall_of (Mid_pc Y _ d b4 (by first | exact hd | exact sv_get hlt | exact get_svx hlt | exact get_extx hd) 1 3 (by omega) (by omega) (by omega) (by omega)) ?_
 simp only [go_sem, ldS_at hd, stX_at hd, ldS_sv hlt, stX_sv hlt, sv_ext hlt, sv_ext_sv hlt, hs, hb1, hj, hb2, hm, hb3, hmo, hb4, hkz, hb5]
 refine hR _ _ (kq5 _ _ ?_); clear hR R; try clear kq5 kz5
 try simp only [go_sem, ldS_at hd, stX_at hd, ldS_sv hlt, stX_sv hlt, sv_ext hlt, sv_ext_sv hlt, hs, hb1, hj, hb2, hm, hb3, hmo, hb4, hkz, hb5]
 refine W_block ?_
 refine W_weak (Weak.roomSV (j := 1) (off := 4) (es := 3) rfl rfl (by simp)) ?_
 simp only [go_sem, ldS_at hd, stX_at hd, ldS_sv hlt, stX_sv hlt, sv_ext hlt, sv_ext_sv hlt, hs, hb1, hj, hb2, hm, hb3, hmo, hb4, hkz, hb5]
 refine W_loopT (α := Nat × Int × (List Rnd) × Int) (fun ⟨k, kp, acc, bb⟩ => [(10, I kp), (11, I k)]) (fun ⟨k, kp, acc, bb⟩ => (σ.setVar d [.int .u64 bb]).ext [some [I 0, I 0, I 0, I 0, .isl [] .exact], some [I s, I j, I m, I mo, .isl (acc.map rdPV) (.tok σ.rooms.length acc.length 3)]] [acc.length]) (fun ⟨k, kp, acc, bb⟩ => (1 ≤ kp ∧ kp ≤ 1000) ∧ acc.length + k = kn ∧ roundsC k kp acc bb = rs) (fun ⟨k, kp, acc, bb⟩ => k) ((kn, s, [], b5)) rfl (by first | rfl | (simp only [go_sem]; done) | (simp only [go_sem]; rfl)) (⟨by omega, by simp, hrs⟩) ?_
 rintro ⟨k, kp, acc, bb⟩ ⟨hkp, hal, hinv⟩
 refine W_seq fun kz6 kq6 => ?_
 refine W_seq fun kz7 kq7 => ?_
 refine W_region [0, 8, 9, 10, 11, 32] fun R hR => ?_
 simp only [go_sem, ldS_at hd, stX_at hd, ldS_sv hlt, stX_sv hlt, sv_ext hlt, sv_ext_sv hlt, hs, hb1, hj, hb2, hm, hb3, hmo, hb4, hkz, hb5]
 refine hR _ _ (kq7 _ _ ?_); clear hR R; try clear kq7 kz7
 try simp only [go_sem, ldS_at hd, stX_at hd, ldS_sv hlt, stX_sv hlt, sv_ext hlt, sv_ext_sv hlt, hs, hb1, hj, hb2, hm, hb3, hmo, hb4, hkz, hb5]
 refine W_cond rfl (fun c1 => ?_) (fun c1 => ?_)
 ·try simp only [nrm] at c1
  obtain ⟨k, rfl⟩ : ∃ z, k = z + 1 := ⟨k - 1, by first | omega | (simp at c1; omega)⟩
  simp only [roundsC] at hinv
  have hk1 : ((k + 1 : Nat) : Int) - 1 = (k : Int) := by omega
  refine W_skip (kq6 _ _ ?_)
  refine W_seq fun kz8 kq8 => ?_
  refine W_block ?_
  refine W_seq fun kz9 kq9 => ?_
  refine W_seq fun kz10 kq10 => ?_
  refine W_region [0, 8, 9, 10, 11, 36] fun R hR => ?_
  simp only [go_sem, ldS_at hd, stX_at hd, ldS_sv hlt, stX_sv hlt, sv_ext hlt, sv_ext_sv hlt, hs, hb1, hj, hb2, hm, hb3, hmo, hb4, hkz, hb5]
  refine hR _ _ (kq10 _ _ ?_); clear hR R; try clear kq10 kz10
  try simp only [go_sem, ldS_at hd, stX_at hd, ldS_sv hlt, stX_sv hlt, sv_ext hlt, sv_ext_sv hlt, hs, hb1, hj, hb2, hm, hb3, hmo, hb4, hkz, hb5]
  refine W_cond rfl (fun c2 => ?_) (fun c2 => ?_)
  ·try simp only [nrm] at c2
   have hk0 : k = 0 := by omega
   subst hk0
   rw [if_pos rfl] at hinv
   obtain ⟨bq, rfl⟩ : ∃ z, z = bb := ⟨bb, rfl⟩
   obtain ⟨ra, hra⟩ : ∃ zz, (roll 4 bq).1 = zz := ⟨_, rfl⟩
   obtain ⟨b8, hb8⟩ : ∃ zz, (roll 4 bq).2 = zz := ⟨_, rfl⟩
   have dra := roll_bd 4 bq
   simp only [hra] at dra
   obtain ⟨rb, hrb⟩ : ∃ zz, (roll 5 b8).1 = zz := ⟨_, rfl⟩
   obtain ⟨b9, hb9⟩ : ∃ zz, (roll 5 b8).2 = zz := ⟨_, rfl⟩
   have drb := roll_bd 5 b8
   simp only [hrb] at drb
   simp only [dbind, hra, hb8, hrb, hb9] at hinv
   refine W_region [0, 8, 9, 10, 11] fun R hR => ?_
   simp only [go_sem, ldS_at hd, stX_at hd, ldS_sv hlt, stX_sv hlt, sv_ext hlt, sv_ext_sv hlt, hs, hb1, hj, hb2, hm, hb3, hmo, hb4, hkz, hb5, hra, hb8, hrb, hb9]
   refine hR _ _ (kq9 _ _ ?_); clear hR R; try clear kq9 kz9
   try simp only [go_sem, ldS_at hd, stX_at hd, ldS_sv hlt, stX_sv hlt, sv_ext hlt, sv_ext_sv hlt, hs, hb1, hj, hb2, hm, hb3, hmo, hb4, hkz, hb5, hra, hb8, hrb, hb9]
   refine W_draw [0, 8, 9, 10, 11] [0, 1, 2, 3, 4, 5, 6, 7, 8, 9, 10, 11] [(0, 6), (0, 9), (1, 6), (1, 9), (2, 6), (2, 9), (5, 4)] [[], [0], [], [], [3], [], [3, 4, 5], [2, 3, 4, 5, 6], [2, 3, 4, 5, 6, 7], [0, 1, 2, 3, 4, 5, 6, 7, 8], [0, 1, 2, 3, 4, 5, 6, 7, 8, 9], [0, 1, 2, 3, 4, 5, 6, 7, 8, 9, 10]] mixed (by kernel_rfl) fun R hR => ?_
   simp only [go_sem, ldS_at hd, stX_at hd, ldS_sv hlt, stX_sv hlt, sv_ext hlt, sv_ext_sv hlt, hs, hb1, hj, hb2, hm, hb3, hmo, hb4, hkz, hb5, hra, hb8, hrb, hb9]
   refine GCall_of (Roll_pc Y _ d bq (by first | exact hd | exact sv_get hlt | exact get_svx hlt | exact get_extx hd) 4 (by omega)) ?_
   simp only [go_sem, ldS_at hd, stX_at hd, ldS_sv hlt, stX_sv hlt, sv_ext hlt, sv_ext_sv hlt, hs, hb1, hj, hb2, hm, hb3, hmo, hb4, hkz, hb5, hra, hb8, hrb, hb9]
   refine GCall_of (Roll_pc Y _ d b8 (by first | exact hd | exact sv_get hlt | exact get_svx hlt | exact get_extx hd) 5 (by omega)) ?_
   simp only [go_sem, ldS_at hd, stX_at hd, ldS_sv hlt, stX_sv hlt, sv_ext hlt, sv_ext_sv hlt, hs, hb1, hj, hb2, hm, hb3, hmo, hb4, hkz, hb5, hra, hb8, hrb, hb9]
   try simp (disch := first | omega | (simp only [go_sem] <;> omega)) only [wrapI, wrapU, appX_exact, appX_tok]
   try simp only [go_sem, ldS_at hd, stX_at hd, ldS_sv hlt, stX_sv hlt, sv_ext hlt, sv_ext_sv hlt, hs, hb1, hj, hb2, hm, hb3, hmo, hb4, hkz, hb5, hra, hb8, hrb, hb9]
   try refine And.intro (by repeat' (first | refine And.intro ?_ ?_ | exact GOr_right (fun _ => by simp only [go_sem, ldS_at hd, stX_at hd, ldS_sv hlt, stX_sv hlt, sv_ext hlt, sv_ext_sv hlt, hs, hb1, hj, hb2, hm, hb3, hmo, hb4, hkz, hb5, hra, hb8, hrb, hb9]))) ?_
   refine hR _ _ (kq8 _ _ ?_); clear hR R; try clear kq8 kz8
   try simp only [go_sem, ldS_at hd, stX_at hd, ldS_sv hlt, stX_sv hlt, sv_ext hlt, sv_ext_sv hlt, hs, hb1, hj, hb2, hm, hb3, hmo, hb4, hkz, hb5, hra, hb8, hrb, hb9]
   refine W_region [0, 8, 9, 10, 11] fun R hR => ?_
   simp only [go_sem, ldS_at hd, stX_at hd, ldS_sv hlt, stX_sv hlt, sv_ext hlt, sv_ext_sv hlt, hs, hb1, hj, hb2, hm, hb3, hmo, hb4, hkz, hb5, hra, hb8, hrb, hb9]
   try simp (disch := omega) only [wrapI, wrapU]
   refine hR _ _ ?_; clear hR R
   try simp only [go_sem, ldS_at hd, stX_at hd, ldS_sv hlt, stX_sv hlt, sv_ext hlt, sv_ext_sv hlt, hs, hb1, hj, hb2, hm, hb3, hmo, hb4, hkz, hb5, hra, hb8, hrb, hb9]
   refine ⟨(0, 1, acc ++ [⟨1, ra, rb⟩], b9), ?_, by (try simp only []); omega, ?_⟩
   ·refine Weak.eq ?_ ?_
    ·first | (simp only [hk1, List.map_append, List.map_cons, List.map_nil, List.length_append, List.length_cons, List.length_nil]; first | done | rfl) | (simp only [List.map_append, List.map_cons, List.map_nil, List.length_append, List.length_cons, List.length_nil]; first | done | rfl)
    ·simp only [List.map_append, List.map_cons, List.map_nil, List.length_append, List.length_cons, List.length_nil]; first | done | rfl
   ·try dsimp only
    exact ⟨by omega, by simp; omega, hinv⟩
  ·try simp only [nrm] at c2
   rw [if_neg (by omega)] at hinv
   obtain ⟨kq, hkq⟩ : ∃ zz, (mid 1 kp bb).1 = zz := ⟨_, rfl⟩
   obtain ⟨bq, hbq⟩ : ∃ zz, (mid 1 kp bb).2 = zz := ⟨_, rfl⟩
   have dkq := mid_bd 1 kp hkp.1 bb
   simp only [hkq] at dkq
   obtain ⟨ra, hra⟩ : ∃ zz, (roll 4 bq).1 = zz := ⟨_, rfl⟩
   obtain ⟨b8, hb8⟩ : ∃ zz, (roll 4 bq).2 = zz := ⟨_, rfl⟩
   have dra := roll_bd 4 bq
   simp only [hra] at dra
   obtain ⟨rb, hrb⟩ : ∃ zz, (roll 5 b8).1 = zz := ⟨_, rfl⟩
   obtain ⟨b9, hb9⟩ : ∃ zz, (roll 5 b8).2 = zz := ⟨_, rfl⟩
   have drb := roll_bd 5 b8
   simp only [hrb] at drb
   simp only [dbind, hkq, hbq, hra, hb8, hrb, hb9] at hinv
   refine W_region [0, 8, 9, 10, 11] fun R hR => ?_
   simp only [go_sem, ldS_at hd, stX_at hd, ldS_sv hlt, stX_sv hlt, sv_ext hlt, sv_ext_sv hlt, hs, hb1, hj, hb2, hm, hb3, hmo, hb4, hkz, hb5, hkq, hbq, hra, hb8, hrb, hb9]
   refine GCall_of (Mid_pc Y _ d bb (by first | exact hd | exact sv_get hlt | exact get_svx hlt | exact get_extx hd) 1 kp (by omega) (by omega) (by omega) (by omega)) ?_
   simp only [go_sem, ldS_at hd, stX_at hd, ldS_sv hlt, stX_sv hlt, sv_ext hlt, sv_ext_sv hlt, hs, hb1, hj, hb2, hm, hb3, hmo, hb4, hkz, hb5, hkq, hbq, hra, hb8, hrb, hb9]
   refine hR _ _ (kq9 _ _ ?_); clear hR R; try clear kq9 kz9
   try simp only [go_sem, ldS_at hd, stX_at hd, ldS_sv hlt, stX_sv hlt, sv_ext hlt, sv_ext_sv hlt, hs, hb1, hj, hb2, hm, hb3, hmo, hb4, hkz, hb5, hkq, hbq, hra, hb8, hrb, hb9]
   refine W_draw [0, 8, 9, 10, 11] [0, 1, 2, 3, 4, 5, 6, 7, 8, 9, 10, 11] [(0, 6), (0, 9), (1, 6), (1, 9), (2, 6), (2, 9), (5, 4)] [[], [0], [], [], [3], [], [3, 4, 5], [2, 3, 4, 5, 6], [2, 3, 4, 5, 6, 7], [0, 1, 2, 3, 4, 5, 6, 7, 8], [0, 1, 2, 3, 4, 5, 6, 7, 8, 9], [0, 1, 2, 3, 4, 5, 6, 7, 8, 9, 10]] mixed (by kernel_rfl) fun R hR => ?_
   simp only [go_sem, ldS_at hd, stX_at hd, ldS_sv hlt, stX_sv hlt, sv_ext hlt, sv_ext_sv hlt, hs, hb1, hj, hb2, hm, hb3, hmo, hb4, hkz, hb5, hkq, hbq, hra, hb8, hrb, hb9]
   refine GCall_of (Roll_pc Y _ d bq (by first | exact hd | exact sv_get hlt | exact get_svx hlt | exact get_extx hd) 4 (by omega)) ?_
   simp only [go_sem, ldS_at hd, stX_at hd, ldS_sv hlt, stX_sv hlt, sv_ext hlt, sv_ext_sv hlt, hs, hb1, hj, hb2, hm, hb3, hmo, hb4, hkz, hb5, hkq, hbq, hra, hb8, hrb, hb9]
   refine GCall_of (Roll_pc Y _ d b8 (by first | exact hd | exact sv_get hlt | exact get_svx hlt | exact get_extx hd) 5 (by omega)) ?_
   simp only [go_sem, ldS_at hd, stX_at hd, ldS_sv hlt, stX_sv hlt, sv_ext hlt, sv_ext_sv hlt, hs, hb1, hj, hb2, hm, hb3, hmo, hb4, hkz, hb5, hkq, hbq, hra, hb8, hrb, hb9]
   try simp (disch := first | omega | (simp only [go_sem] <;> omega)) only [wrapI, wrapU, appX_exact, appX_tok]
   try simp only [go_sem, ldS_at hd, stX_at hd, ldS_sv hlt, stX_sv hlt, sv_ext hlt, sv_ext_sv hlt, hs, hb1, hj, hb2, hm, hb3, hmo, hb4, hkz, hb5, hkq, hbq, hra, hb8, hrb, hb9]
   try refine And.intro (by repeat' (first | refine And.intro ?_ ?_ | exact GOr_right (fun _ => by simp only [go_sem, ldS_at hd, stX_at hd, ldS_sv hlt, stX_sv hlt, sv_ext hlt, sv_ext_sv hlt, hs, hb1, hj, hb2, hm, hb3, hmo, hb4, hkz, hb5, hkq, hbq, hra, hb8, hrb, hb9]))) ?_
   refine hR _ _ (kq8 _ _ ?_); clear hR R; try clear kq8 kz8
   try simp only [go_sem, ldS_at hd, stX_at hd, ldS_sv hlt, stX_sv hlt, sv_ext hlt, sv_ext_sv hlt, hs, hb1, hj, hb2, hm, hb3, hmo, hb4, hkz, hb5, hkq, hbq, hra, hb8, hrb, hb9]
   refine W_region [0, 8, 9, 10, 11] fun R hR => ?_
   simp only [go_sem, ldS_at hd, stX_at hd, ldS_sv hlt, stX_sv hlt, sv_ext hlt, sv_ext_sv hlt, hs, hb1, hj, hb2, hm, hb3, hmo, hb4, hkz, hb5, hkq, hbq, hra, hb8, hrb, hb9]
   try simp (disch := omega) only [wrapI, wrapU]
   refine hR _ _ ?_; clear hR R
   try simp only [go_sem, ldS_at hd, stX_at hd, ldS_sv hlt, stX_sv hlt, sv_ext hlt, sv_ext_sv hlt, hs, hb1, hj, hb2, hm, hb3, hmo, hb4, hkz, hb5, hkq, hbq, hra, hb8, hrb, hb9]
   refine ⟨(k, kq, acc ++ [⟨kq, ra, rb⟩], b9), ?_, by (try simp only []); omega, ?_⟩
   ·refine Weak.eq ?_ ?_
    ·first | (simp only [hk1, List.map_append, List.map_cons, List.map_nil, List.length_append, List.length_cons, List.length_nil]; first | done | rfl) | (simp only [List.map_append, List.map_cons, List.map_nil, List.length_append, List.length_cons, List.length_nil]; first | done | rfl)
    ·simp only [List.map_append, List.map_cons, List.map_nil, List.length_append, List.length_cons, List.length_nil]; first | done | rfl
   ·try dsimp only
    exact ⟨by omega, by simp; omega, hinv⟩
 ·try simp only [nrm] at c1
  have hke : k = 0 := by first | omega | (simp at c1; omega)
  subst hke
  simp only [roundsC, dret] at hinv
  refine W_exit ?_
  simp only [go_sem, ldS_at hd, stX_at hd, ldS_sv hlt, stX_sv hlt, sv_ext hlt, sv_ext_sv hlt, hs, hb1, hj, hb2, hm, hb3, hmo, hb4, hkz, hb5]
  refine kq4 _ _ ?_
  refine W_seq fun kz11 kq11 => ?_
  refine W_region [8] fun R hR => ?_
  simp only [go_sem, ldS_at hd, stX_at hd, ldS_sv hlt, stX_sv hlt, sv_ext hlt, sv_ext_sv hlt, hs, hb1, hj, hb2, hm, hb3, hmo, hb4, hkz, hb5]
  refine hR _ _ (kq11 _ _ ?_); clear hR R; try clear kq11 kz11
  try simp only [go_sem, ldS_at hd, stX_at hd, ldS_sv hlt, stX_sv hlt, sv_ext hlt, sv_ext_sv hlt, hs, hb1, hj, hb2, hm, hb3, hmo, hb4, hkz, hb5]
  refine W_ret ?_
  simp only [go_sem, ldS_at hd, stX_at hd, ldS_sv hlt, stX_sv hlt, sv_ext hlt, sv_ext_sv hlt, hs, hb1, hj, hb2, hm, hb3, hmo, hb4, hkz, hb5]
  refine ⟨.inr (by trivial), ?_⟩
  rw [← hinv]; refine Fin_set hcl (by simp only [go_sem]) (by show resPV Tryz.prog _ _ [.cell 8 25] = some _; simp only [resPV, go_sem]; rfl) (Wk.ro (by simp only [go_sem]) ?_)
  try simp only [go_sem]
  all_goals
   first | done | rfl | simp only [go_sem]
set_option maxHeartbeats 16000000 in
theorem BallotsOf_pc (Y : YEnv) (σ : Sg) (d : Nat) (b : Int) (hd : σ.store[d]? = some (some [.int .u64 b])) (c : Contest) (songs juries members most : Int) (hc : CnMade c songs juries members) (h1 : songs ≤ 1000 ∧ juries ≤ 1000 ∧ members ≤ 1000) (hm : 0 ≤ most ∧ most ≤ 1000) :
  PC Tryz.prog Y 19 [.ptr d 0, cnPV c, I most] σ (bls (ballotsD c most b).1) (σ.setVar d [.int .u64 (ballotsD c most b).2]) := by
 refine PC_of_W Tryz.func19 rfl (by kernel_rfl) Tryz.ntmps19 (by simp) fun hcl hca => ?_
 have hlt := lt_of_get hd
 have hsg := hc.sg
 have hjr := hc.jr
 have hmb := hc.mb
 have hms := hc.ms
 have hrl := hc.rl
 have hwjm : IntKind.i64.wrap (c.juries + c.members) = c.juries + c.members := wrapI (by omega) (by omega)
 obtain ⟨res, hres⟩ : ∃ r, ballotsD c most b = r := ⟨_, rfl⟩
 rw [hres]
 refine W_seq fun kz1 kq1 => ?_
 refine W_region [0, 2, 4] fun R hR => ?_
 simp only [go_sem, ldS_at hd, stX_at hd, ldS_sv hlt, stX_sv hlt, sv_ext hlt, sv_ext_sv hlt]
 refine hR _ _ (kq1 _ _ ?_); clear hR R; try clear kq1 kz1
 try simp only [go_sem, ldS_at hd, stX_at hd, ldS_sv hlt, stX_sv hlt, sv_ext hlt, sv_ext_sv hlt]
 refine W_seq fun kz2 kq2 => ?_
 refine W_region [0, 2, 4, 7] fun R hR => ?_
 simp only [go_sem, ldS_at hd, stX_at hd, ldS_sv hlt, stX_sv hlt, sv_ext hlt, sv_ext_sv hlt]
 refine hR _ _ (kq2 _ _ ?_); clear hR R; try clear kq2 kz2
 try simp only [go_sem, ldS_at hd, stX_at hd, ldS_sv hlt, stX_sv hlt, sv_ext hlt, sv_ext_sv hlt]
 refine W_seq fun kz3 kq3 => ?_
 refine W_seq fun kz4 kq4 => ?_
 refine W_region [0, 2, 4, 7, 17] fun R hR => ?_
 simp only [go_sem, ldS_at hd, stX_at hd, ldS_sv hlt, stX_sv hlt, sv_ext hlt, sv_ext_sv hlt, hwjm]
 try simp (disch := omega) only [wrapI, wrapU]
 refine hR _ _ (kq4 _ _ ?_); clear hR R; try clear kq4 kz4
 try simp only [go_sem, ldS_at hd, stX_at hd, ldS_sv hlt, stX_sv hlt, sv_ext hlt, sv_ext_sv hlt]
 refine W_cond rfl (fun c1 => ?_) (fun c1 => ?_)
 ·try simp only [nrm] at c1
  have hr0 : res = ([], b) := by rw [← hres]; unfold ballotsD; rw [if_pos c1]; rfl
  refine W_seq fun kz5 kq5 => ?_
  refine W_region [6] fun R hR => ?_
  simp only [go_sem, ldS_at hd, stX_at hd, ldS_sv hlt, stX_sv hlt, sv_ext hlt, sv_ext_sv hlt]
  refine hR _ _ (kq5 _ _ ?_); clear hR R; try clear kq5 kz5
  try simp only [go_sem, ldS_at hd, stX_at hd, ldS_sv hlt, stX_sv hlt, sv_ext hlt, sv_ext_sv hlt]
  refine W_ret ?_
  simp only [go_sem, ldS_at hd, stX_at hd, ldS_sv hlt, stX_sv hlt, sv_ext hlt, sv_ext_sv hlt]
  refine ⟨.inr (by trivial), ?_⟩
  rw [hr0]; simp only [sv_self hd]; refine Fin_same hcl rfl (Wk.ro (by simp only [go_sem]) ?_)
  try simp only [go_sem]
  all_goals
   first | done | rfl | simp only [go_sem]
 ·try simp only [nrm] at c1
  obtain ⟨k0, hk0⟩ : ∃ zz, (roll (most + 1) b).1 = zz := ⟨_, rfl⟩
  obtain ⟨b1, hb1⟩ : ∃ zz, (roll (most + 1) b).2 = zz := ⟨_, rfl⟩
  have dk0 := roll_bd (most + 1) b
  simp only [hk0] at dk0
  obtain ⟨kn, hkn⟩ : ∃ z : Nat, k0 = z := ⟨k0.toNat, by omega⟩
  subst hkn
  obtain ⟨n3, hn3⟩ : ∃ z : Nat, 3 * (kn + 1) = z := ⟨_, rfl⟩
  have hn3i : 3 * ((kn : Int) + 1) = (n3 : Int) := by omega
  obtain ⟨ser, hser⟩ : ∃ zz, (orderD n3 b1).1 = zz := ⟨_, rfl⟩
  obtain ⟨b2, hb2⟩ : ∃ zz, (orderD n3 b1).2 = zz := ⟨_, rfl⟩
  have dser := orderD_perm n3 b1
  simp only [hser] at dser
  have hsl : ser.length = n3 := by rw [dser.length_eq]; simp
  have hsb : ∀ x, x ∈ ser → 0 ≤ x ∧ x < 100000 := fun x hx => by
   obtain ⟨i, h1, rfl⟩ := List.mem_map.1 (dser.mem_iff.1 hx)
   have := List.mem_range.1 h1
   omega
  have hres2 : ballotsC c ser kn 0 [] b2 = res := by
   rw [← hres]; unfold ballotsD; rw [if_neg c1]; simp only [dbind, hk0, hb1, hser, hb2, Int.toNat_natCast, hn3]
  refine W_skip (kq3 _ _ ?_)
  refine W_seq fun kz6 kq6 => ?_
  refine W_region [0, 4, 7, 8] fun R hR => ?_
  simp only [go_sem, ldS_at hd, stX_at hd, ldS_sv hlt, stX_sv hlt, sv_ext hlt, sv_ext_sv hlt, hk0, hb1, hser, hb2]
  try simp (disch := omega) only [wrapI]
  try simp (disch := omega) only [wrapI, wrapU]
  refine GCall_of (Roll_pc Y _ d b (by first | exact hd | exact sv_get hlt | exact get_svx hlt | exact get_extx hd) (most + 1) (by omega)) ?_
  simp only [go_sem, ldS_at hd, stX_at hd, ldS_sv hlt, stX_sv hlt, sv_ext hlt, sv_ext_sv hlt, hk0, hb1, hser, hb2]
  try simp (disch := omega) only [wrapI, wrapU]
  refine hR _ _ (kq6 _ _ ?_); clear hR R; try clear kq6 kz6
  try simp only [go_sem, ldS_at hd, stX_at hd, ldS_sv hlt, stX_sv hlt, sv_ext hlt, sv_ext_sv hlt, hk0, hb1, hser, hb2]
  refine W_seq fun kz7 kq7 => ?_
  refine W_region [0, 4, 7, 8, 9] fun R hR => ?_
  simp only [go_sem, ldS_at hd, stX_at hd, ldS_sv hlt, stX_sv hlt, sv_ext hlt, sv_ext_sv hlt, hk0, hb1, hser, hb2]
  try simp (disch := omega) only [wrapI]
  try simp only [hn3i]
  try simp (disch := omega) only [wrapI, wrapU]
  refine GCall_of (Order_pc Y _ d b1 (by first | exact hd | exact sv_get hlt | exact get_svx hlt | exact get_extx hd) n3 (by omega)) ?_
  simp only [go_sem, ldS_at hd, stX_at hd, ldS_sv hlt, stX_sv hlt, sv_ext hlt, sv_ext_sv hlt, hk0, hb1, hser, hb2]
  try simp (disch := omega) only [wrapI, wrapU]
  refine hR _ _ (kq7 _ _ ?_); clear hR R; try clear kq7 kz7
  try simp only [go_sem, ldS_at hd, stX_at hd, ldS_sv hlt, stX_sv hlt, sv_ext hlt, sv_ext_sv hlt, hk0, hb1, hser, hb2]
  refine W_seq fun kz8 kq8 => ?_
  refine W_seq fun kz9 kq9 => ?_
  refine W_region [0, 4, 7, 8, 9, 10] fun R hR => ?_
  simp only [go_sem, ldS_at hd, stX_at hd, ldS_sv hlt, stX_sv hlt, sv_ext hlt, sv_ext_sv hlt, hk0, hb1, hser, hb2]
  refine hR _ _ (kq9 _ _ ?_); clear hR R; try clear kq9 kz9
  try simp only [go_sem, ldS_at hd, stX_at hd, ldS_sv hlt, stX_sv hlt, sv_ext hlt, sv_ext_sv hlt, hk0, hb1, hser, hb2]
  refine W_block ?_
  refine W_weak (Weak.room (t := 7) (es := 6) rfl (by simp)) ?_
  refine W_weak (Weak.keep [0, 4, 7, 8, 9, 10]) ?_
  simp only [go_sem, ldS_at hd, stX_at hd, ldS_sv hlt, stX_sv hlt, sv_ext hlt, sv_ext_sv hlt, hk0, hb1, hser, hb2]
  refine W_loopT (α := Nat × (List Ballot) × Int) (fun ⟨i, acc, bb⟩ => [(7, .isl (acc.map blPV) (.tok σ.rooms.length acc.length 6)), (10, I i)]) (fun ⟨i, acc, bb⟩ => (σ.setVar d [.int .u64 bb]).ext [some (cnCells c)] [acc.length]) (fun ⟨i, acc, bb⟩ => i ≤ kn ∧ acc.length = i ∧ ballotsC c ser (kn - i) i acc bb = res) (fun ⟨i, acc, bb⟩ => kn - i) ((0, [], b2)) rfl (by first | rfl | (simp only [go_sem]; done) | (simp only [go_sem]; rfl)) (⟨Nat.zero_le _, rfl, hres2⟩) ?_
  rintro ⟨i, acc, bb⟩ ⟨hi, hal, hinv⟩
  refine W_seq fun kz10 kq10 => ?_
  refine W_seq fun kz11 kq11 => ?_
  refine W_region [0, 4, 7, 8, 9, 10, 30] fun R hR => ?_
  simp only [go_sem, ldS_at hd, stX_at hd, ldS_sv hlt, stX_sv hlt, sv_ext hlt, sv_ext_sv hlt, hk0, hb1, hser, hb2]
  refine hR _ _ (kq11 _ _ ?_); clear hR R; try clear kq11 kz11
  try simp only [go_sem, ldS_at hd, stX_at hd, ldS_sv hlt, stX_sv hlt, sv_ext hlt, sv_ext_sv hlt, hk0, hb1, hser, hb2]
  refine W_cond rfl (fun c2 => ?_) (fun c2 => ?_)
  ·try simp only [nrm] at c2
   have hi1 : i < kn := by first | omega | (simp at c2; omega)
   rw [show kn - i = (kn - (i + 1)) + 1 by omega] at hinv
   simp only [ballotsC, dbind] at hinv
   obtain ⟨sx, hsx⟩ : ∃ z, ser[i]? = some z := ⟨ser[i]'(by omega), by simp⟩
   have hil : (i : Int) < (ser.length : Int) := by omega
   have hsxb := hsb sx (List.mem_of_getElem? hsx)
   have hsa : serAt ser i = sx + 1 := by unfold serAt; rw [hsx]; rfl
   have hwx : IntKind.i64.wrap (sx + 1) = sx + 1 := wrapI (by omega) (by omega)
   obtain ⟨rd0, hrd0⟩ : ∃ zz, (roll c.rounds.length bb).1 = zz := ⟨_, rfl⟩
   obtain ⟨b3, hb3⟩ : ∃ zz, (roll c.rounds.length bb).2 = zz := ⟨_, rfl⟩
   have drd0 := roll_bd c.rounds.length bb
   simp only [hrd0] at drd0
   obtain ⟨kd, hkd⟩ : ∃ zz, (anyOf [1, 2] b3).1 = zz := ⟨_, rfl⟩
   obtain ⟨b4, hb4⟩ : ∃ zz, (anyOf [1, 2] b3).2 = zz := ⟨_, rfl⟩
   have dkd := anyOf_mem [1, 2] (by simp) b3
   simp only [hkd] at dkd
   obtain ⟨sg, hsg⟩ : ∃ zz, (roll c.songs b4).1 = zz := ⟨_, rfl⟩
   obtain ⟨b5, hb5⟩ : ∃ zz, (roll c.songs b4).2 = zz := ⟨_, rfl⟩
   have dsg := roll_bd c.songs b4
   simp only [hsg] at dsg
   simp only [hrd0, hb3, hkd, hb4, hsg, hb5, hsa] at hinv
   refine W_skip (kq10 _ _ ?_)
   refine W_seq fun kz12 kq12 => ?_
   refine W_block ?_
   refine W_seq fun kz13 kq13 => ?_
   refine W_draw [0, 4, 7, 8, 9, 10, 11] [0, 1, 2, 3, 4, 5, 6, 7, 8, 9, 10, 11, 12, 13, 14, 15, 16, 17, 18, 19] [(0, 12), (0, 16), (0, 18), (0, 19), (1, 12), (1, 16), (1, 18), (1, 19), (2, 12), (2, 16), (2, 18), (2, 19), (3, 12), (3, 16), (3, 18), (3, 19), (4, 12), (4, 16), (4, 18), (4, 19), (10, 9), (11, 9), (13, 9), (13, 12), (14, 9), (14, 12), (15, 9), (15, 12), (17, 19)] [[], [], [0, 1], [0, 1, 2], [0, 1, 2, 3], [], [], [6], [6, 7], [5, 6, 7, 8], [], [], [5, 6, 7, 8, 9, 10, 11], [], [], [14], [5, 6, 7, 8, 9, 10, 11, 12, 13, 14, 15], [0, 1, 2, 3, 4, 5, 6, 7, 8, 9, 10, 11, 12, 13, 14, 15, 16], [], [0, 1, 2, 3, 4, 5, 6, 7, 8, 9, 10, 11, 12, 13, 14, 15, 16, 17, 18]] mixed (by kernel_rfl) fun R hR => ?_
   simp only [go_sem, ldS_at hd, stX_at hd, ldS_sv hlt, stX_sv hlt, sv_ext hlt, sv_ext_sv hlt, hk0, hb1, hser, hb2, hrd0, hb3, hkd, hb4, hsg, hb5, hsx, hwx, hil]
   try simp (disch := omega) only [wrapI, wrapU]
   refine GCall_of (Roll_pc Y _ d bb (by first | exact hd | exact sv_get hlt | exact get_svx hlt | exact get_extx hd) c.rounds.length (by omega)) ?_
   simp only [go_sem, ldS_at hd, stX_at hd, ldS_sv hlt, stX_sv hlt, sv_ext hlt, sv_ext_sv hlt, hk0, hb1, hser, hb2, hrd0, hb3, hkd, hb4, hsg, hb5, hsx, hwx, hil]
   try simp (disch := omega) only [wrapI, wrapU]
   refine GCall_of (Any_pc Y _ d b3 (by first | exact hd | exact sv_get hlt | exact get_svx hlt | exact get_extx hd) [1, 2] (by simp) (by simp)) ?_
   simp only [go_sem, ldS_at hd, stX_at hd, ldS_sv hlt, stX_sv hlt, sv_ext hlt, sv_ext_sv hlt, hk0, hb1, hser, hb2, hrd0, hb3, hkd, hb4, hsg, hb5, hsx, hwx, hil]
   try simp (disch := omega) only [wrapI, wrapU]
   refine GCall_of (Roll_pc Y _ d b4 (by first | exact hd | exact sv_get hlt | exact get_svx hlt | exact get_extx hd) c.songs (by omega)) ?_
   simp only [go_sem, ldS_at hd, stX_at hd, ldS_sv hlt, stX_sv hlt, sv_ext hlt, sv_ext_sv hlt, hk0, hb1, hser, hb2, hrd0, hb3, hkd, hb4, hsg, hb5, hsx, hwx, hil]
   try simp (disch := omega) only [wrapI, wrapU]
   try refine And.intro (by repeat' (first | refine And.intro ?_ ?_ | exact GOr_right (fun _ => by simp only [go_sem, ldS_at hd, stX_at hd, ldS_sv hlt, stX_sv hlt, sv_ext hlt, sv_ext_sv hlt, hk0, hb1, hser, hb2, hrd0, hb3, hkd, hb4, hsg, hb5, hsx, hwx, hil]))) ?_
   refine hR _ _ (kq13 _ _ ?_); clear hR R; try clear kq13 kz13
   try simp only [go_sem, ldS_at hd, stX_at hd, ldS_sv hlt, stX_sv hlt, sv_ext hlt, sv_ext_sv hlt, hk0, hb1, hser, hb2, hrd0, hb3, hkd, hb4, hsg, hb5]
   refine W_seq fun kz14 kq14 => ?_
   refine W_seq fun kz15 kq15 => ?_
   refine W_region [0, 4, 7, 8, 9, 10, 11, 53] fun R hR => ?_
   simp only [go_sem, ldS_at hd, stX_at hd, ldS_sv hlt, stX_sv hlt, sv_ext hlt, sv_ext_sv hlt, hk0, hb1, hser, hb2, hrd0, hb3, hkd, hb4, hsg, hb5]
   refine hR _ _ (kq15 _ _ ?_); clear hR R; try clear kq15 kz15
   try simp only [go_sem, ldS_at hd, stX_at hd, ldS_sv hlt, stX_sv hlt, sv_ext hlt, sv_ext_sv hlt, hk0, hb1, hser, hb2, hrd0, hb3, hkd, hb4, hsg, hb5]
   refine W_cond rfl (fun c3 => ?_) (fun c3 => ?_)
   ·try simp only [nrm] at c3
    refine W_region [0, 4, 7, 8, 9, 10, 11] fun R hR => ?_
    simp only [go_sem, ldS_at hd, stX_at hd, ldS_sv hlt, stX_sv hlt, sv_ext hlt, sv_ext_sv hlt, hk0, hb1, hser, hb2, hrd0, hb3, hkd, hb4, hsg, hb5]
    refine hR _ _ (kq14 _ _ ?_); clear hR R; try clear kq14 kz14
    try simp only [go_sem, ldS_at hd, stX_at hd, ldS_sv hlt, stX_sv hlt, sv_ext hlt, sv_ext_sv hlt, hk0, hb1, hser, hb2, hrd0, hb3, hkd, hb4, hsg, hb5]
    refine W_seq fun kz16 kq16 => ?_
    refine W_seq fun kz17 kq17 => ?_
    refine W_region [0, 4, 7, 8, 9, 10, 11, 57] fun R hR => ?_
    simp only [go_sem, ldS_at hd, stX_at hd, ldS_sv hlt, stX_sv hlt, sv_ext hlt, sv_ext_sv hlt, hk0, hb1, hser, hb2, hrd0, hb3, hkd, hb4, hsg, hb5]
    refine hR _ _ (kq17 _ _ ?_); clear hR R; try clear kq17 kz17
    try simp only [go_sem, ldS_at hd, stX_at hd, ldS_sv hlt, stX_sv hlt, sv_ext hlt, sv_ext_sv hlt, hk0, hb1, hser, hb2, hrd0, hb3, hkd, hb4, hsg, hb5]
    refine W_cond rfl (fun c4 => ?_) (fun c4 => ?_)
    ·try simp only [nrm] at c4
     exfalso
     omega
    ·try simp only [nrm] at c4
     refine W_skip (kq16 _ _ ?_)
     refine W_seq fun kz18 kq18 => ?_
     refine W_seq fun kz19 kq19 => ?_
     refine W_region [0, 4, 7, 8, 9, 10, 11, 61] fun R hR => ?_
     simp only [go_sem, ldS_at hd, stX_at hd, ldS_sv hlt, stX_sv hlt, sv_ext hlt, sv_ext_sv hlt, hk0, hb1, hser, hb2, hrd0, hb3, hkd, hb4, hsg, hb5]
     refine hR _ _ (kq19 _ _ ?_); clear hR R; try clear kq19 kz19
     try simp only [go_sem, ldS_at hd, stX_at hd, ldS_sv hlt, stX_sv hlt, sv_ext hlt, sv_ext_sv hlt, hk0, hb1, hser, hb2, hrd0, hb3, hkd, hb4, hsg, hb5]
     refine W_cond rfl (fun c5 => ?_) (fun c5 => ?_)
     ·try simp only [nrm] at c5
      exfalso
      simp at c5
     ·try simp only [nrm] at c5
      rw [if_neg (by simp [c3, c4])] at hinv
      obtain ⟨v, hv⟩ : ∃ zz, (roll c.members b5).1 = zz := ⟨_, rfl⟩
      obtain ⟨b6, hb6⟩ : ∃ zz, (roll c.members b5).2 = zz := ⟨_, rfl⟩
      have dv := roll_bd c.members b5
      simp only [hv] at dv
      simp only [dbind, hv, hb6] at hinv
      refine W_region [0, 4, 7, 8, 9, 10, 11] fun R hR => ?_
      simp only [go_sem, ldS_at hd, stX_at hd, ldS_sv hlt, stX_sv hlt, sv_ext hlt, sv_ext_sv hlt, hk0, hb1, hser, hb2, hrd0, hb3, hkd, hb4, hsg, hb5, hv, hb6]
      refine GCall_of (Roll_pc Y _ d b5 (by first | exact hd | exact sv_get hlt | exact get_svx hlt | exact get_extx hd) c.members (by omega)) ?_
      simp only [go_sem, ldS_at hd, stX_at hd, ldS_sv hlt, stX_sv hlt, sv_ext hlt, sv_ext_sv hlt, hk0, hb1, hser, hb2, hrd0, hb3, hkd, hb4, hsg, hb5, hv, hb6]
      refine hR _ _ (kq18 _ _ ?_); clear hR R; try clear kq18 kz18
      try simp only [go_sem, ldS_at hd, stX_at hd, ldS_sv hlt, stX_sv hlt, sv_ext hlt, sv_ext_sv hlt, hk0, hb1, hser, hb2, hrd0, hb3, hkd, hb4, hsg, hb5, hv, hb6]
      refine W_region [0, 4, 7, 8, 9, 10] fun R hR => ?_
      simp only [go_sem, ldS_at hd, stX_at hd, ldS_sv hlt, stX_sv hlt, sv_ext hlt, sv_ext_sv hlt, hk0, hb1, hser, hb2, hrd0, hb3, hkd, hb4, hsg, hb5, hv, hb6]
      try simp (disch := first | omega | (simp only [go_sem] <;> omega)) only [wrapI, wrapU, appX_exact, appX_tok]
      try simp only [go_sem, ldS_at hd, stX_at hd, ldS_sv hlt, stX_sv hlt, sv_ext hlt, sv_ext_sv hlt, hk0, hb1, hser, hb2, hrd0, hb3, hkd, hb4, hsg, hb5, hv, hb6]
      refine hR _ _ (kq12 _ _ ?_); clear hR R; try clear kq12 kz12
      try simp only [go_sem, ldS_at hd, stX_at hd, ldS_sv hlt, stX_sv hlt, sv_ext hlt, sv_ext_sv hlt, hk0, hb1, hser, hb2, hrd0, hb3, hkd, hb4, hsg, hb5, hv, hb6]
      refine W_region [0, 4, 7, 8, 9, 10] fun R hR => ?_
      simp only [go_sem, ldS_at hd, stX_at hd, ldS_sv hlt, stX_sv hlt, sv_ext hlt, sv_ext_sv hlt, hk0, hb1, hser, hb2, hrd0, hb3, hkd, hb4, hsg, hb5, hv, hb6]
      try simp (disch := omega) only [wrapI, wrapU]
      refine hR _ _ ?_; clear hR R
      try simp only [go_sem, ldS_at hd, stX_at hd, ldS_sv hlt, stX_sv hlt, sv_ext hlt, sv_ext_sv hlt, hk0, hb1, hser, hb2, hrd0, hb3, hkd, hb4, hsg, hb5, hv, hb6]
      refine ⟨(i + 1, acc ++ [⟨sx + 1, rd0, 2, v, sg, 0⟩], b6), ?_, by (try simp only []); omega, ?_⟩
      ·refine Weak.trans (Weak.cutSV 1 1 (by omega) (by omega) hcl (by simp only [go_sem]) (by simp only [go_sem] <;> omega) (by simp only [go_sem] <;> omega)) ?_
       simp only [go_sem]
       exact Weak.eq rfl rfl
      ·try dsimp only
       exact ⟨by omega, by simp; omega, hinv⟩
   ·try simp only [nrm] at c3
    refine W_skip (kq14 _ _ ?_)
    refine W_seq fun kz20 kq20 => ?_
    refine W_seq fun kz21 kq21 => ?_
    refine W_region [0, 4, 7, 8, 9, 10, 11, 57] fun R hR => ?_
    simp only [go_sem, ldS_at hd, stX_at hd, ldS_sv hlt, stX_sv hlt, sv_ext hlt, sv_ext_sv hlt, hk0, hb1, hser, hb2, hrd0, hb3, hkd, hb4, hsg, hb5]
    refine hR _ _ (kq21 _ _ ?_); clear hR R; try clear kq21 kz21
    try simp only [go_sem, ldS_at hd, stX_at hd, ldS_sv hlt, stX_sv hlt, sv_ext hlt, sv_ext_sv hlt, hk0, hb1, hser, hb2, hrd0, hb3, hkd, hb4, hsg, hb5]
    refine W_cond rfl (fun c6 => ?_) (fun c6 => ?_)
    ·try simp only [nrm] at c6
     refine W_region [0, 4, 7, 8, 9, 10, 11] fun R hR => ?_
     simp only [go_sem, ldS_at hd, stX_at hd, ldS_sv hlt, stX_sv hlt, sv_ext hlt, sv_ext_sv hlt, hk0, hb1, hser, hb2, hrd0, hb3, hkd, hb4, hsg, hb5]
     refine hR _ _ (kq20 _ _ ?_); clear hR R; try clear kq20 kz20
     try simp only [go_sem, ldS_at hd, stX_at hd, ldS_sv hlt, stX_sv hlt, sv_ext hlt, sv_ext_sv hlt, hk0, hb1, hser, hb2, hrd0, hb3, hkd, hb4, hsg, hb5]
     refine W_seq fun kz22 kq22 => ?_
     refine W_seq fun kz23 kq23 => ?_
     refine W_region [0, 4, 7, 8, 9, 10, 11, 61] fun R hR => ?_
     simp only [go_sem, ldS_at hd, stX_at hd, ldS_sv hlt, stX_sv hlt, sv_ext hlt, sv_ext_sv hlt, hk0, hb1, hser, hb2, hrd0, hb3, hkd, hb4, hsg, hb5]
     refine hR _ _ (kq23 _ _ ?_); clear hR R; try clear kq23 kz23
     try simp only [go_sem, ldS_at hd, stX_at hd, ldS_sv hlt, stX_sv hlt, sv_ext hlt, sv_ext_sv hlt, hk0, hb1, hser, hb2, hrd0, hb3, hkd, hb4, hsg, hb5]
     refine W_cond rfl (fun c7 => ?_) (fun c7 => ?_)
     ·try simp only [nrm] at c7
      rw [if_pos (by simp [c6])] at hinv
      obtain ⟨v, hv⟩ : ∃ zz, (roll c.juries b5).1 = zz := ⟨_, rfl⟩
      obtain ⟨b6, hb6⟩ : ∃ zz, (roll c.juries b5).2 = zz := ⟨_, rfl⟩
      have dv := roll_bd c.juries b5
      simp only [hv] at dv
      obtain ⟨p, hp⟩ : ∃ zz, (mid 0 c.most b6).1 = zz := ⟨_, rfl⟩
      obtain ⟨b7, hb7⟩ : ∃ zz, (mid 0 c.most b6).2 = zz := ⟨_, rfl⟩
      have dp := mid_bd 0 c.most hms.1 b6
      simp only [hp] at dp
      simp only [dbind, hv, hb6, hp, hb7] at hinv
      refine W_draw [0, 4, 7, 8, 9, 10, 11] [0, 1, 2, 3, 4, 5, 6, 7, 8, 9, 10, 11] [(4, 3), (5, 3), (6, 3), (8, 7)] [[], [], [1], [0, 1, 2], [], [], [5], [0, 1, 2, 3, 4, 5, 6], [0, 1, 2, 3], [0, 1, 2, 3, 4, 5, 6, 7, 8], [0, 1, 2, 3, 4, 5, 6, 7, 8, 9], [0, 1, 2, 3, 4, 5, 6, 7, 8, 9, 10]] mixed (by kernel_rfl) fun R hR => ?_
      simp only [go_sem, ldS_at hd, stX_at hd, ldS_sv hlt, stX_sv hlt, sv_ext hlt, sv_ext_sv hlt, hk0, hb1, hser, hb2, hrd0, hb3, hkd, hb4, hsg, hb5, hv, hb6, hp, hb7]
      refine GCall_of (Roll_pc Y _ d b5 (by first | exact hd | exact sv_get hlt | exact get_svx hlt | exact get_extx hd) c.juries (by omega)) ?_
      simp only [go_sem, ldS_at hd, stX_at hd, ldS_sv hlt, stX_sv hlt, sv_ext hlt, sv_ext_sv hlt, hk0, hb1, hser, hb2, hrd0, hb3, hkd, hb4, hsg, hb5, hv, hb6, hp, hb7]
      refine GCall_of (Mid_pc Y _ d b6 (by first | exact hd | exact sv_get hlt | exact get_svx hlt | exact get_extx hd) 0 c.most (by omega) (by omega) (by omega) (by omega)) ?_
      simp only [go_sem, ldS_at hd, stX_at hd, ldS_sv hlt, stX_sv hlt, sv_ext hlt, sv_ext_sv hlt, hk0, hb1, hser, hb2, hrd0, hb3, hkd, hb4, hsg, hb5, hv, hb6, hp, hb7]
      try refine And.intro (by repeat' (first | refine And.intro ?_ ?_ | exact GOr_right (fun _ => by simp only [go_sem, ldS_at hd, stX_at hd, ldS_sv hlt, stX_sv hlt, sv_ext hlt, sv_ext_sv hlt, hk0, hb1, hser, hb2, hrd0, hb3, hkd, hb4, hsg, hb5, hv, hb6, hp, hb7]))) ?_
      refine hR _ _ (kq22 _ _ ?_); clear hR R; try clear kq22 kz22
      try simp only [go_sem, ldS_at hd, stX_at hd, ldS_sv hlt, stX_sv hlt, sv_ext hlt, sv_ext_sv hlt, hk0, hb1, hser, hb2, hrd0, hb3, hkd, hb4, hsg, hb5, hv, hb6, hp, hb7]
      refine W_region [0, 4, 7, 8, 9, 10] fun R hR => ?_
      simp only [go_sem, ldS_at hd, stX_at hd, ldS_sv hlt, stX_sv hlt, sv_ext hlt, sv_ext_sv hlt, hk0, hb1, hser, hb2, hrd0, hb3, hkd, hb4, hsg, hb5, hv, hb6, hp, hb7]
      try simp (disch := first | omega | (simp only [go_sem] <;> omega)) only [wrapI, wrapU, appX_exact, appX_tok]
      try simp only [go_sem, ldS_at hd, stX_at hd, ldS_sv hlt, stX_sv hlt, sv_ext hlt, sv_ext_sv hlt, hk0, hb1, hser, hb2, hrd0, hb3, hkd, hb4, hsg, hb5, hv, hb6, hp, hb7]
      refine hR _ _ (kq12 _ _ ?_); clear hR R; try clear kq12 kz12
      try simp only [go_sem, ldS_at hd, stX_at hd, ldS_sv hlt, stX_sv hlt, sv_ext hlt, sv_ext_sv hlt, hk0, hb1, hser, hb2, hrd0, hb3, hkd, hb4, hsg, hb5, hv, hb6, hp, hb7]
      refine W_region [0, 4, 7, 8, 9, 10] fun R hR => ?_
      simp only [go_sem, ldS_at hd, stX_at hd, ldS_sv hlt, stX_sv hlt, sv_ext hlt, sv_ext_sv hlt, hk0, hb1, hser, hb2, hrd0, hb3, hkd, hb4, hsg, hb5, hv, hb6, hp, hb7]
      try simp (disch := omega) only [wrapI, wrapU]
      refine hR _ _ ?_; clear hR R
      try simp only [go_sem, ldS_at hd, stX_at hd, ldS_sv hlt, stX_sv hlt, sv_ext hlt, sv_ext_sv hlt, hk0, hb1, hser, hb2, hrd0, hb3, hkd, hb4, hsg, hb5, hv, hb6, hp, hb7]
      refine ⟨(i + 1, acc ++ [⟨sx + 1, rd0, 1, v, sg, p⟩], b7), ?_, by (try simp only []); omega, ?_⟩
      ·refine Weak.trans (Weak.cutSV 1 1 (by omega) (by omega) hcl (by simp only [go_sem]) (by simp only [go_sem] <;> omega) (by simp only [go_sem] <;> omega)) ?_
       simp only [go_sem]
       exact Weak.eq rfl rfl
      ·try dsimp only
       exact ⟨by omega, by simp; omega, hinv⟩
     ·try simp only [nrm] at c7
      exfalso
      simp at c7
    ·try simp only [nrm] at c6
     refine W_skip (kq20 _ _ ?_)
     refine W_seq fun kz24 kq24 => ?_
     refine W_seq fun kz25 kq25 => ?_
     refine W_region [0, 4, 7, 8, 9, 10, 11, 61] fun R hR => ?_
     simp only [go_sem, ldS_at hd, stX_at hd, ldS_sv hlt, stX_sv hlt, sv_ext hlt, sv_ext_sv hlt, hk0, hb1, hser, hb2, hrd0, hb3, hkd, hb4, hsg, hb5]
     refine hR _ _ (kq25 _ _ ?_); clear hR R; try clear kq25 kz25
     try simp only [go_sem, ldS_at hd, stX_at hd, ldS_sv hlt, stX_sv hlt, sv_ext hlt, sv_ext_sv hlt, hk0, hb1, hser, hb2, hrd0, hb3, hkd, hb4, hsg, hb5]
     refine W_cond rfl (fun c8 => ?_) (fun c8 => ?_)
     ·try simp only [nrm] at c8
      rw [if_pos (by simp [c3, c6, c8])] at hinv
      obtain ⟨v, hv⟩ : ∃ zz, (roll c.juries b5).1 = zz := ⟨_, rfl⟩
      obtain ⟨b6, hb6⟩ : ∃ zz, (roll c.juries b5).2 = zz := ⟨_, rfl⟩
      have dv := roll_bd c.juries b5
      simp only [hv] at dv
      obtain ⟨p, hp⟩ : ∃ zz, (mid 0 c.most b6).1 = zz := ⟨_, rfl⟩
      obtain ⟨b7, hb7⟩ : ∃ zz, (mid 0 c.most b6).2 = zz := ⟨_, rfl⟩
      have dp := mid_bd 0 c.most hms.1 b6
      simp only [hp] at dp
      simp only [dbind, hv, hb6, hp, hb7] at hinv
      subst c8
      refine W_draw [0, 4, 7, 8, 9, 10, 11] [0, 1, 2, 3, 4, 5, 6, 7, 8, 9, 10, 11] [(4, 3), (5, 3), (6, 3), (8, 7)] [[], [], [1], [0, 1, 2], [], [], [5], [0, 1, 2, 3, 4, 5, 6], [0, 1, 2, 3], [0, 1, 2, 3, 4, 5, 6, 7, 8], [0, 1, 2, 3, 4, 5, 6, 7, 8, 9], [0, 1, 2, 3, 4, 5, 6, 7, 8, 9, 10]] mixed (by kernel_rfl) fun R hR => ?_
      simp only [go_sem, ldS_at hd, stX_at hd, ldS_sv hlt, stX_sv hlt, sv_ext hlt, sv_ext_sv hlt, hk0, hb1, hser, hb2, hrd0, hb3, hkd, hb4, hsg, hb5, hv, hb6, hp, hb7]
      refine GCall_of (Roll_pc Y _ d b5 (by first | exact hd | exact sv_get hlt | exact get_svx hlt | exact get_extx hd) c.juries (by omega)) ?_
      simp only [go_sem, ldS_at hd, stX_at hd, ldS_sv hlt, stX_sv hlt, sv_ext hlt, sv_ext_sv hlt, hk0, hb1, hser, hb2, hrd0, hb3, hkd, hb4, hsg, hb5, hv, hb6, hp, hb7]
      refine GCall_of (Mid_pc Y _ d b6 (by first | exact hd | exact sv_get hlt | exact get_svx hlt | exact get_extx hd) 0 c.most (by omega) (by omega) (by omega) (by omega)) ?_
      simp only [go_sem, ldS_at hd, stX_at hd, ldS_sv hlt, stX_sv hlt, sv_ext hlt, sv_ext_sv hlt, hk0, hb1, hser, hb2, hrd0, hb3, hkd, hb4, hsg, hb5, hv, hb6, hp, hb7]
      try refine And.intro (by repeat' (first | refine And.intro ?_ ?_ | exact GOr_right (fun _ => by simp only [go_sem, ldS_at hd, stX_at hd, ldS_sv hlt, stX_sv hlt, sv_ext hlt, sv_ext_sv hlt, hk0, hb1, hser, hb2, hrd0, hb3, hkd, hb4, hsg, hb5, hv, hb6, hp, hb7]))) ?_
      refine hR _ _ (kq24 _ _ ?_); clear hR R; try clear kq24 kz24
      try simp only [go_sem, ldS_at hd, stX_at hd, ldS_sv hlt, stX_sv hlt, sv_ext hlt, sv_ext_sv hlt, hk0, hb1, hser, hb2, hrd0, hb3, hkd, hb4, hsg, hb5, hv, hb6, hp, hb7]
      refine W_region [0, 4, 7, 8, 9, 10] fun R hR => ?_
      simp only [go_sem, ldS_at hd, stX_at hd, ldS_sv hlt, stX_sv hlt, sv_ext hlt, sv_ext_sv hlt, hk0, hb1, hser, hb2, hrd0, hb3, hkd, hb4, hsg, hb5, hv, hb6, hp, hb7]
      try simp (disch := first | omega | (simp only [go_sem] <;> omega)) only [wrapI, wrapU, appX_exact, appX_tok]
      try simp only [go_sem, ldS_at hd, stX_at hd, ldS_sv hlt, stX_sv hlt, sv_ext hlt, sv_ext_sv hlt, hk0, hb1, hser, hb2, hrd0, hb3, hkd, hb4, hsg, hb5, hv, hb6, hp, hb7]
      refine hR _ _ (kq12 _ _ ?_); clear hR R; try clear kq12 kz12
      try simp only [go_sem, ldS_at hd, stX_at hd, ldS_sv hlt, stX_sv hlt, sv_ext hlt, sv_ext_sv hlt, hk0, hb1, hser, hb2, hrd0, hb3, hkd, hb4, hsg, hb5, hv, hb6, hp, hb7]
      refine W_region [0, 4, 7, 8, 9, 10] fun R hR => ?_
      simp only [go_sem, ldS_at hd, stX_at hd, ldS_sv hlt, stX_sv hlt, sv_ext hlt, sv_ext_sv hlt, hk0, hb1, hser, hb2, hrd0, hb3, hkd, hb4, hsg, hb5, hv, hb6, hp, hb7]
      try simp (disch := omega) only [wrapI, wrapU]
      refine hR _ _ ?_; clear hR R
      try simp only [go_sem, ldS_at hd, stX_at hd, ldS_sv hlt, stX_sv hlt, sv_ext hlt, sv_ext_sv hlt, hk0, hb1, hser, hb2, hrd0, hb3, hkd, hb4, hsg, hb5, hv, hb6, hp, hb7]
      refine ⟨(i + 1, acc ++ [⟨sx + 1, rd0, 1, v, sg, p⟩], b7), ?_, by (try simp only []); omega, ?_⟩
      ·refine Weak.trans (Weak.cutSV 1 1 (by omega) (by omega) hcl (by simp only [go_sem]) (by simp only [go_sem] <;> omega) (by simp only [go_sem] <;> omega)) ?_
       simp only [go_sem]
       exact Weak.eq rfl rfl
      ·try dsimp only
       exact ⟨by omega, by simp; omega, hinv⟩
     ·try simp only [nrm] at c8
      rw [if_neg (by simp [c3, c6, c8])] at hinv
      obtain ⟨v, hv⟩ : ∃ zz, (roll c.members b5).1 = zz := ⟨_, rfl⟩
      obtain ⟨b6, hb6⟩ : ∃ zz, (roll c.members b5).2 = zz := ⟨_, rfl⟩
      have dv := roll_bd c.members b5
      simp only [hv] at dv
      simp only [dbind, hv, hb6] at hinv
      have hk2 : kd = 2 := by
       rcases mem2 dkd with h | h
       ·exact absurd h c8
       ·exact h
      subst hk2
      refine W_region [0, 4, 7, 8, 9, 10, 11] fun R hR => ?_
      simp only [go_sem, ldS_at hd, stX_at hd, ldS_sv hlt, stX_sv hlt, sv_ext hlt, sv_ext_sv hlt, hk0, hb1, hser, hb2, hrd0, hb3, hkd, hb4, hsg, hb5, hv, hb6]
      refine GCall_of (Roll_pc Y _ d b5 (by first | exact hd | exact sv_get hlt | exact get_svx hlt | exact get_extx hd) c.members (by omega)) ?_
      simp only [go_sem, ldS_at hd, stX_at hd, ldS_sv hlt, stX_sv hlt, sv_ext hlt, sv_ext_sv hlt, hk0, hb1, hser, hb2, hrd0, hb3, hkd, hb4, hsg, hb5, hv, hb6]
      refine hR _ _ (kq24 _ _ ?_); clear hR R; try clear kq24 kz24
      try simp only [go_sem, ldS_at hd, stX_at hd, ldS_sv hlt, stX_sv hlt, sv_ext hlt, sv_ext_sv hlt, hk0, hb1, hser, hb2, hrd0, hb3, hkd, hb4, hsg, hb5, hv, hb6]
      refine W_region [0, 4, 7, 8, 9, 10] fun R hR => ?_
      simp only [go_sem, ldS_at hd, stX_at hd, ldS_sv hlt, stX_sv hlt, sv_ext hlt, sv_ext_sv hlt, hk0, hb1, hser, hb2, hrd0, hb3, hkd, hb4, hsg, hb5, hv, hb6]
      try simp (disch := first | omega | (simp only [go_sem] <;> omega)) only [wrapI, wrapU, appX_exact, appX_tok]
      try simp only [go_sem, ldS_at hd, stX_at hd, ldS_sv hlt, stX_sv hlt, sv_ext hlt, sv_ext_sv hlt, hk0, hb1, hser, hb2, hrd0, hb3, hkd, hb4, hsg, hb5, hv, hb6]
      refine hR _ _ (kq12 _ _ ?_); clear hR R; try clear kq12 kz12
      try simp only [go_sem, ldS_at hd, stX_at hd, ldS_sv hlt, stX_sv hlt, sv_ext hlt, sv_ext_sv hlt, hk0, hb1, hser, hb2, hrd0, hb3, hkd, hb4, hsg, hb5, hv, hb6]
      refine W_region [0, 4, 7, 8, 9, 10] fun R hR => ?_
      simp only [go_sem, ldS_at hd, stX_at hd, ldS_sv hlt, stX_sv hlt, sv_ext hlt, sv_ext_sv hlt, hk0, hb1, hser, hb2, hrd0, hb3, hkd, hb4, hsg, hb5, hv, hb6]
      try simp (disch := omega) only [wrapI, wrapU]
      refine hR _ _ ?_; clear hR R
      try simp only [go_sem, ldS_at hd, stX_at hd, ldS_sv hlt, stX_sv hlt, sv_ext hlt, sv_ext_sv hlt, hk0, hb1, hser, hb2, hrd0, hb3, hkd, hb4, hsg, hb5, hv, hb6]
      refine ⟨(i + 1, acc ++ [⟨sx + 1, rd0, 2, v, sg, 0⟩], b6), ?_, by (try simp only []); omega, ?_⟩
      ·refine Weak.trans (Weak.cutSV 1 1 (by omega) (by omega) hcl (by simp only [go_sem]) (by simp only [go_sem] <;> omega) (by simp only [go_sem] <;> omega)) ?_
       simp only [go_sem]
       exact Weak.eq rfl rfl
      ·try dsimp only
       exact ⟨by omega, by simp; omega, hinv⟩
  ·try simp only [nrm] at c2
   have hie : kn = i := by first | omega | (simp at c2; omega)
   subst hie
   rw [Nat.sub_self] at hinv
   simp only [ballotsC, dret] at hinv
   refine W_exit ?_
   simp only [go_sem, ldS_at hd, stX_at hd, ldS_sv hlt, stX_sv hlt, sv_ext hlt, sv_ext_sv hlt, hk0, hb1, hser, hb2]
   refine kq8 _ _ ?_
   refine W_seq fun kz26 kq26 => ?_
   refine W_region [6] fun R hR => ?_
   simp only [go_sem, ldS_at hd, stX_at hd, ldS_sv hlt, stX_sv hlt, sv_ext hlt, sv_ext_sv hlt, hk0, hb1, hser, hb2]
   refine hR _ _ (kq26 _ _ ?_); clear hR R; try clear kq26 kz26
   try simp only [go_sem, ldS_at hd, stX_at hd, ldS_sv hlt, stX_sv hlt, sv_ext hlt, sv_ext_sv hlt, hk0, hb1, hser, hb2]
   refine W_ret ?_
   simp only [go_sem, ldS_at hd, stX_at hd, ldS_sv hlt, stX_sv hlt, sv_ext hlt, sv_ext_sv hlt, hk0, hb1, hser, hb2]
   refine ⟨.inr (by trivial), ?_⟩
   rw [← hinv]; refine Fin_set hcl (by simp only [go_sem]) rfl (Wk.ro (by simp only [go_sem]) ?_)
   try simp only [go_sem]
   all_goals
    first | done | rfl | simp only [go_sem]
theorem cA_rowA {a b c : Nat} {l : List Std} {p q u v : Int} : CleanAll a b c (rowC (l.map sdPV ++ [.agg [I p, I q, I u, I v]])) = True := by
 rw [show (l.map sdPV ++ [PV.agg [I p, I q, I u, I v]]) = (l ++ [(⟨p, q, u, v⟩ : Std)]).map sdPV by simp [sdPV, sdCells]]
 exact cA_row4
attribute [go_sem] cA_rowA
theorem jur_nn {c : Contest} {l : List Ballot} {r : Rnd} {rd : Int} {ss : List Int} (hjr : 0 ≤ c.juries) (hb : ∀ b, b ∈ l → BlV c b) (s : Int) : 0 ≤ jurT (countT r rd ss l) c s := by
 have sp := voices_spec rd ss l l.length
 have he : ∀ e, e ∈ voices rd ss l l.length → ∃ b, b ∈ l ∧ e.1 = keyOf b := fun e h => by
  obtain ⟨k, b, _, _, h3, h4, _⟩ := sp.en e h
  exact ⟨b, List.mem_of_getElem? h3, h4⟩
 have := voters_le hjr (p := fun v => decide (v.1 = 1 ∧ v.2.2 = s)) sp.nd (fun e h hp => by
  obtain ⟨b, h1, h2⟩ := he e h
  simp only [decide_eq_true_eq] at hp
  rw [h2] at hp ⊢
  have hk : b.kind = 1 := hp.1
  have := (hb b h1).vt
  rw [if_neg (by omega)] at this
  exact this) (fun e e' h h' hp hp' heq => by
  obtain ⟨b, _, h2⟩ := he e h
  obtain ⟨b', _, h2'⟩ := he e' h'
  simp only [decide_eq_true_eq] at hp hp'
  refine Prod.ext (hp.1.trans hp'.1.symm) (Prod.ext heq (hp.2.trans hp'.2.symm)))
 have e : (voices rd ss l l.length).map (fun e => gJ s e.1) = (voices rd ss l l.length).map fun e => if (fun v : Voice => decide (v.1 = 1 ∧ v.2.2 = s)) e.1 then (1 : Int) else 0 := by
  refine List.map_congr_left fun e _ => ?_
  unfold gJ
  by_cases h : e.1.1 = 1 ∧ e.1.2.2 = s
  ·simp [h]
  ·rw [if_neg h]; simp [h]
 show 0 ≤ c.juries - ((voices rd ss l l.length).map fun e => gJ s e.1).sum
 rw [e]
 exact Int.sub_nonneg.2 this
theorem seqF_len {α : Type} {g : Nat → List α} {B : Nat} (h : ∀ q, (g q).length ≤ B) (n : Nat) : (seqF g n).length ≤ n * B := by
 induction n with
 | zero => simp [seqF]
 | succ n ih =>
  have := h n
  rw [seqF_succ, List.length_append, Nat.add_mul]
  omega
theorem finJ_len {r : Rnd} {most : Nat} : ∀ (k : Nat) (js : List Int) (l : List Std), (finJ r most k js l).length ≤ (most + 1) ^ k := by
 intro k
 induction k with
 | zero => intro js l; simp [finJ]
 | succ k ih =>
  intro js l
  simp only [finJ]
  split
  ·exact Nat.one_le_pow _ _ (by omega)
  ·rw [Nat.pow_succ, Nat.mul_comm]
   exact seqF_len (fun q => ih _ _) _
theorem addS_len {r : Rnd} {l : List Std} {i : Nat} {p v : Int} : (addS r l i p v).length = l.length := by
 unfold addS
 split <;> simp
theorem finM_len {r : Rnd} {most N : Nat} {js : List Int} : ∀ (m : Nat) (l : List Std), l.length = N → (finM r most js m l).length ≤ (N + 1) ^ m * (most + 1) ^ js.sum.toNat := by
 intro m
 induction m with
 | zero => intro l _; simp only [finM, Nat.pow_zero, Nat.one_mul]; exact finJ_len _ _ _
 | succ m ih =>
  intro l hl
  simp only [finM, List.length_append]
  have h1 := ih l hl
  have h2 := seqF_len (g := fun i => finM r most js m (addS r l i 0 1)) (fun q => ih _ (by rw [addS_len]; exact hl)) l.length
  rw [hl] at h2 ⊢
  rw [Nat.pow_succ, Nat.mul_comm ((N + 1) ^ m) (N + 1), Nat.mul_assoc, Nat.add_mul, Nat.one_mul]
  omega
structure Small (c : Contest) (t : Tally) (fr most : Nat) : Prop where
 ms : c.most = most
 m2 : most ≤ 2
 sl : t.songs.length ≤ 3
 f4 : fr ≤ 4
 jn : ∀ x, 0 ≤ jurT t c x
 j1 : ∀ x, jurT t c x ≤ 1
theorem small_of {c : Contest} {l : List Ballot} {rn : Nat} {t : Tally} {fr : Nat} (hO : RndOk c l rn t fr) (hM : CnMade c 3 1 4) (h2 : c.most ≤ 2) : ∃ most, Small c t fr most := by
 have hms := hM.ms
 have hjr := hM.jr
 have hmb := hM.mb
 have hsg := hM.sg
 refine ⟨c.most.toNat, by omega, by omega, ?_, ?_, fun x => by rw [hO.te]; exact jur_nn hjr.1 hO.hb x, fun x => ?_⟩
 ·have hp : ((toN 3).filter fun x => decide (x ∈ t.songs)).Perm t.songs := (List.perm_ext_iff_of_nodup ((toN_up 3).nodup.sublist List.filter_sublist) hO.nd).2 fun x => by
   rw [List.mem_filter, decide_eq_true_eq]
   exact ⟨fun h => h.2, fun h => ⟨mem_toN.2 (by have := hO.sb x h; omega), h⟩⟩
  have h1 := hp.length_eq
  have h3 := List.length_filter_le (fun x => decide (x ∈ t.songs)) (toN 3)
  rw [toN_len] at h3
  omega
 ·have := sumM_bd gM_bd t.m
  have := hO.ff
  unfold freeT at this
  omega
 ·have := sumM_bd (gJ_bd x) t.m
  unfold jurT
  omega
theorem W_start {c : Contest} {l : List Ballot} {rn : Nat} {t : Tally} {fr most : Nat} (hO : RndOk c l rn t fr) (hS : Small c t fr most) {A : List Std} {m : Nat} (hA : A.length = t.songs.length) (hp : ∀ x, x ∈ A → 0 ≤ x.points ∧ x.points ≤ 2 ^ 20) (hv : ∀ x, x ∈ A → 0 ≤ x.votes ∧ x.votes ≤ 2 ^ 20 + 10) (hm : m ≤ 4) : WOk c t.rd most t.songs.length A (t.songs.map (jurT t c)) m (fun _ => 0) := by
 have hj := sumL_bd (b := 1) (l := t.songs.map (jurT t c)) fun x hx => by
  obtain ⟨s, _, rfl⟩ := List.mem_map.1 hx
  exact ⟨hS.jn s, hS.j1 s⟩
 rw [List.length_map] at hj
 have hsl := hS.sl
 have hm2 := hS.m2
 have hlen : (finM t.rd most (t.songs.map (jurT t c)) m A).length ≤ 2 ^ 20 := by
  refine Nat.le_trans (finM_len m A hA) (Nat.le_trans (Nat.mul_le_mul (Nat.le_trans (Nat.pow_le_pow_left (show t.songs.length + 1 ≤ 4 by omega) m) (Nat.pow_le_pow_right (by omega) hm)) (Nat.le_trans (Nat.pow_le_pow_left (show most + 1 ≤ 3 by omega) _) (Nat.pow_le_pow_right (by omega) (show (t.songs.map (jurT t c)).sum.toNat ≤ 3 by omega)))) (by decide))
 have h1 := hO.T.wj
 have h2 := hO.T.wm
 exact ⟨by omega, by omega, hS.ms, by omega, hA, by rw [List.length_map], by omega, fun j h => by obtain ⟨s, _, rfl⟩ := List.mem_map.1 h; exact hS.jn s, by omega, by omega, fun x hx => by have := hp x hx; omega, fun x hx => by have := hv x hx; omega, by omega, fun i _ => by omega⟩
theorem allT_pts {t : Tally} (hT : TlB t) {x : Std} (hx : x ∈ allT t) : (0 ≤ x.points ∧ x.points ≤ 2 ^ 20) ∧ 0 ≤ x.votes ∧ x.votes ≤ 2 ^ 20 := by
 obtain ⟨s, _, rfl⟩ := List.mem_map.1 hx
 have h1 := hT.pb s.toNat
 have h2 := hT.vb s.toNat
 show (0 ≤ t.pts s.toNat + 0 ∧ t.pts s.toNat + 0 ≤ 2 ^ 20) ∧ 0 ≤ t.vts s.toNat + 0 ∧ t.vts s.toNat + 0 ≤ 2 ^ 20
 omega
theorem ways_start (c : Contest) (r : Rnd) (most N mid : Nat) (A : List Std) (js : List Int) (m : Nat) (hW : WOk c r most N A js m (fun _ => 0)) (Y : YEnv) (σ : Sg) (hd : σ.store[mid]? = some (some ((List.replicate N (0 : Int)).map I))) : PC Tryz.prog Y 14 [cnPV c, rdPV r, sds A, I (m : Nat), ints js, .msl mid 0 N] σ (I ((finM r most js m A).length : Nat)) (σ.setVar mid ((rowG (cntK r.keep (finM r most js m A)) N).map I)) := by
 have h := ways_pc c r most N mid _ A js m (fun _ => 0) (Nat.lt_succ_self _) hW Y σ (by rw [rowG_zero]; exact hd)
 rw [show (fun s => (fun _ => (0 : Int)) s + cntK r.keep (finM r most js m A) s) = cntK r.keep (finM r most js m A) by funext s; exact Int.zero_add _] at h
 exact h
def smallC (c : Contest) (mo : Int) : Contest := { c with most := mo }
theorem smallC_ok {c : Contest} {mo : Int} (h : CnMade c 3 1 4) (hm : 0 ≤ mo ∧ mo ≤ 2) : CnMade (smallC c mo) 3 1 4 := by
 refine ⟨?_, h.sg, h.jr, h.mb, (show 0 ≤ mo ∧ mo ≤ 10 by omega), h.rl⟩
 have h1 := h.ok
 have hs := h.sg
 have hj := h.jr
 have hb := h.mb
 have hms := h.ms
 unfold chkCn at h1 ⊢
 have e : ∀ m : Int, 0 ≤ m ∧ m ≤ 10 → chkCn0 (smallC c m) = true := fun m hm => by
  simp only [chkCn0, allIn1, Bool.and_eq_true, inR_true, smallC]
  omega
 have e1 : chkCn0 c = true := by
  simp only [chkCn0, allIn1, Bool.and_eq_true, inR_true]
  omega
 rw [e mo (by omega)]
 rw [e1] at h1
 exact h1
set_option maxHeartbeats 4000000 in
theorem standR_pc (Y : YEnv) (σ : Sg) (t : Tally) (hl : t.songs.length ≤ 8) :
  PC Tryz.prog Y 15 [rsPV (resT t)] σ (sds (allT t)) (σ) := by
 refine PC_of_W Tryz.func15 rfl (by kernel_rfl) Tryz.ntmps15 (by simp) fun hcl hca => ?_
 obtain ⟨A, hA⟩ : ∃ z, allT t = z := ⟨_, rfl⟩
 obtain ⟨K, hK⟩ : ∃ z, (resT t).kept = z := ⟨_, rfl⟩
 have hRs : resT t = ⟨t.songs, A.map (·.points), A.map (·.votes), A.map (·.score), K⟩ := by rw [← hA, ← hK]; rfl
 have hAs : A.map (·.song) = t.songs := by rw [← hA, allT_song]
 have hAl : A.length = t.songs.length := by rw [← hA, allT_len]
 obtain ⟨P1, hP1⟩ : ∃ z, A.map (·.points) = z := ⟨_, rfl⟩
 obtain ⟨P2, hP2⟩ : ∃ z, A.map (·.votes) = z := ⟨_, rfl⟩
 obtain ⟨P3, hP3⟩ : ∃ z, A.map (·.score) = z := ⟨_, rfl⟩
 rw [hRs, hP1, hP2, hP3]
 rw [hA]
 refine W_seq fun kz1 kq1 => ?_
 refine W_region [1] fun R hR => ?_
 simp only [go_sem]
 refine hR _ _ (kq1 _ _ ?_); clear hR R; try clear kq1 kz1
 try simp only [go_sem]
 refine W_seq fun kz2 kq2 => ?_
 refine W_region [1, 3] fun R hR => ?_
 simp only [go_sem]
 refine hR _ _ (kq2 _ _ ?_); clear hR R; try clear kq2 kz2
 try simp only [go_sem]
 refine W_seq fun kz3 kq3 => ?_
 refine W_seq fun kz4 kq4 => ?_
 refine W_region [1, 3, 4] fun R hR => ?_
 simp only [go_sem]
 refine hR _ _ (kq4 _ _ ?_); clear hR R; try clear kq4 kz4
 try simp only [go_sem]
 refine W_block ?_
 refine W_weak (Weak.room (t := 3) (es := 4) rfl (by simp)) ?_
 refine W_weak (Weak.keep [1, 3, 4]) ?_
 simp only [go_sem]
 refine W_loopT (α := Nat) (fun (i : Nat) => [(3, .isl ((A.take i).map sdPV) (.tok σ.rooms.length i 4)), (4, I i)]) (fun (i : Nat) => σ.ext [some [ints t.songs, ints P1, ints P2, ints P3, ints K]] [i]) (fun (i : Nat) => i ≤ A.length) (fun (i : Nat) => A.length - i) (0) rfl (by first | rfl | (simp only [go_sem]; done) | (simp only [go_sem]; rfl)) (Nat.zero_le _) ?_
 rintro i hi
 refine W_seq fun kz5 kq5 => ?_
 refine W_seq fun kz6 kq6 => ?_
 refine W_region [1, 3, 4, 9] fun R hR => ?_
 simp only [go_sem]
 refine hR _ _ (kq6 _ _ ?_); clear hR R; try clear kq6 kz6
 try simp only [go_sem]
 refine W_cond rfl (fun c1 => ?_) (fun c1 => ?_)
 ·try simp only [nrm] at c1
  have hi' : i < A.length := by first | omega | (simp at c1; omega)
  obtain ⟨x, hx⟩ : ∃ z, A[i]? = some z := ⟨A[i], by simp [hi']⟩
  have hil : (i : Int) < (A.length : Int) := by omega
  have hil2 : (i : Int) < (t.songs.length : Int) := by omega
  have hl1 : P1.length = A.length := by rw [← hP1]; simp
  have hl2 : P2.length = A.length := by rw [← hP2]; simp
  have hl3 : P3.length = A.length := by rw [← hP3]; simp
  have hx0 : t.songs[i]? = some x.song := by rw [← hAs, List.getElem?_map, hx]; rfl
  have hx1 : P1[i]? = some x.points := by rw [← hP1, List.getElem?_map, hx]; rfl
  have hx2 : P2[i]? = some x.votes := by rw [← hP2, List.getElem?_map, hx]; rfl
  have hx3 : P3[i]? = some x.score := by rw [← hP3, List.getElem?_map, hx]; rfl
  have hA1 : A.take (i + 1) = A.take i ++ [x] := by rw [List.take_add_one, hx]; rfl
  have htl : (A.take i).length = i := by rw [List.length_take]; omega
  refine W_skip (kq5 _ _ ?_)
  refine W_seq fun kz7 kq7 => ?_
  refine W_block ?_
  refine W_draw [1, 3, 4] [0, 1, 2, 3, 4, 5, 6, 7, 8, 9, 10, 11, 12, 13, 14, 15, 16, 17, 18, 19, 20, 21, 22, 23, 24] [] [[], [], [1], [], [1, 2, 3], [1, 2, 3, 4], [], [6], [], [6, 7, 8], [6, 7, 8, 9], [], [11], [], [11, 12, 13], [11, 12, 13, 14], [], [16], [], [16, 17, 18], [16, 17, 18, 19], [1, 2, 3, 4, 5, 6, 7, 8, 9, 10, 11, 12, 13, 14, 15, 16, 17, 18, 19, 20], [1, 2, 3, 4, 5, 6, 7, 8, 9, 10, 11, 12, 13, 14, 15, 16, 17, 18, 19, 20, 21], [0, 1, 2, 3, 4, 5, 6, 7, 8, 9, 10, 11, 12, 13, 14, 15, 16, 17, 18, 19, 20, 21, 22], [0, 1, 2, 3, 4, 5, 6, 7, 8, 9, 10, 11, 12, 13, 14, 15, 16, 17, 18, 19, 20, 21, 22, 23]] mixed (by kernel_rfl) fun R hR => ?_
  simp only [go_sem, hil, hil2, hl1, hl2, hl3, hx0, hx1, hx2, hx3]
  try simp (disch := first | omega | (simp only [go_sem] <;> omega)) only [wrapI, wrapU, appX_exact, appX_tok]
  try simp only [go_sem, hil, hil2, hl1, hl2, hl3, hx0, hx1, hx2, hx3]
  try refine And.intro (by repeat' (first | refine And.intro ?_ ?_ | exact trivial | exact GOr_right (fun _ => by simp only [go_sem, hil, hil2, hl1, hl2, hl3, hx0, hx1, hx2, hx3]))) ?_
  refine hR _ _ (kq7 _ _ ?_); clear hR R; try clear kq7 kz7
  try simp only [go_sem]
  refine W_region [1, 3, 4] fun R hR => ?_
  simp only [go_sem]
  try simp (disch := omega) only [wrapI, wrapU]
  refine hR _ _ ?_; clear hR R
  try simp only [go_sem]
  refine ⟨i + 1, ?_, by (try simp only []); omega, ?_⟩
  ·exact Weak.eq (by rw [hA1]; simp only [List.map_append, List.map_cons, List.map_nil]; first | done | rfl) rfl
  ·try dsimp only
   exact hi'
 ·try simp only [nrm] at c1
  have hie : A.length = i := by first | omega | (simp at c1; omega)
  subst hie
  rw [List.take_length]
  refine W_exit ?_
  simp only [go_sem]
  refine kq3 _ _ ?_
  refine W_seq fun kz8 kq8 => ?_
  refine W_region [2] fun R hR => ?_
  simp only [go_sem]
  refine hR _ _ (kq8 _ _ ?_); clear hR R; try clear kq8 kz8
  try simp only [go_sem]
  refine W_ret ?_
  simp only [go_sem]
  refine ⟨.inr (by trivial), ?_⟩
  refine Fin_same hcl rfl (Wk.ro (by simp only [go_sem]) ?_)
  try simp only [go_sem]
  all_goals
   first | rfl | (simp only [go_sem]; done)
set_option maxHeartbeats 4000000 in
theorem whole_pc (Y : YEnv) (σ : Sg) (c : Contest) (l : List Ballot) (rn : Nat) (t : Tally) (hr : c.rounds.length < 2 ^ 40) (hl : l.length < 2 ^ 40) (h0 : chkBls c l = 0) (ht : (roundsT c l)[rn]? = some t) :
  PC Tryz.prog Y 12 [cnPV c, bls l, I rn] σ (rsPV (resT t)) (σ) := by
 refine PC_of_W Tryz.func12 rfl (by kernel_rfl) Tryz.ntmps12 (by simp) fun hcl hca => ?_
 have hrun : runD c l = (resultsT c l, winnerT c l, 0) := by unfold runD; rw [if_neg (by simp [h0])]
 obtain ⟨RR, hRR⟩ : ∃ z, resultsT c l = z := ⟨_, rfl⟩
 obtain ⟨WW, hWW⟩ : ∃ z, winnerT c l = z := ⟨_, rfl⟩
 rw [hRR, hWW] at hrun
 have hRt : RR[rn]? = some (resT t) := by rw [← hRR]; unfold resultsT; rw [List.getElem?_map, ht]; rfl
 have hrl : (rn : Int) < (RR.length : Int) := by have := (List.getElem?_eq_some_iff.1 hRt).1; omega
 refine W_seq fun kz1 kq1 => ?_
 refine W_region [1, 2, 3, 6] fun R hR => ?_
 simp only [go_sem]
 refine hR _ _ (kq1 _ _ ?_); clear hR R; try clear kq1 kz1
 try simp only [go_sem]
 refine W_seq fun kz2 kq2 => ?_
 refine W_region [2, 6, 7, 9] fun R hR => ?_
 simp only [go_sem]
 refine GCall_of (PC.val (v' := .tuple [rss RR, I WW, I 0]) (rRun_pc Y _ c l hr hl) (by rw [hrun])) ?_
 simp only [go_sem]
 refine hR _ _ (kq2 _ _ ?_); clear hR R; try clear kq2 kz2
 try simp only [go_sem]
 refine W_seq fun kz3 kq3 => ?_
 refine W_seq fun kz4 kq4 => ?_
 refine W_region [2, 6, 7, 18] fun R hR => ?_
 simp only [go_sem]
 refine hR _ _ (kq4 _ _ ?_); clear hR R; try clear kq4 kz4
 try simp only [go_sem]
 refine W_cond rfl (fun c1 => ?_) (fun c1 => ?_)
 ·try simp only [nrm] at c1
  exfalso
  simp at c1
 ·try simp only [nrm] at c1
  refine W_skip (kq3 _ _ ?_)
  refine W_seq fun kz5 kq5 => ?_
  refine W_region [6] fun R hR => ?_
  simp only [go_sem, hrl, iaX_map hRt rfl, elA_map hRt, hRt]
  refine hR _ _ (kq5 _ _ ?_); clear hR R; try clear kq5 kz5
  try simp only [go_sem]
  refine W_ret ?_
  simp only [go_sem]
  refine ⟨.inr (by trivial), ?_⟩
  refine Fin_same hcl (by show resPV Tryz.prog _ _ [.cell 6 39] = some _; simp only [resPV, go_sem]; rfl) (Wk.ro (by simp only [go_sem]) ?_)
  try simp only [go_sem]
  all_goals
   first | rfl | (simp only [go_sem]; done)
set_option maxHeartbeats 4000000 in
theorem small_pc (Y : YEnv) (σ : Sg) (d : Nat) (b b1 b2 b3 b4 : Int) (hd : σ.store[d]? = some (some [.int .u64 b])) (c0 : Contest) (mo : Int) (l : List Ballot) (rd : Int) (h1 : (contestD 3 1 4 b).1 = c0) (h1b : (contestD 3 1 4 b).2 = b1) (h2 : (roll 3 b1).1 = mo) (h2b : (roll 3 b1).2 = b2) (c : Contest) (hc : smallC c0 mo = c) (h3 : (ballotsD c 10 b2).1 = l) (h3b : (ballotsD c 10 b2).2 = b3) (h4 : (roll c0.rounds.length b3).1 = rd) (h4b : (roll c0.rounds.length b3).2 = b4) (hM : CnMade c 3 1 4) :
  PC Tryz.prog Y 7 [.ptr d 0] σ (.tuple [cnPV c, bls l, I rd]) (σ.setVar d [.int .u64 b4]) := by
 refine PC_of_W Tryz.func7 rfl (by kernel_rfl) Tryz.ntmps7 (by simp) fun hcl hca => ?_
 have hlt := lt_of_get hd
 subst hc
 have hrl : 1 ≤ c0.rounds.length ∧ c0.rounds.length ≤ 3 := hM.rl
 refine W_seq fun kz1 kq1 => ?_
 refine W_region [0, 2] fun R hR => ?_
 simp only [go_sem, ldS_at hd, stX_at hd, ldS_sv hlt, stX_sv hlt, sv_ext hlt, sv_ext_sv hlt, h1, h1b, h2, h2b, h3, h3b, h4, h4b]
 refine hR _ _ (kq1 _ _ ?_); clear hR R; try clear kq1 kz1
 try simp only [go_sem, ldS_at hd, stX_at hd, ldS_sv hlt, stX_sv hlt, sv_ext hlt, sv_ext_sv hlt, h1, h1b, h2, h2b, h3, h3b, h4, h4b]
 refine W_seq fun kz2 kq2 => ?_
 refine W_region [0, 2, 5] fun R hR => ?_
 simp only [go_sem, ldS_at hd, stX_at hd, ldS_sv hlt, stX_sv hlt, sv_ext hlt, sv_ext_sv hlt, h1, h1b, h2, h2b, h3, h3b, h4, h4b]
 refine GCall_of (ContestOf_pc Y _ d b (by first | exact hd | exact sv_get hlt | exact get_svx hlt | exact get_extx hd) 3 1 4 (by omega) (by omega) (by omega)) ?_
 simp only [go_sem, ldS_at hd, stX_at hd, ldS_sv hlt, stX_sv hlt, sv_ext hlt, sv_ext_sv hlt, h1, h1b, h2, h2b, h3, h3b, h4, h4b]
 refine hR _ _ (kq2 _ _ ?_); clear hR R; try clear kq2 kz2
 try simp only [go_sem, ldS_at hd, stX_at hd, ldS_sv hlt, stX_sv hlt, sv_ext hlt, sv_ext_sv hlt, h1, h1b, h2, h2b, h3, h3b, h4, h4b]
 refine W_seq fun kz3 kq3 => ?_
 refine W_region [0, 2, 5] fun R hR => ?_
 simp only [go_sem, ldS_at hd, stX_at hd, ldS_sv hlt, stX_sv hlt, sv_ext hlt, sv_ext_sv hlt, h1, h1b, h2, h2b, h3, h3b, h4, h4b]
 refine GCall_of (Roll_pc Y _ d b1 (by first | exact hd | exact sv_get hlt | exact get_svx hlt | exact get_extx hd) 3 (by omega)) ?_
 simp only [go_sem, ldS_at hd, stX_at hd, ldS_sv hlt, stX_sv hlt, sv_ext hlt, sv_ext_sv hlt, h1, h1b, h2, h2b, h3, h3b, h4, h4b]
 refine hR _ _ (kq3 _ _ ?_); clear hR R; try clear kq3 kz3
 try simp only [go_sem, ldS_at hd, stX_at hd, ldS_sv hlt, stX_sv hlt, sv_ext hlt, sv_ext_sv hlt, h1, h1b, h2, h2b, h3, h3b, h4, h4b]
 refine W_seq fun kz4 kq4 => ?_
 refine W_draw [2, 3, 4] [0, 1, 2, 3, 4, 5, 6, 7, 8, 9, 10, 11] [(0, 8), (0, 9), (4, 3), (5, 3), (6, 3), (7, 3)] [[], [], [], [1, 2], [], [], [5], [5, 6], [1, 2, 3, 4, 5, 6, 7], [0, 1, 2, 3, 4, 5, 6, 7, 8], [0, 1, 2, 3, 4, 5, 6, 7, 8, 9], [0, 1, 2, 3, 4, 5, 6, 7, 8, 9, 10]] mixed (by kernel_rfl) fun R hR => ?_
 simp only [go_sem, ldS_at hd, stX_at hd, ldS_sv hlt, stX_sv hlt, sv_ext hlt, sv_ext_sv hlt, h1, h1b, h2, h2b, h3, h3b, h4, h4b]
 refine GCall_of (BallotsOf_pc Y _ d b2 (by first | exact hd | exact sv_get hlt | exact get_svx hlt | exact get_extx hd) (smallC c0 mo) 3 1 4 10 hM (by omega) (by omega)) ?_
 simp only [go_sem, ldS_at hd, stX_at hd, ldS_sv hlt, stX_sv hlt, sv_ext hlt, sv_ext_sv hlt, h1, h1b, h2, h2b, h3, h3b, h4, h4b]
 refine GCall_of (Roll_pc Y _ d b3 (by first | exact hd | exact sv_get hlt | exact get_svx hlt | exact get_extx hd) c0.rounds.length (by omega)) ?_
 simp only [go_sem, ldS_at hd, stX_at hd, ldS_sv hlt, stX_sv hlt, sv_ext hlt, sv_ext_sv hlt, h1, h1b, h2, h2b, h3, h3b, h4, h4b]
 try refine And.intro (by repeat' (first | refine And.intro ?_ ?_ | exact trivial | exact GOr_right (fun _ => by simp only [go_sem, ldS_at hd, stX_at hd, ldS_sv hlt, stX_sv hlt, sv_ext hlt, sv_ext_sv hlt, h1, h1b, h2, h2b, h3, h3b, h4, h4b]))) ?_
 refine hR _ _ (kq4 _ _ ?_); clear hR R; try clear kq4 kz4
 try simp only [go_sem, ldS_at hd, stX_at hd, ldS_sv hlt, stX_sv hlt, sv_ext hlt, sv_ext_sv hlt, h1, h1b, h2, h2b, h3, h3b, h4, h4b]
 refine W_ret ?_
 simp only [go_sem, ldS_at hd, stX_at hd, ldS_sv hlt, stX_sv hlt, sv_ext hlt, sv_ext_sv hlt, h1, h1b, h2, h2b, h3, h3b, h4, h4b]
 refine ⟨.inr (by trivial), ?_⟩
 refine Fin_set hcl (by simp only [go_sem]) (by show resPV Tryz.prog _ _ [.cell 2 25, .tmp 3, .tmp 4] = some _; simp only [resPV, go_sem]; rfl) (Wk.ro (by simp only [go_sem]) ?_)
 try simp only [go_sem]
 all_goals
  first | done | rfl | simp only [go_sem]
def firstLeft (out l : List Int) : Option Int := l.find? fun s => !has out s
def manyFor (out : List Int) (ls : List (List Int)) (s : Int) : Nat := ls.countP fun l => decide (firstLeft out l = some s)
theorem manyFor_snoc (out : List Int) (ls : List (List Int)) (l : List Int) (s : Int) : manyFor out (ls ++ [l]) s = manyFor out ls s + (if firstLeft out l = some s then 1 else 0) := by
 simp [manyFor, List.countP_append, List.countP_cons]
theorem manyFor_le (out : List Int) (ls : List (List Int)) (s : Int) : manyFor out ls s ≤ ls.length := List.countP_le_length
def worstF (out : List Int) (ls : List (List Int)) : Nat → Int
 | 0 => -1
 | i + 1 => if !has out i && (decide (worstF out ls i < 0) || decide (manyFor out ls i ≤ manyFor out ls (worstF out ls i))) then (i : Int) else worstF out ls i
theorem worstF_bd (out : List Int) (ls : List (List Int)) : ∀ i, (worstF out ls i = -1 ∧ ∀ s : Nat, s < i → has out s = true) ∨ (0 ≤ worstF out ls i ∧ worstF out ls i < i ∧ has out (worstF out ls i) = false) := by
 intro i
 induction i with
 | zero => exact .inl ⟨rfl, fun s h => by omega⟩
 | succ i ih =>
  simp only [worstF]
  split
  ·rename_i h
   right
   simp only [Bool.and_eq_true, Bool.not_eq_true'] at h
   exact ⟨by omega, by omega, h.1⟩
  ·rename_i h
   rcases ih with ⟨h1, h2⟩ | ⟨h1, h2, h3⟩
   ·left
    refine ⟨h1, fun s hs => ?_⟩
    by_cases e : s = i
    ·subst e
     rw [h1] at h
     simpa using h
    ·exact h2 s (by omega)
   ·right; exact ⟨h1, by omega, h3⟩
def runU (n : Nat) (ls : List (List Int)) : Nat → List Int
 | 0 => []
 | i + 1 => runU n ls i ++ [worstF (runU n ls i) ls n]
theorem runU_len (n : Nat) (ls : List (List Int)) : ∀ i, (runU n ls i).length = i := by
 intro i
 induction i with
 | zero => rfl
 | succ i ih => simp [runU, ih]
theorem sub_len : ∀ {l l' : List Int}, l.Nodup → (∀ x, x ∈ l → x ∈ l') → l.length ≤ l'.length := by
 intro l
 induction l with
 | nil => intro l' _ _; simp
 | cons a l ih =>
  intro l' hn hs
  obtain ⟨h1, h2⟩ := List.nodup_cons.1 hn
  have ha := hs a (by simp)
  have := ih (l' := l'.erase a) h2 fun x hx => (List.mem_erase_of_ne (show x ≠ a from fun e => h1 (by rw [← e]; exact hx))).2 (hs x (by simp [hx]))
  rw [List.length_erase_of_mem ha] at this
  have hp := List.length_pos_of_mem ha
  simp only [List.length_cons]
  omega
theorem some_left {n : Nat} {out : List Int} (h : out.length < n) : ∃ s : Nat, s < n ∧ has out s = false := by
 refine Classical.byContradiction fun hh => ?_
 have hall : ∀ s : Nat, s < n → has out s = true := fun s hs => by
  cases e : has out s with
  | true => rfl
  | false => exact absurd ⟨s, hs, e⟩ hh
 have hnd : ((List.range n).map fun s : Nat => (s : Int)).Nodup := by
  rw [List.nodup_iff_pairwise_ne, List.pairwise_map]
  exact (List.nodup_iff_pairwise_ne.1 List.nodup_range).imp fun h e => h (by omega)
 have := sub_len hnd (l' := out) fun x hx => by
  obtain ⟨s, hs, rfl⟩ := List.mem_map.1 hx
  exact has_iff.1 (hall s (List.mem_range.1 hs))
 simp at this
 omega
theorem worst_ok {n : Nat} {out : List Int} (ls : List (List Int)) (h : out.length < n) : 0 ≤ worstF out ls n ∧ worstF out ls n < n ∧ has out (worstF out ls n) = false := by
 rcases worstF_bd out ls n with ⟨_, h2⟩ | h2
 ·obtain ⟨s, hs, e⟩ := some_left h
  rw [h2 s hs] at e; cases e
 ·exact h2
theorem runU_ok (n : Nat) (ls : List (List Int)) : ∀ i, i ≤ n → (∀ x, x ∈ runU n ls i → 0 ≤ x ∧ x < n) ∧ (runU n ls i).Nodup := by
 intro i
 induction i with
 | zero => intro _; exact ⟨fun x hx => absurd hx (by simp [runU]), by simp [runU]⟩
 | succ i ih =>
  intro hi
  obtain ⟨h1, h2⟩ := ih (by omega)
  obtain ⟨w1, w2, w3⟩ := worst_ok (n := n) (out := runU n ls i) ls (by rw [runU_len]; omega)
  refine ⟨fun x hx => ?_, ?_⟩
  ·simp only [runU, List.mem_append, List.mem_singleton] at hx
   rcases hx with hx | rfl
   ·exact h1 x hx
   ·exact ⟨w1, w2⟩
  ·simp only [runU]
   rw [List.nodup_append]
   refine ⟨h2, by simp, fun a ha b hb e => ?_⟩
   simp at hb
   subst hb e
   rw [has_iff.2 ha] at w3; cases w3
def winF (out : List Int) : Nat → Nat → Int
 | 0, i => i
 | k + 1, i => if has out i then winF out k (i + 1) else i
def runoffA (n : Int) (ls : List (List Int)) : List Int × Int × Int :=
 if chkPf n ls ≠ 0 then ([], 0, chkPf n ls) else (runU n.toNat ls (n.toNat - 1), winF (runU n.toNat ls (n.toNat - 1)) n.toNat 0, 0)
def goneC (out : List Int) : List PV := (List.range 8).map fun s : Nat => PV.bool (has out s)
def manyC (out : List Int) (ls : List (List Int)) : List PV := (List.range 8).map fun s : Nat => I (manyFor out ls s : Nat)
theorem goneC_get {out : List Int} {s : Nat} (h : s < 8) : (goneC out)[s]? = some (.bool (has out s)) := by simp [goneC, h]
theorem manyC_get {out : List Int} {ls : List (List Int)} {s : Nat} (h : s < 8) : (manyC out ls)[s]? = some (I (manyFor out ls s : Nat)) := by simp [manyC, h]
theorem has_snoc {out : List Int} {w v : Int} : has (out ++ [w]) v = (has out v || decide (w = v)) := by simp [has, List.any_append]
theorem goneC_set {out : List Int} {s : Nat} (h : s < 8) : (goneC out).set s (.bool true) = goneC (out ++ [(s : Int)]) := by
 apply List.ext_getElem?
 intro i
 by_cases e : s = i
 ·subst e
  rw [List.getElem?_set_self (by simpa [goneC] using h), goneC_get h, has_snoc]
  simp
 ·rw [List.getElem?_set_ne e]
  by_cases hi : i < 8
  ·rw [goneC_get hi, goneC_get hi, has_snoc]
   simp; omega
  ·simp [goneC, hi]
theorem manyC_none {out : List Int} {ls : List (List Int)} {l : List Int} (h : firstLeft out l = none) : manyC out (ls ++ [l]) = manyC out ls := by
 unfold manyC
 refine List.map_congr_left fun s _ => ?_
 rw [manyFor_snoc, if_neg (by rw [h]; simp)]
 rfl
theorem manyC_some {out : List Int} {ls : List (List Int)} {l : List Int} {s : Nat} (h : s < 8) (hf : firstLeft out l = some (s : Int)) : (manyC out ls).set s (I ((manyFor out ls s : Nat) + 1)) = manyC out (ls ++ [l]) := by
 apply List.ext_getElem?
 intro i
 by_cases e : s = i
 ·subst e
  rw [List.getElem?_set_self (by simpa [manyC] using h), manyC_get h, manyFor_snoc, if_pos hf]
  rfl
 ·rw [List.getElem?_set_ne e]
  by_cases hi : i < 8
  ·rw [manyC_get hi, manyC_get hi, manyFor_snoc, if_neg (by rw [hf]; intro h; injection h with h; omega)]
   rfl
  ·simp [manyC, hi]
theorem firstLeft_at {out l : List Int} {k : Nat} {v : Int} (hk : ∀ x, x ∈ l.take k → has out x = true) (hv : l[k]? = some v) (h : has out v = false) : firstLeft out l = some v := by
 have hlt := (List.getElem?_eq_some_iff.1 hv).1
 unfold firstLeft
 rw [List.find?_eq_some_iff_append]
 refine ⟨by simp [h], l.take k, l.drop (k + 1), ?_, fun x hx => by simp [hk x hx]⟩
 conv => lhs; rw [← List.take_append_drop k l]
 rw [List.drop_eq_getElem_cons hlt, (List.getElem?_eq_some_iff.1 hv).2]
theorem firstLeft_none {out l : List Int} (h : ∀ x, x ∈ l → has out x = true) : firstLeft out l = none := by
 unfold firstLeft
 rw [List.find?_eq_none]
 intro x hx
 simp [h x hx]
theorem goneC_len (out : List Int) : (goneC out).length = 8 := by simp [goneC]
theorem manyC_len (out : List Int) (ls : List (List Int)) : (manyC out ls).length = 8 := by simp [manyC]
theorem goneC_clean {a b c : Nat} (out : List Int) : CleanAll a b c (goneC out) := by
 intro p hp
 obtain ⟨s, _, rfl⟩ := List.mem_map.1 hp
 simp only [go_sem]
theorem beqB2 {a b : Bool} : eqPV Tryz.prog 4 (.bool a) (.bool b) = some (decide (a = b)) := by cases a <;> cases b <;> kernel_rfl
theorem sl86 {id : Nat} {k : IntKind} {n : Nat} (h0 : 0 < n) (h8 : n ≤ 8) : slicePV Tryz.prog 134 (.ptr id 0) none (some (.int k n)) none = some (.msl id 0 n) := by
 unfold slicePV
 rw [Tryz.underlying134]
 simp only [Tryz.underlying4, bnd]
 simp [h8]
 omega
def idxF (out : List Int) : Nat → Nat → Int
 | 0, _ => -1
 | k + 1, i => if has out i = false then i else idxF out k (i + 1)
theorem idxF_eq {n : Nat} {out : List Int} : ∀ (k i : Nat), i + k = n → (∃ s : Nat, i ≤ s ∧ s < n ∧ has out s = false) → idxF out k i = winF out k i := by
 intro k
 induction k with
 | zero => rintro i h ⟨s, h1, h2, _⟩; omega
 | succ k ih =>
  rintro i h ⟨s, h1, h2, h3⟩
  simp only [idxF, winF]
  cases e : has out i with
  | false => simp
  | true =>
   simp only [Bool.true_eq_false, if_false, if_true]
   exact ih (i + 1) (by omega) ⟨s, by
    by_cases q : s = i
    ·subst q; rw [e] at h3; cases h3
    ·omega, h2, h3⟩
set_option maxHeartbeats 2000000 in
theorem gIndex_pc (Y : YEnv) (σ : Sg) (out : List Int) (id n : Nat) (hn8 : n ≤ 8) (hd : σ.store[id]? = some (some (goneC out))) :
  PC Tryz.prog Y 79 [.msl id 0 n, .bool false] σ (I (idxF out n 0)) (σ) := by
 refine PC_of_W Tryz.func79 rfl (by kernel_rfl) Tryz.ntmps79 (by simp) fun hcl hca => ?_
 obtain ⟨res, hres⟩ : ∃ r, idxF out n 0 = r := ⟨_, rfl⟩
 rw [hres]
 refine W_seq fun kz1 kq1 => ?_
 refine W_region [0, 1] fun R hR => ?_
 simp only [go_sem, beqB2, ldS_at hd]
 refine hR _ _ (kq1 _ _ ?_); clear hR R; try clear kq1 kz1
 try simp only [go_sem, beqB2, ldS_at hd]
 refine W_seq fun kz2 kq2 => ?_
 refine W_seq fun kz3 kq3 => ?_
 refine W_region [0, 1, 7, 8] fun R hR => ?_
 simp only [go_sem, beqB2, ldS_at hd]
 refine hR _ _ (kq3 _ _ ?_); clear hR R; try clear kq3 kz3
 try simp only [go_sem, beqB2, ldS_at hd]
 refine W_block ?_
 refine W_loopS (α := Nat) (fun (i : Nat) => [(8, I i)]) (fun (i : Nat) => i ≤ n ∧ res = idxF out (n - i) i) (fun (i : Nat) => n - i) (0) rfl (⟨Nat.zero_le _, hres.symm⟩) ?_
 rintro i ⟨hi, hinv⟩
 refine W_seq fun kz4 kq4 => ?_
 refine W_region [0, 1, 7, 8, 9] fun R hR => ?_
 simp only [go_sem, beqB2, ldS_at hd]
 refine hR _ _ (kq4 _ _ ?_); clear hR R; try clear kq4 kz4
 try simp only [go_sem, beqB2, ldS_at hd]
 refine W_seq fun kz5 kq5 => ?_
 refine W_cond rfl (fun c1 => ?_) (fun c1 => ?_)
 ·try simp only [nrm] at c1
  have hin : i < n := by first | assumption | omega
  have hin2 : (i : Int) < (n : Int) := by omega
  obtain ⟨k, hk⟩ : ∃ k, n - i = k + 1 := ⟨n - i - 1, by omega⟩
  rw [hk] at hinv
  simp only [idxF] at hinv
  have hg := goneC_get (out := out) (s := i) (by omega)
  refine W_skip (kq5 _ _ ?_)
  refine W_seq fun kz6 kq6 => ?_
  refine W_block ?_
  refine W_seq fun kz7 kq7 => ?_
  refine W_region [0, 1, 5, 7, 8] fun R hR => ?_
  simp only [go_sem, beqB2, ldS_at hd, hg]
  refine hR _ _ (kq7 _ _ ?_); clear hR R; try clear kq7 kz7
  try simp only [go_sem, beqB2, ldS_at hd, hg]
  refine W_seq fun kz8 kq8 => ?_
  refine W_region [0, 1, 5, 7, 8, 16] fun R hR => ?_
  simp only [go_sem, beqB2, ldS_at hd, hg, hin2, iaM_nat (Int.ofNat_lt.1 hin2), Nat.mul_one, Nat.zero_add, bindSome]
  refine hR _ _ (kq8 _ _ ?_); clear hR R; try clear kq8 kz8
  try simp only [go_sem, beqB2, ldS_at hd, hg]
  refine W_cond rfl (fun c2 => ?_) (fun c2 => ?_)
  ·try simp only [nrm] at c2
   refine W_seq fun kz9 kq9 => ?_
   refine W_region [4] fun R hR => ?_
   simp only [go_sem, beqB2, ldS_at hd, hg]
   refine hR _ _ (kq9 _ _ ?_); clear hR R; try clear kq9 kz9
   try simp only [go_sem, beqB2, ldS_at hd, hg]
   refine W_ret ?_
   simp only [go_sem, beqB2, ldS_at hd, hg]
   refine ⟨.inr (by trivial), ?_⟩
   first | refine Fin_same hcl rfl (Wk_eq ?_ (by simp only [go_sem])) | refine Fin_self hcl rfl (Wk_eq ?_ (by simp only [go_sem]))
   try simp only [go_sem]
   all_goals
    first | (rw [hinv]; done) | (rw [hinv]; simp_all; done) | rfl
  ·try simp only [nrm] at c2
   refine W_skip (kq6 _ _ ?_)
   refine W_region [0, 1, 7, 8] fun R hR => ?_
   simp only [go_sem, beqB2, ldS_at hd, hg]
   try simp (disch := omega) only [wrapI, wrapU]
   refine hR _ _ ?_; clear hR R
   try simp only [go_sem, beqB2, ldS_at hd, hg]
   refine ⟨i + 1, ?_, by (try simp only []); omega, ?_⟩
   ·first | exact Weak.refl | exact Weak.eq (by first | rfl | (simp only [go_sem]; done) | (simp only [go_sem]; rfl) | (simp [go_sem]; done) | (simp [go_sem]; omega)) (by first | rfl | (simp only [go_sem]; done) | (simp [go_sem]; done))
   ·try dsimp only
    refine ⟨hin, ?_⟩
    rw [hinv, show n - (i + 1) = k by omega]
    simp_all
 ·try simp only [nrm] at c1
  have hie : n - i = 0 := by omega
  rw [hie] at hinv
  simp only [idxF] at hinv
  refine W_exit ?_
  simp only [go_sem, beqB2, ldS_at hd]
  refine kq2 _ _ ?_
  refine W_seq fun kz10 kq10 => ?_
  refine W_region [4] fun R hR => ?_
  simp only [go_sem, beqB2, ldS_at hd]
  refine hR _ _ (kq10 _ _ ?_); clear hR R; try clear kq10 kz10
  try simp only [go_sem, beqB2, ldS_at hd]
  refine W_ret ?_
  simp only [go_sem, beqB2, ldS_at hd]
  refine ⟨.inr (by trivial), ?_⟩
  first | refine Fin_same hcl rfl (Wk_eq ?_ (by simp only [go_sem])) | refine Fin_self hcl rfl (Wk_eq ?_ (by simp only [go_sem]))
  try simp only [go_sem]
  all_goals
   first | (rw [hinv]; done) | (rw [hinv]; simp_all; done) | rfl
set_option maxHeartbeats 8000000 in
theorem Runoff_pc (Y : YEnv) (σ : Sg) (n : Int) (ls : List (List Int)) (hl : ls.length < 2 ^ 40) (hl2 : ∀ l, l ∈ ls → l.length < 2 ^ 40) :
  PC Tryz.prog Y 55 [I n, lls ls] σ (.tuple [ints (runoffA n ls).1, I (runoffA n ls).2.1, I (runoffA n ls).2.2]) (σ) := by
 refine PC_of_W Tryz.func55 rfl (by kernel_rfl) Tryz.ntmps55 (by simp) fun hcl hca => ?_
 refine W_seq fun kz1 kq1 => ?_
 refine W_region [0, 1, 4] fun R hR => ?_
 simp only [go_sem]
 refine hR _ _ (kq1 _ _ ?_); clear hR R; try clear kq1 kz1
 try simp only [go_sem]
 refine W_seq fun kz2 kq2 => ?_
 refine W_seq fun kz3 kq3 => ?_
 refine W_region [0, 1, 4, 7] fun R hR => ?_
 simp only [go_sem]
 refine GCall_of (chkPf_pc Y _ n ls hl hl2) ?_
 simp only [go_sem]
 refine hR _ _ (kq3 _ _ ?_); clear hR R; try clear kq3 kz3
 try simp only [go_sem]
 refine W_seq fun kz4 kq4 => ?_
 refine W_region [0, 1, 4, 7, 20] fun R hR => ?_
 simp only [go_sem]
 refine hR _ _ (kq4 _ _ ?_); clear hR R; try clear kq4 kz4
 try simp only [go_sem]
 refine W_cond rfl (fun c1 => ?_) (fun c1 => ?_)
 ·try simp only [nrm] at c1
  refine W_seq fun kz5 kq5 => ?_
  refine W_region [4, 5, 6] fun R hR => ?_
  simp only [go_sem]
  refine hR _ _ (kq5 _ _ ?_); clear hR R; try clear kq5 kz5
  try simp only [go_sem]
  refine W_ret ?_
  simp only [go_sem]
  refine ⟨.inr (by trivial), ?_⟩
  first | (rw [hall]; refine Fin_same hcl rfl (Wk.ro (by simp only [go_sem]) ?_)) | refine Fin_same hcl rfl (Wk.ro (by simp only [go_sem]) ?_) | refine Fin_self hcl rfl (Wk.ro (by simp only [go_sem]) ?_)
  try simp only [go_sem]
  all_goals
   simp only [runoffA]; rw [if_pos c1]; first | rfl | simp only [go_sem]
 ·try simp only [nrm] at c1
  have hV := pfV_iff.1 c1
  have hn1 := hV.nb
  obtain ⟨N, hN⟩ : ∃ z : Nat, n = z := ⟨n.toNat, by omega⟩
  have hall : runoffA n ls = (runU N ls (N - 1), winF (runU N ls (N - 1)) N 0, 0) := by
   unfold runoffA
   rw [if_neg (by simp [c1]), hN, Int.toNat_natCast]
  have hmem := fun l (h : l ∈ ls) => (chkRow_mem (hV.ck l h)).1
  subst hN
  refine W_skip (kq2 _ _ ?_)
  refine W_seq fun kz6 kq6 => ?_
  refine W_region [0, 1, 4, 8] fun R hR => ?_
  simp only [go_sem]
  refine hR _ _ (kq6 _ _ ?_); clear hR R; try clear kq6 kz6
  try simp only [go_sem]
  refine W_seq fun kz7 kq7 => ?_
  refine W_block ?_
  refine W_weak (Weak.room (t := 4) (es := 1) rfl (by simp)) ?_
  refine W_weak (Weak.keep [0, 1, 4, 8]) ?_
  simp only [go_sem]
  refine W_loopT (α := Nat) (fun (i : Nat) => [(4, .isl ((runU N ls i).map I) (.tok σ.rooms.length i 1))]) (fun (i : Nat) => σ.ext [some (goneC (runU N ls i))] [i]) (fun (i : Nat) => i ≤ N - 1) (fun (i : Nat) => N - 1 - i) (0) rfl (by first | rfl | (simp only [go_sem]; done) | (simp only [go_sem]; rfl)) (Nat.zero_le _) ?_
  rintro i hi
  have hrl := runU_len N ls i
  obtain ⟨out, hout⟩ : ∃ z, runU N ls i = z := ⟨_, rfl⟩
  rw [hout] at hrl
  rw [hout]
  refine W_seq fun kz8 kq8 => ?_
  refine W_seq fun kz9 kq9 => ?_
  refine W_region [0, 1, 4, 8, 26] fun R hR => ?_
  simp only [go_sem, hrl]
  try simp (disch := omega) only [wrapI, wrapU]
  refine hR _ _ (kq9 _ _ ?_); clear hR R; try clear kq9 kz9
  try simp only [go_sem, hrl]
  refine W_cond rfl (fun c2 => ?_) (fun c2 => ?_)
  ·try simp only [nrm] at c2
   have hiN : i < N - 1 := by first | omega | (simp at c2; omega)
   have hok := runU_ok N ls i (by omega)
   have hw := worst_ok (n := N) ls (out := out) (by omega)
   refine W_skip (kq8 _ _ ?_)
   refine W_block ?_
   refine W_scope ?_
   refine W_seq fun kz10 kq10 => ?_
   refine W_region [0, 1, 4, 8, 9] fun R hR => ?_
   simp only [go_sem, hrl]
   refine hR _ _ (kq10 _ _ ?_); clear hR R; try clear kq10 kz10
   try simp only [go_sem, hrl]
   refine W_seq fun kz11 kq11 => ?_
   refine W_label (kq11 _ _ ?_)
   refine W_seq fun kz12 kq12 => ?_
   refine W_seq fun kz13 kq13 => ?_
   refine W_region [0, 1, 4, 8, 9, 27, 28, 29] fun R hR => ?_
   simp only [go_sem, hrl]
   refine hR _ _ (kq13 _ _ ?_); clear hR R; try clear kq13 kz13
   try simp only [go_sem, hrl]
   refine W_block ?_
   refine W_loopT (α := Nat) (fun (j : Nat) => [(29, I j)]) (fun (j : Nat) => σ.ext [some (goneC out), some (manyC out (ls.take j))] [i]) (fun (j : Nat) => j ≤ ls.length) (fun (j : Nat) => ls.length - j) (0) rfl (by first | rfl | (simp only [go_sem]; done) | (simp only [go_sem]; rfl)) (Nat.zero_le _) ?_
   rintro j hj
   refine W_seq fun kz14 kq14 => ?_
   refine W_region [0, 1, 4, 8, 9, 27, 28, 29, 30] fun R hR => ?_
   simp only [go_sem, hrl]
   refine hR _ _ (kq14 _ _ ?_); clear hR R; try clear kq14 kz14
   try simp only [go_sem, hrl]
   refine W_seq fun kz15 kq15 => ?_
   refine W_cond rfl (fun c3 => ?_) (fun c3 => ?_)
   ·try simp only [nrm] at c3
    have hj' : j < ls.length := by first | assumption | omega
    obtain ⟨l, hlj⟩ : ∃ l, ls[j]? = some l := ⟨ls[j], by simp [hj']⟩
    have hdrop : ls.drop j = l :: ls.drop (j + 1) := by
     rw [List.drop_eq_getElem_cons hj']; congr 1; exact (List.getElem?_eq_some_iff.1 hlj).2
    have hsn : ls.take (j + 1) = ls.take j ++ [l] := by rw [List.take_add_one, hlj]; rfl
    have hlm := hmem l (List.mem_of_getElem? hlj)
    have hll := hl2 l (List.mem_of_getElem? hlj)
    have hj2 : j + 1 ≤ ls.length := hj'
    refine W_skip (kq15 _ _ ?_)
    refine W_seq fun kz16 kq16 => ?_
    refine W_block ?_
    refine W_seq fun kz17 kq17 => ?_
    refine W_region [0, 1, 4, 8, 9, 11, 27, 28, 29] fun R hR => ?_
    simp only [go_sem, hrl, hlj, llPV]
    refine hR _ _ (kq17 _ _ ?_); clear hR R; try clear kq17 kz17
    try simp only [go_sem, hrl, hlj, llPV]
    refine W_seq fun kz18 kq18 => ?_
    refine W_region [0, 1, 4, 8, 9, 27, 28, 29, 33, 34, 35] fun R hR => ?_
    simp only [go_sem, hrl, hlj, llPV]
    refine hR _ _ (kq18 _ _ ?_); clear hR R; try clear kq18 kz18
    try simp only [go_sem, hrl, hlj, llPV]
    refine W_block ?_
    refine W_loopT (α := Nat) (fun (k : Nat) => [(35, I k)]) (fun (k : Nat) => σ.ext [some (goneC out), some (manyC out (ls.take j))] [i]) (fun (k : Nat) => k ≤ l.length ∧ ∀ x, x ∈ l.take k → has out x = true) (fun (k : Nat) => l.length - k) (0) rfl (by first | rfl | (simp only [go_sem]; done) | (simp only [go_sem]; rfl)) (⟨Nat.zero_le _, fun x hx => by simp at hx⟩) ?_
    rintro k ⟨hk, hta⟩
    refine W_seq fun kz19 kq19 => ?_
    refine W_region [0, 1, 4, 8, 9, 27, 28, 29, 33, 34, 35, 36] fun R hR => ?_
    simp only [go_sem, hrl, hlj, llPV]
    refine hR _ _ (kq19 _ _ ?_); clear hR R; try clear kq19 kz19
    try simp only [go_sem, hrl, hlj, llPV]
    refine W_seq fun kz20 kq20 => ?_
    refine W_cond rfl (fun c4 => ?_) (fun c4 => ?_)
    ·try simp only [nrm] at c4
     have hk' : k < l.length := by first | assumption | omega
     obtain ⟨v, hv⟩ : ∃ v, l[k]? = some v := ⟨l[k], by simp [hk']⟩
     have hdrop : l.drop k = v :: l.drop (k + 1) := by
      rw [List.drop_eq_getElem_cons hk']; congr 1; exact (List.getElem?_eq_some_iff.1 hv).2
     have hvb := hlm v (List.mem_of_getElem? hv)
     obtain ⟨vn, hvn⟩ : ∃ z : Nat, v = z := ⟨v.toNat, by omega⟩
     subst hvn
     have hgv := goneC_get (out := out) (s := vn) (by omega)
     have hmv := manyC_get (out := out) (ls := ls.take j) (s := vn) (by omega)
     have hml := manyFor_le out (ls.take j) vn
     have hvn8 : (vn : Int) < 8 := by omega
     have hml8 : decide (vn + 1 ≤ (manyC out (ls.take j)).length) = true := decide_eq_true (by rw [manyC_len]; omega)
     rw [List.length_take] at hml
     refine W_skip (kq20 _ _ ?_)
     refine W_seq fun kz21 kq21 => ?_
     refine W_block ?_
     refine W_seq fun kz22 kq22 => ?_
     refine W_region [0, 1, 4, 8, 9, 13, 27, 28, 29, 33, 34, 35] fun R hR => ?_
     simp only [go_sem, hrl, hlj, llPV, hv, hgv, hmv, hvn8, hml8, Nat.mul_one]
     refine hR _ _ (kq22 _ _ ?_); clear hR R; try clear kq22 kz22
     try simp only [go_sem, hrl, hlj, llPV, hv, hgv, hmv, hvn8, hml8, Nat.mul_one]
     refine W_seq fun kz23 kq23 => ?_
     refine W_region [0, 1, 4, 8, 9, 13, 27, 28, 29, 33, 34, 35, 42] fun R hR => ?_
     simp only [go_sem, hrl, hlj, llPV, hv, hgv, hmv, hvn8, hml8, Nat.mul_one]
     refine hR _ _ (kq23 _ _ ?_); clear hR R; try clear kq23 kz23
     try simp only [go_sem, hrl, hlj, llPV, hv, hgv, hmv, hvn8, hml8, Nat.mul_one]
     refine W_cond rfl (fun c5 => ?_) (fun c5 => ?_)
     ·try simp only [nrm] at c5
      have hf := firstLeft_at hta hv (by simpa using c5)
      have hset := manyC_some (out := out) (ls := ls.take j) (s := vn) (by omega) hf
      rw [← hsn] at hset
      refine W_seq fun kz24 kq24 => ?_
      refine W_region [0, 1, 4, 8, 9, 27, 28, 29] fun R hR => ?_
      simp only [go_sem, hrl, hlj, llPV, hv, hgv, hmv, hvn8, hml8, Nat.mul_one, hset]
      try simp (disch := omega) only [wrapI, wrapU]
      refine hR _ _ (kq24 _ _ ?_); clear hR R; try clear kq24 kz24
      try simp only [go_sem, hrl, hlj, llPV, hv, hgv, hmv, hvn8, hml8, Nat.mul_one]
      refine W_exit ?_
      simp only [go_sem, hrl, hlj, llPV, hv, hgv, hmv, hvn8, hml8, Nat.mul_one]
      refine kq16 _ _ ?_
      refine W_region [0, 1, 4, 8, 9, 27, 28, 29] fun R hR => ?_
      simp only [go_sem, hrl, hlj, llPV, hv, hgv, hmv, hvn8, hml8, Nat.mul_one]
      try simp (disch := omega) only [wrapI, wrapU]
      refine hR _ _ ?_; clear hR R
      try simp only [go_sem, hrl, hlj, llPV, hv, hgv, hmv, hvn8, hml8, Nat.mul_one]
      refine ⟨j + 1, ?_, by (try simp only []); omega, ?_⟩
      ·first | exact Weak.refl | exact Weak.eq rfl (by rw [hmn]) | exact Weak.eq rfl (congrArg (fun z => σ.ext [some (goneC out), some z] [i]) hset)
      ·try dsimp only
       exact hj2
     ·try simp only [nrm] at c5
      have hhv : has out (vn : Int) = true := by simpa using c5
      refine W_skip (kq21 _ _ ?_)
      refine W_region [0, 1, 4, 8, 9, 27, 28, 29, 33, 34, 35] fun R hR => ?_
      simp only [go_sem, hrl, hlj, llPV, hv, hgv, hmv, hvn8, hml8, Nat.mul_one]
      try simp (disch := omega) only [wrapI, wrapU]
      refine hR _ _ ?_; clear hR R
      try simp only [go_sem, hrl, hlj, llPV, hv, hgv, hmv, hvn8, hml8, Nat.mul_one]
      refine ⟨k + 1, ?_, by (try simp only []); omega, ?_⟩
      ·first | exact Weak.refl | exact Weak.eq (by first | rfl | (simp only [go_sem]; done) | (simp only [go_sem]; rfl) | (simp [go_sem]; done) | (simp [go_sem]; omega)) (by first | rfl | (simp only [go_sem]; done) | (simp [go_sem]; done))
      ·try dsimp only
       refine ⟨by omega, fun x hx => ?_⟩
       rw [List.take_add_one, hv] at hx
       rcases List.mem_append.1 hx with h | h
       ·exact hta x h
       ·simp at h; subst h; exact hhv
    ·try simp only [nrm] at c4
     have hke : k = l.length := by omega
     rw [hke, List.take_length] at hta
     have hmn : manyC out (ls.take j) = manyC out (ls.take (j + 1)) := by rw [hsn, manyC_none (firstLeft_none hta)]
     refine W_exit ?_
     simp only [go_sem, hrl, hlj, llPV]
     refine kq16 _ _ ?_
     refine W_region [0, 1, 4, 8, 9, 27, 28, 29] fun R hR => ?_
     simp only [go_sem, hrl, hlj, llPV]
     try simp (disch := omega) only [wrapI, wrapU]
     refine hR _ _ ?_; clear hR R
     try simp only [go_sem, hrl, hlj, llPV]
     refine ⟨j + 1, ?_, by (try simp only []); omega, ?_⟩
     ·first | exact Weak.refl | exact Weak.eq rfl (by rw [hmn]) | exact Weak.eq rfl (congrArg (fun z => σ.ext [some (goneC out), some z] [i]) hset)
     ·try dsimp only
      exact hj2
   ·try simp only [nrm] at c3
    have hje : j = ls.length := by omega
    subst hje
    rw [List.take_length]
    refine W_exit ?_
    simp only [go_sem, hrl]
    refine kq12 _ _ ?_
    refine W_seq fun kz25 kq25 => ?_
    refine W_region [0, 1, 4, 8, 9, 14] fun R hR => ?_
    simp only [go_sem, hrl]
    refine hR _ _ (kq25 _ _ ?_); clear hR R; try clear kq25 kz25
    try simp only [go_sem, hrl]
    refine W_seq fun kz26 kq26 => ?_
    refine W_seq fun kz27 kq27 => ?_
    refine W_region [0, 1, 4, 8, 9, 14, 50, 51] fun R hR => ?_
    simp only [go_sem, hrl]
    refine hR _ _ (kq27 _ _ ?_); clear hR R; try clear kq27 kz27
    try simp only [go_sem, hrl]
    refine W_block ?_
    refine W_loopS (α := Nat) (fun (s : Nat) => [(14, I (worstF out ls s)), (51, I s)]) (fun (s : Nat) => s ≤ N) (fun (s : Nat) => N - s) (0) rfl (Nat.zero_le _) ?_
    rintro s hs
    refine W_seq fun kz28 kq28 => ?_
    refine W_region [0, 1, 4, 8, 9, 14, 50, 51, 52] fun R hR => ?_
    simp only [go_sem, hrl]
    refine hR _ _ (kq28 _ _ ?_); clear hR R; try clear kq28 kz28
    try simp only [go_sem, hrl]
    refine W_seq fun kz29 kq29 => ?_
    refine W_cond rfl (fun c6 => ?_) (fun c6 => ?_)
    ·try simp only [nrm] at c6
     have hsN : s < N := by first | omega | (simp at c6; omega)
     have hgs := goneC_get (out := out) (s := s) (by omega)
     have hms := manyC_get (out := out) (ls := ls) (s := s) (by omega)
     have hwb := worstF_bd out ls s
     have hs8 : (s : Int) < 8 := by omega
     refine W_skip (kq29 _ _ ?_)
     refine W_seq fun kz30 kq30 => ?_
     refine W_block ?_
     refine W_seq fun kz31 kq31 => ?_
     refine W_region [0, 1, 4, 8, 9, 14, 15, 50, 51] fun R hR => ?_
     simp only [go_sem, hrl, hgs, hms, hs8, Nat.mul_one]
     refine hR _ _ (kq31 _ _ ?_); clear hR R; try clear kq31 kz31
     try simp only [go_sem, hrl, hgs, hms, hs8, Nat.mul_one]
     refine W_seq fun kz32 kq32 => ?_
     refine W_drawJ [0, 1, 4, 8, 9, 14, 15, 50, 51, 70] [(70, .bool (!has out s && (decide (worstF out ls s < 0) || decide (manyFor out ls s ≤ manyFor out ls (worstF out ls s)))))] [0, 1, 2, 3, 4, 5, 6, 7, 8, 9, 10, 11, 12, 13, 14, 15, 16] [] [[], [0], [0, 1], [0, 1, 2], [0, 1, 2, 3], [0, 1, 2, 3, 4], [0, 1, 2, 3, 4, 5], [0, 1, 2, 3, 4, 5, 6], [0, 1, 2, 3, 4, 5, 6, 7], [0, 1, 2, 3, 4, 5, 6, 7, 8], [0, 1, 2, 3, 4, 5, 6, 7, 8, 9], [0, 1, 2, 3, 4, 5, 6, 7], [0, 1, 2, 3, 4, 5, 6, 7, 11], [0, 1, 2, 3, 4, 5, 6, 7, 11, 12], [0, 1, 2, 3, 4, 5, 6, 7, 8, 9, 10, 11, 12, 13], [0, 1, 2, 3, 4, 5, 6, 7, 8, 9, 10, 11, 12, 13, 14], [0, 1, 2, 3, 4, 5, 6, 7, 8, 9, 10, 11, 12, 13, 14, 15]] mixed (by kernel_rfl) ?_ fun R hR => ?_
     ·refine kq32 _ _ ?_
      simp only [go_sem, hrl, hgs, hms, hs8, Nat.mul_one]
      refine W_cond rfl (fun c7 => ?_) (fun c7 => ?_)
      ·try simp only [nrm] at c7
       have hws1 : worstF out ls (s + 1) = (s : Int) := by simp only [worstF]; rw [if_pos c7]
       refine W_region [0, 1, 4, 8, 9, 14, 50, 51] fun R hR => ?_
       simp only [go_sem, hrl, hgs, hms, hs8, Nat.mul_one]
       refine hR _ _ (kq30 _ _ ?_); clear hR R; try clear kq30 kz30
       try simp only [go_sem, hrl, hgs, hms, hs8, Nat.mul_one]
       refine W_region [0, 1, 4, 8, 9, 14, 50, 51] fun R hR => ?_
       simp only [go_sem, hrl, hgs, hms, hs8, Nat.mul_one]
       try simp (disch := omega) only [wrapI, wrapU]
       refine hR _ _ ?_; clear hR R
       try simp only [go_sem, hrl, hgs, hms, hs8, Nat.mul_one]
       refine ⟨s + 1, ?_, by (try simp only []); omega, ?_⟩
       ·refine Weak.eq (by simp only [hws1]; first | done | rfl | (simp only [go_sem]; done)) rfl
       ·try dsimp only
        omega
      ·try simp only [nrm] at c7
       have hws1 : worstF out ls (s + 1) = worstF out ls s := by simp only [worstF]; rw [if_neg (by rw [c7]; simp)]
       refine W_skip (kq30 _ _ ?_)
       refine W_region [0, 1, 4, 8, 9, 14, 50, 51] fun R hR => ?_
       simp only [go_sem, hrl, hgs, hms, hs8, Nat.mul_one]
       try simp (disch := omega) only [wrapI, wrapU]
       refine hR _ _ ?_; clear hR R
       try simp only [go_sem, hrl, hgs, hms, hs8, Nat.mul_one]
       refine ⟨s + 1, ?_, by (try simp only []); omega, ?_⟩
       ·refine Weak.eq (by simp only [hws1]; first | done | rfl | (simp only [go_sem]; done)) rfl
       ·try dsimp only
        omega
     ·simp only [go_sem, hrl, hgs, hms, hs8, Nat.mul_one]
      refine GWant_split (fun g1 => ?_) (fun g1 => ?_)
      ·try simp only [Bool.not_eq_true', Bool.not_eq_false'] at g1
       have n1 := g1; try simp only [nrm] at n1
       simp only [go_sem, hrl, hgs, hms, hs8, Nat.mul_one, g1]
       refine GWant_split (fun g2 => ?_) (fun g2 => ?_)
       ·try simp only [Bool.not_eq_true', Bool.not_eq_false'] at g2
        have n2 := g2; try simp only [nrm] at n2
        obtain ⟨wn, hwn⟩ : ∃ z : Nat, worstF out ls s = z := ⟨(worstF out ls s).toNat, by simp at g2; omega⟩
        rw [hwn] at g2
        have hmw := manyC_get (out := out) (ls := ls) (s := wn) (by omega)
        have hwn8 : (wn : Int) < 8 := by omega
        simp only [go_sem, hrl, hgs, hms, hs8, Nat.mul_one, hwn, hmw, hwn8, Nat.mul_one, g1, g2]
        try refine And.intro (by repeat' (first | refine And.intro ?_ ?_ | exact GOr_right (fun _ => by simp only [go_sem, hrl, hgs, hms, hs8, Nat.mul_one, hwn, hmw, hwn8, Nat.mul_one]))) ?_
        refine hR _ ?_
        all_goals try simp only [go_sem, hrl, hgs, hms, hs8, Nat.mul_one, hwn, hmw, hwn8, Nat.mul_one]
        all_goals
         first | rfl | (simp [*]; done) | (simp_all; done) | (simp_all; omega)
       ·try simp only [Bool.not_eq_true', Bool.not_eq_false'] at g2
        have n2 := g2; try simp only [nrm] at n2
        simp only [go_sem, hrl, hgs, hms, hs8, Nat.mul_one, g1, g2]
        try refine And.intro (by repeat' (first | refine And.intro ?_ ?_ | exact GOr_right (fun _ => by simp only [go_sem, hrl, hgs, hms, hs8, Nat.mul_one]))) ?_
        refine hR _ ?_
        all_goals try simp only [go_sem, hrl, hgs, hms, hs8, Nat.mul_one]
        all_goals
         first | rfl | (simp [*]; done) | (simp_all; done) | (simp_all; omega)
      ·try simp only [Bool.not_eq_true', Bool.not_eq_false'] at g1
       have n1 := g1; try simp only [nrm] at n1
       simp only [go_sem, hrl, hgs, hms, hs8, Nat.mul_one, g1]
       try refine And.intro (by repeat' (first | refine And.intro ?_ ?_ | exact GOr_right (fun _ => by simp only [go_sem, hrl, hgs, hms, hs8, Nat.mul_one]))) ?_
       refine hR _ ?_
       all_goals try simp only [go_sem, hrl, hgs, hms, hs8, Nat.mul_one]
       all_goals
        first | rfl | (simp [*]; done) | (simp_all; done) | (simp_all; omega)
    ·try simp only [nrm] at c6
     have hse : N = s := by first | omega | (simp at c6; omega)
     subst hse
     obtain ⟨wl, hwl⟩ : ∃ z : Nat, worstF out ls N = z := ⟨(worstF out ls N).toNat, by omega⟩
     have hgset := goneC_set (out := out) (s := wl) (by omega)
     have hwl8 : (wl : Int) < 8 := by omega
     have hgl8 : decide (wl + 1 ≤ (goneC out).length) = true := decide_eq_true (by rw [goneC_len]; omega)
     refine W_exit ?_
     simp only [go_sem, hrl, hwl, hgset, hwl8, hgl8, Nat.mul_one]
     refine kq26 _ _ ?_
     refine W_seq fun kz33 kq33 => ?_
     refine W_region [0, 1, 4, 8, 14] fun R hR => ?_
     simp only [go_sem, hrl, hwl, hgset, hwl8, hgl8, Nat.mul_one]
     refine hR _ _ (kq33 _ _ ?_); clear hR R; try clear kq33 kz33
     try simp only [go_sem, hrl, hwl, hgset, hwl8, hgl8, Nat.mul_one]
     refine W_region [0, 1, 4, 8] fun R hR => ?_
     simp only [go_sem, hrl, hwl, hgset, hwl8, hgl8, Nat.mul_one]
     try simp (disch := first | omega | (simp only [go_sem] <;> omega)) only [wrapI, wrapU, appX_exact, appX_tok]
     try simp only [go_sem, hrl, hwl, hgset, hwl8, hgl8, Nat.mul_one]
     refine hR _ _ ?_; clear hR R
     try simp only [go_sem, hrl, hwl, hgset, hwl8, hgl8, Nat.mul_one]
     refine ⟨i + 1, ?_, by (try simp only []); omega, ?_⟩
     ·have hru : runU N ls (i + 1) = out ++ [(wl : Int)] := by simp only [runU, hout, hwl]
      refine Weak.trans (Weak.cutX 1 1 (by omega) (by omega) hcl ?_ ?_) ?_
      ·simp only [go_sem, eq_true (goneC_clean _)]
      ·simp only [go_sem]
       all_goals first | omega | exact fail1
      simp only [go_sem]
      refine Weak.eq ?_ ?_
      ·simp only [hru, List.map_append, List.map_cons, List.map_nil]; first | done | rfl
      ·simp only [hru]; first | done | rfl
     ·try dsimp only
      omega
  ·try simp only [nrm] at c2
   have hie : i = N - 1 := by first | omega | (simp at c2; omega)
   subst hie
   have hlo := some_left (n := N) (out := out) (by omega)
   have hsl : ∀ id, slicePV Tryz.prog 134 (.ptr id 0) none (some (I N)) none = some (.msl id 0 N) := fun id => sl86 (by omega) (by omega)
   refine W_exit ?_
   simp only [go_sem, hrl, hsl]
   refine kq7 _ _ ?_
   refine W_seq fun kz34 kq34 => ?_
   refine W_region [4, 5, 6] fun R hR => ?_
   simp only [go_sem, hrl, hsl]
   refine GCall_of (gIndex_pc Y (σ.ext [some (goneC out)] [N - 1]) out σ.store.length N (by omega) (Sg.get_ext0 ..)) ?_
   simp only [go_sem, hrl, hsl]
   refine hR _ _ (kq34 _ _ ?_); clear hR R; try clear kq34 kz34
   try simp only [go_sem, hrl, hsl]
   refine W_ret ?_
   simp only [go_sem, hrl, hsl]
   refine ⟨.inr (by trivial), ?_⟩
   first | (rw [hall]; refine Fin_same hcl rfl (Wk.ro (by simp only [go_sem]) ?_)) | refine Fin_same hcl rfl (Wk.ro (by simp only [go_sem]) ?_) | refine Fin_self hcl rfl (Wk.ro (by simp only [go_sem]) ?_)
   try simp only [go_sem]
   all_goals
    first | done | rfl | (simp only [go_sem]; done) | (rw [idxF_eq (n := N) (out := out) N 0 (by omega) (by obtain ⟨s, h1, h2⟩ := hlo; exact ⟨s, Nat.zero_le _, h1, h2⟩), hout]; first | done | rfl)
def exC : Contest := ⟨3, 2, 3, 10, [⟨2, 1, 2⟩, ⟨1, 1, 3⟩]⟩
def exL : List Ballot := [⟨1, 0, 1, 0, 0, 7⟩, ⟨2, 0, 1, 0, 1, 9⟩, ⟨3, 0, 1, 1, 2, 8⟩, ⟨4, 0, 2, 0, 0, 0⟩, ⟨5, 0, 2, 0, 1, 0⟩, ⟨6, 0, 2, 1, 0, 0⟩, ⟨7, 1, 2, 0, 2, 0⟩, ⟨8, 1, 2, 0, 1, 0⟩, ⟨9, 1, 1, 1, 1, 4⟩, ⟨10, 1, 2, 1, 0, 0⟩]
def exD : Contest := ⟨2, 0, 3, 0, [⟨1, 0, 1⟩]⟩
def exK : List Ballot := [⟨1, 0, 2, 0, 0, 0⟩, ⟨2, 0, 2, 1, 0, 0⟩]
def exP : List (List Int) := [[0, 1, 2], [1, 0, 2], [1, 2, 0], [2, 0, 1], [2, 0, 1]]
def exT0 : Tally := countT ⟨2, 1, 2⟩ 0 [0, 1, 2] exL
def exT1 : Tally := countT ⟨1, 1, 3⟩ 1 [0, 1] exL
def exT2 : Tally := countT ⟨1, 0, 1⟩ 0 [0, 1] exK
theorem ex0 : resT exT0 = ⟨[0, 1, 2], [7, 9, 8], [2, 0, 0], [11, 9, 8], [0, 1]⟩ := by
 unfold resT keptS
 rw [sortI_isort]
 decide
theorem ex1 : resT exT1 = ⟨[0, 1], [0, 4], [1, 1], [3, 7], [1]⟩ := by
 unfold resT keptS
 rw [sortI_isort]
 decide
theorem exTs : roundsT exC exL = [exT0, exT1] := by
 have e : (resT (countT ⟨2, 1, 2⟩ ((0 : Nat) : Int) (toI 3) exL)).kept = [0, 1] := by
  have := congrArg Res.kept ex0
  exact this
 unfold roundsT
 simp only [exC, rdsT]
 rw [e]
 rfl
theorem exRun : runD exC exL = ([⟨[0, 1, 2], [7, 9, 8], [2, 0, 0], [11, 9, 8], [0, 1]⟩, ⟨[0, 1], [0, 4], [1, 1], [3, 7], [1]⟩], 1, 0) := by
 have h0 : chkBls exC exL = 0 := by decide
 unfold runD
 rw [if_neg (by rw [h0]; simp)]
 have h1 : resultsT exC exL = [⟨[0, 1, 2], [7, 9, 8], [2, 0, 0], [11, 9, 8], [0, 1]⟩, ⟨[0, 1], [0, 4], [1, 1], [3, 7], [1]⟩] := by
  unfold resultsT
  rw [exTs, List.map_cons, List.map_cons, List.map_nil, ex0, ex1]
 rw [h1]
 unfold winnerT
 rw [h1]
 rfl
theorem exMust0 : mustT exT2 exD 0 = true := by
 unfold mustT
 simp only [sortI_isort]
 decide
theorem exMust1 : mustT exT2 exD 1 = false := by
 unfold mustT
 simp only [sortI_isort]
 decide
theorem exMay1 : mayT exT2 exD 1 (freeT exT2 exD) = false := by decide
theorem exStays : staysD exD exK 0 = ([1, 2], 0) := by
 have h0 : chkBls exD exK = 0 := by decide
 have h1 : roundsT exD exK = [exT2] := rfl
 have h2 : inR 0 0 ((exD.rounds.length : Int) - 1) = true := by decide
 unfold staysD
 rw [if_neg (by rw [h0]; simp), if_neg (by rw [h2]; simp), h1]
 have e0 : staysV exT2 exD 0 = 1 := by unfold staysV; rw [if_neg (by decide), if_pos exMust0]
 have e1 : staysV exT2 exD 1 = 2 := by unfold staysV; rw [if_neg (by decide), if_neg (by rw [exMust1]; simp), if_neg (by rw [exMay1]; simp)]
 show ([staysV exT2 exD 0, staysV exT2 exD 1], (0 : Int)) = _
 rw [e0, e1]
theorem exRunoff : runoffA 3 exP = ([0, 2], 1, 0) := by decide
set_option maxHeartbeats 2000000 in
theorem contest_pc (Y : YEnv) (σ : Sg)  :
  PC Tryz.prog Y 51 [] σ (cnPV exC) (σ) := by
 refine PC_of_W Tryz.func51 rfl (by kernel_rfl) Tryz.ntmps51 (by simp) fun hcl hca => ?_
 refine W_seq fun kz1 kq1 => ?_
 refine W_region [0] fun R hR => ?_
 simp only [go_sem]
 refine hR _ _ (kq1 _ _ ?_); clear hR R; try clear kq1 kz1
 try simp only [go_sem]
 refine W_seq fun kz2 kq2 => ?_
 refine W_region [0] fun R hR => ?_
 simp only [go_sem]
 refine hR _ _ (kq2 _ _ ?_); clear hR R; try clear kq2 kz2
 try simp only [go_sem]
 refine W_ret ?_
 simp only [go_sem]
 refine ⟨.inr (by trivial), ?_⟩
 refine Fin_same hcl (by show resPV Tryz.prog _ _ [.cell 0 25] = some _; simp only [resPV, go_sem]; rfl) (Wk.ro (by simp only [go_sem, exC, List.map_cons, List.map_nil]) ?_)
 try simp only [go_sem]
 all_goals
  simp only [go_sem, exC, List.map_cons, List.map_nil]; first | done | rfl
set_option maxHeartbeats 2000000 in
theorem ballots_pc (Y : YEnv) (σ : Sg)  :
  PC Tryz.prog Y 52 [] σ (bls exL) (σ) := by
 refine PC_of_W Tryz.func52 rfl (by kernel_rfl) Tryz.ntmps52 (by simp) fun hcl hca => ?_
 refine W_seq fun kz1 kq1 => ?_
 refine W_region [] fun R hR => ?_
 simp only [go_sem]
 refine hR _ _ (kq1 _ _ ?_); clear hR R; try clear kq1 kz1
 try simp only [go_sem]
 refine W_seq fun kz2 kq2 => ?_
 refine W_region [0] fun R hR => ?_
 simp only [go_sem]
 refine hR _ _ (kq2 _ _ ?_); clear hR R; try clear kq2 kz2
 try simp only [go_sem]
 refine W_ret ?_
 simp only [go_sem]
 refine ⟨.inr (by trivial), ?_⟩
 refine Fin_self hcl rfl (Wk.ro (by simp only [go_sem, exL, List.map_cons, List.map_nil]) ?_)
 try simp only [go_sem]
 all_goals
  simp only [go_sem, exL, List.map_cons, List.map_nil]; first | done | rfl
set_option maxHeartbeats 2000000 in
theorem duel_pc (Y : YEnv) (σ : Sg)  :
  PC Tryz.prog Y 53 [] σ (cnPV exD) (σ) := by
 refine PC_of_W Tryz.func53 rfl (by kernel_rfl) Tryz.ntmps53 (by simp) fun hcl hca => ?_
 refine W_seq fun kz1 kq1 => ?_
 refine W_region [0] fun R hR => ?_
 simp only [go_sem]
 refine hR _ _ (kq1 _ _ ?_); clear hR R; try clear kq1 kz1
 try simp only [go_sem]
 refine W_seq fun kz2 kq2 => ?_
 refine W_region [0] fun R hR => ?_
 simp only [go_sem]
 refine hR _ _ (kq2 _ _ ?_); clear hR R; try clear kq2 kz2
 try simp only [go_sem]
 refine W_ret ?_
 simp only [go_sem]
 refine ⟨.inr (by trivial), ?_⟩
 refine Fin_same hcl (by show resPV Tryz.prog _ _ [.cell 0 25] = some _; simp only [resPV, go_sem]; rfl) (Wk.ro (by simp only [go_sem, exD, List.map_cons, List.map_nil]) ?_)
 try simp only [go_sem]
 all_goals
  simp only [go_sem, exD, List.map_cons, List.map_nil]; first | done | rfl
set_option maxHeartbeats 2000000 in
theorem votes_pc (Y : YEnv) (σ : Sg)  :
  PC Tryz.prog Y 54 [] σ (bls exK) (σ) := by
 refine PC_of_W Tryz.func54 rfl (by kernel_rfl) Tryz.ntmps54 (by simp) fun hcl hca => ?_
 refine W_seq fun kz1 kq1 => ?_
 refine W_region [] fun R hR => ?_
 simp only [go_sem]
 refine hR _ _ (kq1 _ _ ?_); clear hR R; try clear kq1 kz1
 try simp only [go_sem]
 refine W_seq fun kz2 kq2 => ?_
 refine W_region [0] fun R hR => ?_
 simp only [go_sem]
 refine hR _ _ (kq2 _ _ ?_); clear hR R; try clear kq2 kz2
 try simp only [go_sem]
 refine W_ret ?_
 simp only [go_sem]
 refine ⟨.inr (by trivial), ?_⟩
 refine Fin_self hcl rfl (Wk.ro (by simp only [go_sem, exK, List.map_cons, List.map_nil]) ?_)
 try simp only [go_sem]
 all_goals
  simp only [go_sem, exK, List.map_cons, List.map_nil]; first | done | rfl
set_option maxHeartbeats 2000000 in
theorem prefs_pc (Y : YEnv) (σ : Sg)  :
  PC Tryz.prog Y 56 [] σ (lls exP) (σ) := by
 refine PC_of_W Tryz.func56 rfl (by kernel_rfl) Tryz.ntmps56 (by simp) fun hcl hca => ?_
 refine W_seq fun kz1 kq1 => ?_
 refine W_region [] fun R hR => ?_
 simp only [go_sem]
 refine hR _ _ (kq1 _ _ ?_); clear hR R; try clear kq1 kz1
 try simp only [go_sem]
 refine W_seq fun kz2 kq2 => ?_
 refine W_region [0] fun R hR => ?_
 simp only [go_sem]
 refine hR _ _ (kq2 _ _ ?_); clear hR R; try clear kq2 kz2
 try simp only [go_sem]
 refine W_ret ?_
 simp only [go_sem]
 refine ⟨.inr (by trivial), ?_⟩
 refine Fin_self hcl rfl (Wk.ro (by simp only [go_sem, exP, llPV, List.map_cons, List.map_nil]) ?_)
 try simp only [go_sem]
 all_goals
  simp only [go_sem, exP, llPV, List.map_cons, List.map_nil]; first | done | rfl
set_option maxHeartbeats 4000000 in
theorem awake_pc (Y : YEnv) (σ : Sg)  :
  PC Tryz.prog Y 16 [] σ (.bool true) (σ) := by
 refine PC_of_W Tryz.func16 rfl (by kernel_rfl) Tryz.ntmps16 (by simp) fun hcl hca => ?_
 refine W_seq fun kz1 kq1 => ?_
 refine W_region [] fun R hR => ?_
 simp only [go_sem, List.map_cons, List.map_nil]
 refine hR _ _ (kq1 _ _ ?_); clear hR R; try clear kq1 kz1
 try simp only [go_sem, List.map_cons, List.map_nil]
 refine W_seq fun kz2 kq2 => ?_
 refine W_region [1, 2, 3] fun R hR => ?_
 simp only [go_sem, List.map_cons, List.map_nil]
 refine GCall_of (contest_pc Y _) ?_
 simp only [go_sem, List.map_cons, List.map_nil]
 refine GCall_of (ballots_pc Y _) ?_
 simp only [go_sem, List.map_cons, List.map_nil]
 refine GCall_of (PC.val (v' := .tuple [rss [⟨[0, 1, 2], [7, 9, 8], [2, 0, 0], [11, 9, 8], [0, 1]⟩, ⟨[0, 1], [0, 4], [1, 1], [3, 7], [1]⟩], I 1, I 0]) (Run_pc Y _ exC exL (by decide) (by decide)) (by rw [exRun])) ?_
 simp only [go_sem, List.map_cons, List.map_nil]
 refine hR _ _ (kq2 _ _ ?_); clear hR R; try clear kq2 kz2
 try simp only [go_sem, List.map_cons, List.map_nil]
 refine W_seq fun kz3 kq3 => ?_
 refine W_region [1, 2, 3, 4, 5] fun R hR => ?_
 simp only [go_sem, List.map_cons, List.map_nil]
 refine GCall_of (duel_pc Y _) ?_
 simp only [go_sem, List.map_cons, List.map_nil]
 refine GCall_of (votes_pc Y _) ?_
 simp only [go_sem, List.map_cons, List.map_nil]
 refine GCall_of (PC.val (v' := .tuple [ints [1, 2], I 0]) (Stays_pc Y _ exD exK 0 (by decide) (by decide)) (by rw [exStays])) ?_
 simp only [go_sem, List.map_cons, List.map_nil]
 refine hR _ _ (kq3 _ _ ?_); clear hR R; try clear kq3 kz3
 try simp only [go_sem, List.map_cons, List.map_nil]
 refine W_seq fun kz4 kq4 => ?_
 refine W_region [1, 2, 3, 4, 5, 6, 7, 8] fun R hR => ?_
 simp only [go_sem, List.map_cons, List.map_nil]
 refine GCall_of (prefs_pc Y _) ?_
 simp only [go_sem, List.map_cons, List.map_nil]
 refine GCall_of (PC.val (v' := .tuple [ints [0, 2], I 1, I 0]) (Runoff_pc Y _ 3 exP (by decide) (by decide)) (by rw [exRunoff])) ?_
 simp only [go_sem, List.map_cons, List.map_nil]
 refine hR _ _ (kq4 _ _ ?_); clear hR R; try clear kq4 kz4
 try simp only [go_sem, List.map_cons, List.map_nil]
 refine W_seq fun kz5 kq5 => ?_
 refine W_region [0] fun R hR => ?_
 simp only [go_sem, List.map_cons, List.map_nil, iaX0 (c := 5) (p := .agg [ints [0, 1, 2], ints [7, 9, 8], ints [2, 0, 0], ints [11, 9, 8], ints [0, 1]]) rfl, elS0]
 refine GCall_of (PC.val (v' := .bool true) (EqInts_pc Y _ [11, 9, 8] [11, 9, 8] .ro .exact (by decide)) (by rfl)) ?_
 simp only [go_sem, List.map_cons, List.map_nil, iaX0 (c := 5) (p := .agg [ints [0, 1, 2], ints [7, 9, 8], ints [2, 0, 0], ints [11, 9, 8], ints [0, 1]]) rfl, elS0]
 refine GCall_of (PC.val (v' := .bool true) (EqInts_pc Y _ [1, 2] [1, 2] .ro .exact (by decide)) (by rfl)) ?_
 simp only [go_sem, List.map_cons, List.map_nil, iaX0 (c := 5) (p := .agg [ints [0, 1, 2], ints [7, 9, 8], ints [2, 0, 0], ints [11, 9, 8], ints [0, 1]]) rfl, elS0]
 refine GCall_of (PC.val (v' := .bool true) (EqInts_pc Y _ [0, 2] [0, 2] .ro .exact (by decide)) (by rfl)) ?_
 simp only [go_sem, List.map_cons, List.map_nil, iaX0 (c := 5) (p := .agg [ints [0, 1, 2], ints [7, 9, 8], ints [2, 0, 0], ints [11, 9, 8], ints [0, 1]]) rfl, elS0]
 refine hR _ _ (kq5 _ _ ?_); clear hR R; try clear kq5 kz5
 try simp only [go_sem, List.map_cons, List.map_nil]
 refine W_ret ?_
 simp only [go_sem, List.map_cons, List.map_nil]
 refine ⟨.inr (by trivial), ?_⟩
 first | refine Fin_same hcl rfl (Wk_eq ?_ (by simp only [go_sem])) | refine Fin_self hcl rfl (Wk_eq ?_ (by simp only [go_sem]))
 try simp only [go_sem]
 all_goals
  first | rfl | (simp_all; done) | (simp_all; omega)
theorem chkRnd_of {c : Contest} {l : List Ballot} {rd : Int} (h : chkBls c l = 0) (h2 : 0 ≤ rd ∧ rd < c.rounds.length) : chkRnd c l rd = 0 := by
 unfold chkRnd
 rw [if_neg (by simp [h]), if_neg (by rw [inR_true.2 (by omega)]; simp)]
theorem staysD_rn {c : Contest} {l : List Ballot} {rn : Nat} {t : Tally} {fr : Nat} (h : chkBls c l = 0) (hO : RndOk c l rn t fr) : staysD c l rn = ((toI c.songs).map (staysV t c), 0) := staysD_at h hO.tt
def dueW (t : Tally) (c : Contest) (s : Int) (i : Nat) : Int := if has (t.songs.take i) s = true then staysV t c s else 2
set_option maxHeartbeats 16000000 in
theorem SongWays_pc (Y : YEnv) (σ : Sg) (nums : List Int) (hn : nums.length < 2 ^ 60) :
  PC Tryz.prog Y 3 [ints nums] σ (.bool true) (σ) := by
 refine PC_of_W Tryz.func3 rfl (by kernel_rfl) Tryz.ntmps3 (by simp) fun hcl hca => ?_
 obtain ⟨b0, hb0⟩ : ∃ z, drumB nums 2685821657736338717 = z := ⟨_, rfl⟩
 obtain ⟨c0, hc0⟩ : ∃ zz, (contestD 3 1 4 b0).1 = zz := ⟨_, rfl⟩
 obtain ⟨b1, hb1⟩ : ∃ zz, (contestD 3 1 4 b0).2 = zz := ⟨_, rfl⟩
 have dc0 := contestD_ok (songs := 3) (juries := 1) (members := 4) (by omega) (by omega) (by omega) b0
 simp only [hc0] at dc0
 obtain ⟨mo, hmo⟩ : ∃ zz, (roll 3 b1).1 = zz := ⟨_, rfl⟩
 obtain ⟨b2, hb2⟩ : ∃ zz, (roll 3 b1).2 = zz := ⟨_, rfl⟩
 have dmo := roll_bd 3 b1
 simp only [hmo] at dmo
 have hM0 := smallC_ok dc0 (mo := mo) (by omega)
 obtain ⟨c, hc⟩ : ∃ z, smallC c0 mo = z := ⟨_, rfl⟩
 have hcr : c.rounds = c0.rounds := by rw [← hc]; rfl
 have hcm : c.most = mo := by rw [← hc]; rfl
 rw [hc] at hM0
 have hM := hM0
 obtain ⟨l, hl⟩ : ∃ zz, (ballotsD c 10 b2).1 = zz := ⟨_, rfl⟩
 obtain ⟨b3, hb3⟩ : ∃ zz, (ballotsD c 10 b2).2 = zz := ⟨_, rfl⟩
 have dl := ballotsD_ok hM (most := 10) (by omega) b2
 simp only [hl] at dl
 obtain ⟨rz, hrz⟩ : ∃ zz, (roll c0.rounds.length b3).1 = zz := ⟨_, rfl⟩
 obtain ⟨b4, hb4⟩ : ∃ zz, (roll c0.rounds.length b3).2 = zz := ⟨_, rfl⟩
 have drz := roll_bd c0.rounds.length b3
 simp only [hrz] at drz
 obtain ⟨dl1, dl2, dl3, dl4⟩ := dl
 have hll : l.length ≤ 300 := by omega
 have hck := chkBls_of hM.ok hll dl2 dl3
 have hrl := hM.rl
 rw [hcr] at hrl
 have hckr : chkRnd c l rz = 0 := chkRnd_of hck (by rw [hcr]; omega)
 obtain ⟨rn, t, fr, hrz2, hO⟩ := rnd_ok hckr
 subst hrz2
 obtain ⟨most, hS⟩ := small_of hO hM (by omega)
 have hsl := hS.sl
 have hf4 := hS.f4
 have hcl0 : c.rounds.length < 2 ^ 40 := by rw [hcr]; omega
 have hsg0 := hM.sg
 have hrr := hO.rr
 have hrn2 : (rn : Int) < (c.rounds.length : Int) := by have := (List.getElem?_eq_some_iff.1 hrr).1; omega
 have hRs : (resT t).songs = t.songs := rfl
 have hT := hO.T
 have hst := staysD_rn hck hO
 have hrun : runD c l = (resultsT c l, winnerT c l, 0) := by unfold runD; rw [if_neg (by simp [hck])]
 have hRS := run_ok hck
 obtain ⟨RR, hRR⟩ : ∃ z, resultsT c l = z := ⟨_, rfl⟩
 obtain ⟨WW, hWW⟩ : ∃ z, winnerT c l = z := ⟨_, rfl⟩
 rw [hRR, hWW] at hrun
 have hRt : RR[rn]? = some (resT t) := by rw [← hRR]; unfold resultsT; rw [List.getElem?_map, hO.tt]; rfl
 have hRl : RR.length = c.rounds.length := by rw [← hRR]; unfold resultsT roundsT; rw [List.length_map, rdsT_len]
 have hrRl : (rn : Int) < (RR.length : Int) := by rw [hRl]; exact hrn2
 have hsm : rsSmall (resT t) := by
  have := hRS.2.1 (resT t) (by rw [hRR]; exact List.mem_of_getElem? hRt)
  exact this
 obtain ⟨N, hN⟩ : ∃ z : Nat, c.songs = z := ⟨c.songs.toNat, by omega⟩
 rw [hN, toI_N] at hst
 obtain ⟨V, hV⟩ : ∃ z, (toN N).map (staysV t c) = z := ⟨_, rfl⟩
 rw [hV] at hst
 have hVl : (V.length : Int) = c.songs := by rw [← hV, List.length_map, toN_len, hN]
 have hW : WOk c t.rd most t.songs.length (allT t) (t.songs.map (jurT t c)) fr (fun _ => 0) := W_start hO hS allT_len (fun x hx => (allT_pts hT hx).1) (fun x hx => by have := (allT_pts hT hx).2; omega) hf4
 have hwn := fun (i : Nat) (s : Int) (hs : t.songs[i]? = some s) => ways_must hO hS.ms (fun x _ => hS.jn x) hs
 obtain ⟨FM, hFM⟩ : ∃ z, finM t.rd most (t.songs.map (jurT t c)) fr (allT t) = z := ⟨_, rfl⟩
 rw [hFM] at hwn
 refine W_seq fun kz1 kq1 => ?_
 refine W_region [0] fun R hR => ?_
 simp only [go_sem, hb0, hc0, hb1, hmo, hb2, hl, hb3, hrz, hb4]
 refine hR _ _ (kq1 _ _ ?_); clear hR R; try clear kq1 kz1
 try simp only [go_sem, hb0, hc0, hb1, hmo, hb2, hl, hb3, hrz, hb4]
 refine W_seq fun kz2 kq2 => ?_
 refine W_region [3, 4, 5] fun R hR => ?_
 simp only [go_sem, hb0, hc0, hb1, hmo, hb2, hl, hb3, hrz, hb4]
 refine GCall_of (DrumOf_pc Y _ nums hn) ?_
 simp only [go_sem, hb0, hc0, hb1, hmo, hb2, hl, hb3, hrz, hb4]
 refine GCall_of (small_pc Y _ _ b0 b1 b2 b3 b4 (Sg.get_ext0 ..) c0 mo l rn hc0 hb1 hmo hb2 c hc hl hb3 hrz hb4 hM) ?_
 simp only [go_sem, hb0, hc0, hb1, hmo, hb2, hl, hb3, hrz, hb4]
 refine hR _ _ (kq2 _ _ ?_); clear hR R; try clear kq2 kz2
 try simp only [go_sem, hb0, hc0, hb1, hmo, hb2, hl, hb3, hrz, hb4]
 refine W_seq fun kz3 kq3 => ?_
 refine W_region [3, 4, 5, 6, 7] fun R hR => ?_
 simp only [go_sem, hb0, hc0, hb1, hmo, hb2, hl, hb3, hrz, hb4]
 refine GCall_of (PC.val (v' := .tuple [ints V, I 0]) (Stays_pc Y _ c l rn hcl0 (by omega)) (by rw [hst])) ?_
 simp only [go_sem, hb0, hc0, hb1, hmo, hb2, hl, hb3, hrz, hb4]
 refine hR _ _ (kq3 _ _ ?_); clear hR R; try clear kq3 kz3
 try simp only [go_sem, hb0, hc0, hb1, hmo, hb2, hl, hb3, hrz, hb4]
 refine W_seq fun kz4 kq4 => ?_
 refine W_region [3, 4, 5, 6, 7, 8, 10] fun R hR => ?_
 simp only [go_sem, hb0, hc0, hb1, hmo, hb2, hl, hb3, hrz, hb4]
 refine GCall_of (PC.val (v' := .tuple [rss RR, I WW, I 0]) (Run_pc Y _ c l hcl0 (by omega)) (by rw [hrun])) ?_
 simp only [go_sem, hb0, hc0, hb1, hmo, hb2, hl, hb3, hrz, hb4]
 refine hR _ _ (kq4 _ _ ?_); clear hR R; try clear kq4 kz4
 try simp only [go_sem, hb0, hc0, hb1, hmo, hb2, hl, hb3, hrz, hb4]
 refine W_seq fun kz5 kq5 => ?_
 refine W_seq fun kz6 kq6 => ?_
 refine W_drawJ [3, 4, 5, 6, 8, 72] [(72, .bool false)] [0, 1, 2, 3, 4, 5, 6, 7, 8, 9, 10, 11, 12, 13, 14, 15, 16, 17, 18, 19, 20, 21, 22, 23, 24, 25, 26, 27, 28, 29, 30, 31, 32] [(22, 30), (23, 30), (24, 30), (25, 30)] [[], [0], [0, 1], [0, 1, 2], [0, 1, 2, 3], [0, 1, 2, 3, 4], [0, 1, 2, 3, 4, 5], [0, 1, 2, 3, 4, 5, 6], [0, 1, 2, 3, 4, 5, 6, 7], [0, 1, 2, 3, 4, 5, 6], [0, 1, 2, 3, 4, 5, 6, 9], [0, 1, 2, 3, 4, 5, 6, 7, 8, 9, 10], [0, 1, 2, 3, 4, 5, 6, 7, 8, 9, 10, 11], [0, 1, 2, 3, 4, 5, 6, 7, 8, 9, 10, 11, 12], [0, 1, 2, 3, 4, 5, 6, 7, 8, 9, 10, 11, 12, 13], [0, 1, 2, 3, 4, 5, 6, 7, 8, 9, 10, 11, 12, 13, 14], [0, 1, 2, 3, 4, 5, 6, 7, 8, 9, 10, 11, 12, 13], [0, 1, 2, 3, 4, 5, 6, 7, 8, 9, 10, 11, 12, 13, 16], [0, 1, 2, 3, 4, 5, 6, 7, 8, 9, 10, 11, 12, 13, 16, 17], [0, 1, 2, 3, 4, 5, 6, 7, 8, 9, 10, 11, 12, 13, 14, 15, 16, 17, 18], [0, 1, 2, 3, 4, 5, 6, 7, 8, 9, 10, 11, 12, 13, 14, 15, 16, 17, 18, 19], [0, 1, 2, 3, 4, 5, 6, 7, 8, 9, 10, 11, 12, 13, 14, 15, 16, 17, 18, 19, 20], [0, 1, 2, 3, 4, 5, 6, 7, 8, 9, 10, 11, 12, 13, 14, 15, 16, 17, 18, 19, 20, 21], [0, 1, 2, 3, 4, 5, 6, 7, 8, 9, 10, 11, 12, 13, 14, 15, 16, 17, 18, 19, 20, 21], [0, 1, 2, 3, 4, 5, 6, 7, 8, 9, 10, 11, 12, 13, 14, 15, 16, 17, 18, 19, 20, 21, 22, 23], [0, 1, 2, 3, 4, 5, 6, 7, 8, 9, 10, 11, 12, 13, 14, 15, 16, 17, 18, 19, 20, 21, 22, 23, 24], [0, 1, 2, 3, 4, 5, 6, 7, 8, 9, 10, 11, 12, 13, 14, 15, 16, 17, 18, 19, 20, 21], [0, 1, 2, 3, 4, 5, 6, 7, 8, 9, 10, 11, 12, 13, 14, 15, 16, 17, 18, 19, 20, 21], [0, 1, 2, 3, 4, 5, 6, 7, 8, 9, 10, 11, 12, 13, 14, 15, 16, 17, 18, 19, 20, 21], [0, 1, 2, 3, 4, 5, 6, 7, 8, 9, 10, 11, 12, 13, 14, 15, 16, 17, 18, 19, 20, 21, 26, 27, 28], [0, 1, 2, 3, 4, 5, 6, 7, 8, 9, 10, 11, 12, 13, 14, 15, 16, 17, 18, 19, 20, 21, 22, 23, 24, 25, 26, 27, 28, 29], [0, 1, 2, 3, 4, 5, 6, 7, 8, 9, 10, 11, 12, 13, 14, 15, 16, 17, 18, 19, 20, 21, 22, 23, 24, 25, 26, 27, 28, 29, 30], [0, 1, 2, 3, 4, 5, 6, 7, 8, 9, 10, 11, 12, 13, 14, 15, 16, 17, 18, 19, 20, 21, 22, 23, 24, 25, 26, 27, 28, 29, 30, 31]] mixed (by kernel_rfl) ?_ fun R hR => ?_
 ·refine kq6 _ _ ?_
  simp only [go_sem, hb0, hc0, hb1, hmo, hb2, hl, hb3, hrz, hb4]
  refine W_cond rfl (fun c1 => ?_) (fun c1 => ?_)
  ·try simp only [nrm] at c1
   exfalso
   first | contradiction | (simp at c1)
  ·try simp only [nrm] at c1
   refine W_skip (kq5 _ _ ?_)
   refine W_seq fun kz7 kq7 => ?_
   refine W_region [3, 4, 5, 6, 11] fun R hR => ?_
   simp only [go_sem, hb0, hc0, hb1, hmo, hb2, hl, hb3, hrz, hb4, hrRl, iaX_map hRt rfl, elA_map hRt, hRt]
   refine hR _ _ (kq7 _ _ ?_); clear hR R; try clear kq7 kz7
   try simp only [go_sem, hb0, hc0, hb1, hmo, hb2, hl, hb3, hrz, hb4]
   refine W_seq fun kz8 kq8 => ?_
   refine W_region [3, 5, 6, 11, 12, 13] fun R hR => ?_
   simp only [go_sem, hb0, hc0, hb1, hmo, hb2, hl, hb3, hrz, hb4]
   refine GCall_of (PC.val (v' := .tuple [I fr, ints (t.songs.map (jurT t c))]) (rLeft_pc Y _ c l rn t hO.V hO.ll hO.hb hO.sn hO.tt) (by rw [hO.ff])) ?_
   simp only [go_sem, hb0, hc0, hb1, hmo, hb2, hl, hb3, hrz, hb4]
   refine hR _ _ (kq8 _ _ ?_); clear hR R; try clear kq8 kz8
   try simp only [go_sem, hb0, hc0, hb1, hmo, hb2, hl, hb3, hrz, hb4]
   refine W_seq fun kz9 kq9 => ?_
   refine W_region [3, 5, 6, 11, 12, 13, 14] fun R hR => ?_
   simp only [go_sem, hb0, hc0, hb1, hmo, hb2, hl, hb3, hrz, hb4, hRs, mkI (k := t.songs.length) (by omega)]
   refine hR _ _ (kq9 _ _ ?_); clear hR R; try clear kq9 kz9
   try simp only [go_sem, hb0, hc0, hb1, hmo, hb2, hl, hb3, hrz, hb4]
   refine W_seq fun kz10 kq10 => ?_
   refine W_draw [3, 6, 11, 14, 15] [0, 1, 2, 3, 4, 5, 6, 7, 8, 9, 10, 11, 12] [(0, 11), (1, 11), (2, 11), (3, 11), (4, 11), (5, 11), (8, 7), (9, 7), (10, 7)] [[], [], [1], [], [1, 2, 3], [1, 2, 3, 4], [], [6], [], [], [], [0, 1, 2, 3, 4, 5, 6, 7, 8, 9, 10], [0, 1, 2, 3, 4, 5, 6, 7, 8, 9, 10, 11]] mixed (by kernel_rfl) fun R hR => ?_
   simp only [go_sem, hb0, hc0, hb1, hmo, hb2, hl, hb3, hrz, hb4, hrr, hrn2, hFM]
   refine GCall_of (standR_pc Y _ t (by omega)) ?_
   simp only [go_sem, hb0, hc0, hb1, hmo, hb2, hl, hb3, hrz, hb4, hrr, hrn2, hFM]
   refine GCall_of (ways_start c t.rd most t.songs.length _ (allT t) (t.songs.map (jurT t c)) fr hW Y _ (Sg.get_ext ..)) ?_
   simp only [go_sem, hb0, hc0, hb1, hmo, hb2, hl, hb3, hrz, hb4, hrr, hrn2, hFM]
   try refine And.intro (by repeat' (first | refine And.intro ?_ ?_ | exact trivial | exact GOr_right (fun _ => by simp only [go_sem, hb0, hc0, hb1, hmo, hb2, hl, hb3, hrz, hb4, hrr, hrn2, hFM]))) ?_
   refine hR _ _ (kq10 _ _ ?_); clear hR R; try clear kq10 kz10
   try simp only [go_sem, hb0, hc0, hb1, hmo, hb2, hl, hb3, hrz, hb4]
   refine W_seq fun kz11 kq11 => ?_
   refine W_seq fun kz12 kq12 => ?_
   refine W_region [3, 6, 11, 14, 15, 16] fun R hR => ?_
   simp only [go_sem, hb0, hc0, hb1, hmo, hb2, hl, hb3, hrz, hb4]
   refine hR _ _ (kq12 _ _ ?_); clear hR R; try clear kq12 kz12
   try simp only [go_sem, hb0, hc0, hb1, hmo, hb2, hl, hb3, hrz, hb4]
   refine W_block ?_
   refine W_loopT (α := Nat) (fun (k : Nat) => [(16, I k)]) (fun (k : Nat) => σ.ext [some [.int .u64 b4], some [I c.songs, I c.juries, I c.members, I c.most, rds c.rounds], some (rsCells (resT t)), some ((rowG (cntK t.rd.keep FM) t.songs.length).map I)] []) (fun (k : Nat) => k ≤ N) (fun (k : Nat) => N - k) (0) rfl (by first | rfl | (simp only [go_sem]; done) | (simp only [go_sem]; rfl)) (Nat.zero_le _) ?_
   rintro k hk
   refine W_seq fun kz13 kq13 => ?_
   refine W_seq fun kz14 kq14 => ?_
   refine W_region [3, 6, 11, 14, 15, 16, 103] fun R hR => ?_
   simp only [go_sem, hb0, hc0, hb1, hmo, hb2, hl, hb3, hrz, hb4]
   refine hR _ _ (kq14 _ _ ?_); clear hR R; try clear kq14 kz14
   try simp only [go_sem, hb0, hc0, hb1, hmo, hb2, hl, hb3, hrz, hb4]
   refine W_cond rfl (fun c2 => ?_) (fun c2 => ?_)
   ·try simp only [nrm] at c2
    have hk' : k < N := by first | omega | (simp at c2; omega)
    have hkV : (k : Int) < (V.length : Int) := by omega
    have hVk : V[k]? = some (staysV t c k) := by rw [← hV, List.getElem?_map]; simp [toN, hk']
    refine W_skip (kq13 _ _ ?_)
    refine W_seq fun kz15 kq15 => ?_
    refine W_block ?_
    refine W_seq fun kz16 kq16 => ?_
    refine W_region [3, 6, 11, 14, 15, 16, 17] fun R hR => ?_
    simp only [go_sem, hb0, hc0, hb1, hmo, hb2, hl, hb3, hrz, hb4]
    refine hR _ _ (kq16 _ _ ?_); clear hR R; try clear kq16 kz16
    try simp only [go_sem, hb0, hc0, hb1, hmo, hb2, hl, hb3, hrz, hb4]
    refine W_seq fun kz17 kq17 => ?_
    refine W_seq fun kz18 kq18 => ?_
    refine W_region [3, 6, 11, 14, 15, 16, 17, 18] fun R hR => ?_
    simp only [go_sem, hb0, hc0, hb1, hmo, hb2, hl, hb3, hrz, hb4]
    refine hR _ _ (kq18 _ _ ?_); clear hR R; try clear kq18 kz18
    try simp only [go_sem, hb0, hc0, hb1, hmo, hb2, hl, hb3, hrz, hb4]
    refine W_block ?_
    refine W_loopT (α := Nat) (fun (i : Nat) => [(17, I (dueW t c k i)), (18, I i)]) (fun (i : Nat) => σ.ext [some [.int .u64 b4], some [I c.songs, I c.juries, I c.members, I c.most, rds c.rounds], some (rsCells (resT t)), some ((rowG (cntK t.rd.keep FM) t.songs.length).map I)] []) (fun (i : Nat) => i ≤ t.songs.length) (fun (i : Nat) => t.songs.length - i) (0) rfl (by first | rfl | (simp only [go_sem]; done) | (simp only [go_sem]; rfl)) (Nat.zero_le _) ?_
    rintro i hi
    refine W_seq fun kz19 kq19 => ?_
    refine W_seq fun kz20 kq20 => ?_
    refine W_region [3, 6, 11, 14, 15, 16, 17, 18, 110] fun R hR => ?_
    simp only [go_sem, hb0, hc0, hb1, hmo, hb2, hl, hb3, hrz, hb4, hRs]
    refine hR _ _ (kq20 _ _ ?_); clear hR R; try clear kq20 kz20
    try simp only [go_sem, hb0, hc0, hb1, hmo, hb2, hl, hb3, hrz, hb4]
    refine W_cond rfl (fun c3 => ?_) (fun c3 => ?_)
    ·try simp only [nrm] at c3
     have hi' : i < t.songs.length := by first | omega | (simp at c3; omega)
     obtain ⟨s, hs⟩ : ∃ z, t.songs[i]? = some z := ⟨t.songs[i], by simp [hi']⟩
     have hil : (i : Int) < (t.songs.length : Int) := by omega
     have hil1 : i + 1 ≤ t.songs.length := by omega
     have hmy := rowG_get (f := cntK t.rd.keep FM) hi'
     have hmyl := rowG_len (cntK t.rd.keep FM) t.songs.length
     refine W_skip (kq19 _ _ ?_)
     refine W_seq fun kz21 kq21 => ?_
     refine W_block ?_
     refine W_seq fun kz22 kq22 => ?_
     refine W_seq fun kz23 kq23 => ?_
     refine W_region [3, 6, 11, 14, 15, 16, 17, 18, 119] fun R hR => ?_
     simp only [go_sem, hb0, hc0, hb1, hmo, hb2, hl, hb3, hrz, hb4, hRs, hil, hs]
     refine hR _ _ (kq23 _ _ ?_); clear hR R; try clear kq23 kz23
     try simp only [go_sem, hb0, hc0, hb1, hmo, hb2, hl, hb3, hrz, hb4]
     refine W_cond rfl (fun c4 => ?_) (fun c4 => ?_)
     ·try simp only [nrm] at c4
      have hns : s ≠ k := by simpa using c4
      have hd2 : dueW t c k (i + 1) = dueW t c k i := by
       have : (has (t.songs.take (i + 1)) k = true) ↔ (has (t.songs.take i) k = true) := by
        rw [has_iff, has_iff, List.take_add_one, hs]
        simp
        omega
       unfold dueW
       simp only [this]
      refine W_exit ?_
      simp only [go_sem, hb0, hc0, hb1, hmo, hb2, hl, hb3, hrz, hb4]
      refine kq21 _ _ ?_
      refine W_region [3, 6, 11, 14, 15, 16, 17, 18] fun R hR => ?_
      simp only [go_sem, hb0, hc0, hb1, hmo, hb2, hl, hb3, hrz, hb4]
      try simp (disch := omega) only [wrapI, wrapU]
      refine hR _ _ ?_; clear hR R
      try simp only [go_sem, hb0, hc0, hb1, hmo, hb2, hl, hb3, hrz, hb4]
      refine ⟨i + 1, ?_, by (try simp only []); omega, ?_⟩
      ·exact Weak.eq (by rw [hd2]; first | done | rfl | (simp only [go_sem]; first | done | rfl)) rfl
      ·try dsimp only
       exact hi'
     ·try simp only [nrm] at c4
      have hsk : s = k := by simpa using c4
      subst hsk
      obtain ⟨hw1, hw2⟩ := hwn i k hs
      have hhas : has t.songs k = true := by rw [has_iff]; exact List.mem_of_getElem? hs
      have hd3 : dueW t c k (i + 1) = staysV t c k := by unfold dueW; rw [if_pos (by rw [has_iff, List.take_add_one, hs]; simp)]
      refine W_skip (kq22 _ _ ?_)
      refine W_seq fun kz24 kq24 => ?_
      refine W_region [3, 6, 11, 14, 15, 16, 17, 18, 125] fun R hR => ?_
      simp only [go_sem, hb0, hc0, hb1, hmo, hb2, hl, hb3, hrz, hb4, hil, hil1, hmy, hmyl, Nat.mul_one, Nat.zero_add, List.getElem?_map]
      refine hR _ _ (kq24 _ _ ?_); clear hR R; try clear kq24 kz24
      try simp only [go_sem, hb0, hc0, hb1, hmo, hb2, hl, hb3, hrz, hb4]
      refine W_cond rfl (fun c5 => ?_) (fun c5 => ?_)
      ·try simp only [nrm] at c5
       have hd2 : dueW t c k (i + 1) = 1 := by rw [hd3]; unfold staysV; rw [if_neg (by simp [hhas]), if_pos (hw1.1 (by first | exact c5 | simpa using c5))]
       refine W_region [3, 6, 11, 14, 15, 16, 17, 18] fun R hR => ?_
       simp only [go_sem, hb0, hc0, hb1, hmo, hb2, hl, hb3, hrz, hb4]
       refine hR _ _ (kq21 _ _ ?_); clear hR R; try clear kq21 kz21
       try simp only [go_sem, hb0, hc0, hb1, hmo, hb2, hl, hb3, hrz, hb4]
       refine W_region [3, 6, 11, 14, 15, 16, 17, 18] fun R hR => ?_
       simp only [go_sem, hb0, hc0, hb1, hmo, hb2, hl, hb3, hrz, hb4]
       try simp (disch := omega) only [wrapI, wrapU]
       refine hR _ _ ?_; clear hR R
       try simp only [go_sem, hb0, hc0, hb1, hmo, hb2, hl, hb3, hrz, hb4]
       refine ⟨i + 1, ?_, by (try simp only []); omega, ?_⟩
       ·exact Weak.eq (by rw [hd2]; first | done | rfl | (simp only [go_sem]; first | done | rfl)) rfl
       ·try dsimp only
        exact hi'
      ·try simp only [nrm] at c5
       have hmu : mustT t c k = false := by
        cases h : mustT t c k with
        | true => exact absurd (hw1.2 h) (by first | exact c5 | simpa using c5)
        | false => rfl
       refine W_seq fun kz25 kq25 => ?_
       refine W_region [3, 6, 11, 14, 15, 16, 17, 18, 130] fun R hR => ?_
       simp only [go_sem, hb0, hc0, hb1, hmo, hb2, hl, hb3, hrz, hb4, hil, hil1, hmy, hmyl, Nat.mul_one, Nat.zero_add, List.getElem?_map]
       refine hR _ _ (kq25 _ _ ?_); clear hR R; try clear kq25 kz25
       try simp only [go_sem, hb0, hc0, hb1, hmo, hb2, hl, hb3, hrz, hb4]
       refine W_cond rfl (fun c6 => ?_) (fun c6 => ?_)
       ·try simp only [nrm] at c6
        have hd2 : dueW t c k (i + 1) = 3 := by rw [hd3]; unfold staysV; rw [if_neg (by simp [hhas]), if_neg (by simp [hmu]), hO.ff, if_pos (hw2.1 (by first | exact c6 | simpa using c6))]
        refine W_region [3, 6, 11, 14, 15, 16, 17, 18] fun R hR => ?_
        simp only [go_sem, hb0, hc0, hb1, hmo, hb2, hl, hb3, hrz, hb4]
        refine hR _ _ (kq21 _ _ ?_); clear hR R; try clear kq21 kz21
        try simp only [go_sem, hb0, hc0, hb1, hmo, hb2, hl, hb3, hrz, hb4]
        refine W_region [3, 6, 11, 14, 15, 16, 17, 18] fun R hR => ?_
        simp only [go_sem, hb0, hc0, hb1, hmo, hb2, hl, hb3, hrz, hb4]
        try simp (disch := omega) only [wrapI, wrapU]
        refine hR _ _ ?_; clear hR R
        try simp only [go_sem, hb0, hc0, hb1, hmo, hb2, hl, hb3, hrz, hb4]
        refine ⟨i + 1, ?_, by (try simp only []); omega, ?_⟩
        ·exact Weak.eq (by rw [hd2]; first | done | rfl | (simp only [go_sem]; first | done | rfl)) rfl
        ·try dsimp only
         exact hi'
       ·try simp only [nrm] at c6
        have hd2 : dueW t c k (i + 1) = dueW t c k i := by
         have h2 : staysV t c k = 2 := by unfold staysV; rw [if_neg (by simp [hhas]), if_neg (by simp [hmu]), hO.ff, if_neg fun h => c6 (by have := hw2.2 h; first | exact this | simpa using this)]
         rw [hd3, h2]
         unfold dueW
         rw [h2, ite_self]
        refine W_skip (kq21 _ _ ?_)
        refine W_region [3, 6, 11, 14, 15, 16, 17, 18] fun R hR => ?_
        simp only [go_sem, hb0, hc0, hb1, hmo, hb2, hl, hb3, hrz, hb4]
        try simp (disch := omega) only [wrapI, wrapU]
        refine hR _ _ ?_; clear hR R
        try simp only [go_sem, hb0, hc0, hb1, hmo, hb2, hl, hb3, hrz, hb4]
        refine ⟨i + 1, ?_, by (try simp only []); omega, ?_⟩
        ·exact Weak.eq (by rw [hd2]; first | done | rfl | (simp only [go_sem]; first | done | rfl)) rfl
        ·try dsimp only
         exact hi'
    ·try simp only [nrm] at c3
     have hie : t.songs.length = i := by first | omega | (simp at c3; omega)
     subst hie
     have hdue : dueW t c k t.songs.length = staysV t c k := by
      unfold dueW
      rw [List.take_length]
      by_cases h : has t.songs k = true
      ·rw [if_pos h]
      ·rw [if_neg h]
       unfold staysV
       rw [if_pos (by simpa using h)]
     refine W_exit ?_
     simp only [go_sem, hb0, hc0, hb1, hmo, hb2, hl, hb3, hrz, hb4]
     refine kq17 _ _ ?_
     refine W_seq fun kz26 kq26 => ?_
     refine W_region [3, 6, 11, 14, 15, 16, 136] fun R hR => ?_
     simp only [go_sem, hb0, hc0, hb1, hmo, hb2, hl, hb3, hrz, hb4, hkV, hVk, hdue]
     refine hR _ _ (kq26 _ _ ?_); clear hR R; try clear kq26 kz26
     try simp only [go_sem, hb0, hc0, hb1, hmo, hb2, hl, hb3, hrz, hb4]
     refine W_cond rfl (fun c7 => ?_) (fun c7 => ?_)
     ·try simp only [nrm] at c7
      exfalso
      first | contradiction | (simp at c7)
     ·try simp only [nrm] at c7
      refine W_skip (kq15 _ _ ?_)
      refine W_region [3, 6, 11, 14, 15, 16] fun R hR => ?_
      simp only [go_sem, hb0, hc0, hb1, hmo, hb2, hl, hb3, hrz, hb4]
      try simp (disch := omega) only [wrapI, wrapU]
      refine hR _ _ ?_; clear hR R
      try simp only [go_sem, hb0, hc0, hb1, hmo, hb2, hl, hb3, hrz, hb4]
      refine ⟨k + 1, ?_, by (try simp only []); omega, ?_⟩
      ·first | exact Weak.refl | exact Weak.eq rfl rfl
      ·try dsimp only
       exact hk'
   ·try simp only [nrm] at c2
    skip
    refine W_exit ?_
    simp only [go_sem, hb0, hc0, hb1, hmo, hb2, hl, hb3, hrz, hb4]
    refine kq11 _ _ ?_
    refine W_seq fun kz27 kq27 => ?_
    refine W_region [2] fun R hR => ?_
    simp only [go_sem, hb0, hc0, hb1, hmo, hb2, hl, hb3, hrz, hb4]
    refine GCall_of (awake_pc Y _) ?_
    simp only [go_sem, hb0, hc0, hb1, hmo, hb2, hl, hb3, hrz, hb4]
    refine hR _ _ (kq27 _ _ ?_); clear hR R; try clear kq27 kz27
    try simp only [go_sem, hb0, hc0, hb1, hmo, hb2, hl, hb3, hrz, hb4]
    refine W_ret ?_
    simp only [go_sem, hb0, hc0, hb1, hmo, hb2, hl, hb3, hrz, hb4]
    refine ⟨.inr (by trivial), ?_⟩
    first | refine Fin_same hcl rfl (Wk_eq ?_ (by simp only [go_sem])) | refine Fin_self hcl rfl (Wk_eq ?_ (by simp only [go_sem]))
    try simp only [go_sem]
    all_goals
     first | rfl | simp
 ·simp only [go_sem, hb0, hc0, hb1, hmo, hb2, hl, hb3, hrz, hb4, hVl, hRl, hrRl, iaX_map hRt rfl, elA_map hRt, hRt]
  refine GCall_of (whole_pc Y _ c l rn t hcl0 (by omega) hck hO.tt) ?_
  simp only [go_sem, hb0, hc0, hb1, hmo, hb2, hl, hb3, hrz, hb4, hVl, hRl, hrRl, iaX_map hRt rfl, elA_map hRt, hRt]
  refine GCall_of (PC.val (v' := .bool true) (EqResult_pc Y _ (resT t) (resT t) hsm) (by simp)) ?_
  simp only [go_sem, hb0, hc0, hb1, hmo, hb2, hl, hb3, hrz, hb4, hVl, hRl, hrRl, iaX_map hRt rfl, elA_map hRt, hRt]
  try refine And.intro (by repeat' (first | refine And.intro ?_ ?_ | exact trivial | exact GOr_right (fun _ => by simp only [go_sem, hb0, hc0, hb1, hmo, hb2, hl, hb3, hrz, hb4, hVl, hRl, hrRl, iaX_map hRt rfl, elA_map hRt, hRt]))) ?_
  refine hR _ ?_
  all_goals try simp only [go_sem, hb0, hc0, hb1, hmo, hb2, hl, hb3, hrz, hb4, hVl, hRl, hrRl, iaX_map hRt rfl, elA_map hRt, hRt]
  all_goals
   first | rfl | (simp [*]; done) | (simp_all; done)
end Go.Proofs.YtnolifglhhjdnaaGreat
