/-
  Walks: wings ahead, fronts, passing, clear, least starts (parade).
  Walks: starts, least starts, how long a parade lasts (parade).
  Walks: the least starts, fronts, gaps (parade).
  Walks: fronts, gaps, the peak (parade).
  Walks: the widest gap (parade).
  Walks: the widest gap of all wings (parade).
  Regions in which what is known may be weakened after some operations.
  Regions in which a variable of a slice's type is made: it is nil, and that is known.
  Walks: plans tried (parade).
  Walks: plans tried one behind another (parade).
  Walks: the plan (parade).
  Plans, plainly (parade): a plan that is found may be, and lasts as long as the rules say, for sure.
  Walks: errors asked for in turn, rules (night).
  Walks: the rules of a director (night).
  Walks: funds, bills, a ledger's check (coin).
  Walks: a ledger's check (coin).
  The data of the laws, read: scales, envelopes, nights, standings; rows of things.
  What the functions of marks compute, in plain Lean.
  Facts of this seat's types for maps and made slices.
-/
import Derived.Test.YtpkkegbiddcodaaGreatDoorPc
import Derived.CallsIn
import Derived.RangeFuncLeaves
import Derived.RangeFuncRecord
import Derived.OrdersIn
import Derived.Below
import Derived.Laws.World
import Derived.Laws.StructEq
import Derived.Laws.BytesString
import Derived.Laws.Append
import Derived.MapKept
import Derived.ProofKit
import Derived.Carry
import Derived.Handed
import Derived.ChangeCalls
import Derived.Stop.Joined
import Derived.Lib.LaidTab
import Derived.Shelf.Strconv.Itoa3
import Derived.RangeFuncIn
import Derived.RangeFuncNested
import Derived.Test.YtpkkegbiddcodaaGreatDoorProg
import Derived.KernelRfl
import Derived.IntWalk
import Derived.Sort.OwnSortedInts
import Derived.Lib.SlicesCompact
import Derived.Shelf.Strings.Builder1
import Derived.Shelf.Strings.SlTrimAscii
import Derived.Lib.SplitLaws
import Derived.Lib.AtoiAll
import Derived.Lib.ItoaNum
import Derived.Lib.IndexBytes
import Derived.Shelf.Strings.Split
import Derived.Shelf.Strconv.AtoiAll
import Derived.Lib.AtoiErrMem
import Derived.Lib.ItoaLen
import Derived.Tactics
import Derived.Tactics2
import Derived.StillTactics
import Derived.Laws.RangeString
import Derived.Laws.RangeAny
import Derived.LoopTactic
import Derived.Scope
import Derived.FnLit
import Derived.Shelf.Strings.Prefix
import Derived.Shelf.Strings.Count
import Derived.Shelf.Strings.Cut
import Derived.Test.YtpkkegbiddcodaaGreatDoorCards
import Derived.Test.YtpkkegbiddcodaaGreatDoorChecked
import Derived.JoinedOf
import Derived.Test.YtpkkegbiddcodaaGreatDoorTie
import Derived.LaidMore
import Derived.LaidSub
import Derived.Lay
import Derived.SevenTiedAt
import Derived.Lib.LaidU8
import Derived.Shelf.Vars
import Derived.OpenShut
set_option linter.unusedSimpArgs false
set_option linter.unusedVariables false
namespace Go.Proofs.YtpkkegbiddcodaaGreatDoor.Pa
open Go Go.RowKit
set_option maxRecDepth 100000
abbrev trCells (ws : List Wing) (st : List Int) (o : Own) (e : Int) : List PV := [wgs ws, intsO o st, I e]
abbrev trPV (ws : List Wing) (st : List Int) (o : Own) (e : Int) : PV := .agg (trCells ws st o e)
theorem aheadL_len (ws : List Wing) : ∀ (i : Nat) (far : Int), (aheadL ws i far).length = i + 1 := by
 intro i
 induction i with
 | zero => intro far; rfl
 | succ i ih => intro far; simp only [aheadL, List.length_cons, ih]
theorem aheadL_head {ws : List Wing} {m : Nat} {far : Int} {l : List (Nat × Int)} {k : Nat} (h : l.drop k = aheadL ws m far) : l[k]? = some (m, far) := by
 have h1 : (l.drop k)[0]? = l[k]? := by rw [List.getElem?_drop, Nat.add_zero]
 rw [← h1, h]
 cases m <;> rfl
theorem aheadL_tail {ws : List Wing} {m : Nat} {far : Int} {l : List (Nat × Int)} {k : Nat} (h : l.drop k = aheadL ws (m + 1) far) : l.drop (k + 1) = aheadL ws m (far + lenW ws m) := by
 have h1 : l.drop (k + 1) = (l.drop k).drop 1 := by rw [List.drop_drop]
 rw [h1, h]
 rfl
theorem lenW_at {ws : List Wing} {i : Nat} {w : Wing} (h : ws[i]? = some w) : lenW ws i = w.len := by unfold lenW; rw [h]
theorem stW_at {st : List Int} {i : Nat} {x : Int} (h : st[i]? = some x) : stW st i = x := by unfold stW; rw [h]; rfl
theorem pace_ix {ws : List Wing} {i : Nat} {w : Wing} {e : Int} (h : ws[i]? = some w) (he : e = 0 ∨ e = 1) : [I w.lo, I w.hi][e.toNat]? = some (I (paceW ws e i)) := by
 unfold paceW
 rw [h]
 rcases he with rfl | rfl <;> rfl
theorem take_snoc {α : Type} {l : List α} {k : Nat} {x : α} (h : l[k]? = some x) : l.take (k + 1) = l.take k ++ [x] := by
 rw [List.take_add_one, h]; rfl
theorem aheadL_0 {ws : List Wing} {wing m : Nat} (h : wing + 1 = m + 1) : (aheadL ws wing 0).drop (wing - m) = aheadL ws m 0 := by
 have : wing = m := by omega
 subst this
 simp
theorem Fin_more {P : Program} {fn : Func} {σ σ' : Sg} {E : Env} {rs : List PV} {v : PV} (hcl : CleanSg σ') (h1 : σ.store.length ≤ σ'.store.length) (h2 : σ.rooms.length ≤ σ'.rooms.length) (h3 : σ'.ys.length = σ.ys.length)
 (hr : resPV P σ' E fn.results.toList = some rs) (hv : Wk σ'.store.length σ'.rooms.length σ.ys.length (oneOr rs) v) : Fin P fn σ v σ' E σ' := by
 refine ⟨rs, _, _, hr, h1, h2, hv, ?_, ?_, h3⟩
 ·rw [← h3]; simp [Sg.cut]
 unfold CleanSg at hcl; rw [h3] at hcl; exact hcl
theorem mixed : Tryz.prog.follows .mixedOrders = true := by kernel_rfl
/-- The place before. -/
def iOf : Nat → Int
 | 0 => -1
 | m + 1 => m
theorem iOf_eq (n : Nat) : iOf n = n - 1 := by cases n <;> simp [iOf] <;> omega
/-- What is gathered up to a wing. -/
def accW (ws : List Wing) (wing : Nat) (f : Int → Nat × Int → Int) (a : Int) (n : Nat) : Int := ((aheadL ws wing 0).take (wing + 1 - n)).foldl f a
theorem accW_step {ws : List Wing} {wing n : Nat} {f : Int → Nat × Int → Int} {a far : Int} (hn : n ≤ wing) (h : (aheadL ws wing 0)[wing - n]? = some (n, far)) : accW ws wing f a n = f (accW ws wing f a (n + 1)) (n, far) := by
 unfold accW
 rw [show wing + 1 - n = (wing - n) + 1 by omega, take_snoc h, List.foldl_append, show wing + 1 - (n + 1) = wing - n by omega]
 rfl
theorem accW_start {ws : List Wing} {wing : Nat} {f : Int → Nat × Int → Int} {a : Int} : accW ws wing f a (wing + 1) = a := by
 unfold accW
 rw [Nat.sub_self]
 rfl
theorem accW_end {ws : List Wing} {wing : Nat} {f : Int → Nat × Int → Int} {a : Int} : accW ws wing f a 0 = (aheadL ws wing 0).foldl f a := by
 unfold accW
 rw [List.take_of_length_le (by rw [aheadL_len]; omega)]
theorem foldl_inv {α : Type} {f : Int → α → Int} {Q : Int → Prop} {l : List α} {a : Int} (ha : Q a) (h : ∀ m p, p ∈ l → Q m → Q (f m p)) : Q (l.foldl f a) := by
 induction l generalizing a with
 | nil => exact ha
 | cons x l ih =>
  rw [List.foldl_cons]
  exact ih (h a x (List.mem_cons_self ..) ha) fun m p hp hm => h m p (List.mem_cons_of_mem _ hp) hm
theorem accW_inv {ws : List Wing} {wing : Nat} {f : Int → Nat × Int → Int} {a : Int} {Q : Int → Prop} (ha : Q a) (h : ∀ m p, p ∈ aheadL ws wing 0 → Q m → Q (f m p)) (n : Nat) : Q (accW ws wing f a n) := by
 unfold accW
 exact foldl_inv ha fun m p hp hm => h m p (List.mem_of_mem_take hp) hm
/-- Starts that may be, up to a wing. -/
def StV (st : List Int) (wing : Nat) : Prop := wing < st.length ∧ ∀ i, i ≤ wing → 0 ≤ stW st i ∧ stW st i ≤ 20000
theorem passOne_bd {ws : List Wing} {st : List Int} {e place : Int} {wing : Nat} (h : ∀ w, w ∈ ws → WgV w) (hw : wing < 8) (hs : StV st wing) (hp : 0 ≤ place ∧ place ≤ 200000) :
 ∀ m p, p ∈ aheadL ws wing 0 → (0 ≤ m ∧ m ≤ 300000) → 0 ≤ passOne ws st e place m p ∧ passOne ws st e place m p ≤ 300000 := by
 intro m p hpm hm
 have h1 := aheadL_bd h wing 0 (Int.le_refl _) p hpm
 have h2 := paceW_bd h e p.1
 have h3 := hs.2 p.1 h1.1
 have h4 := tdiv_bd (a := place + p.2 + paceW ws e p.1 - 1) (b := paceW ws e p.1) (by omega) h2.1
 unfold passOne
 omega
set_option maxHeartbeats 2000000 in
theorem ahead_pc (Y : YEnv) (σ : Sg) (ws : List Wing) (st : List Int) (o : Own) (e : Int) (wing : Nat) :
 PC Tryz.prog Y 214 [trPV ws st o e, I wing] σ (.func (.func 262) [] [.ptr (σ.store.length + 1) 0, .ptr σ.store.length 0]) (σ.ext [some (trCells ws st o e), some [I wing]] []) := by
 refine PC_of_W Tryz.func214 rfl (by kernel_rfl) Tryz.ntmps214 (by simp) fun hcl hca => ?_
 have ho : OwnLt σ.rooms.length o := by
  have h := hca (trPV ws st o e) (by simp)
  simp only [go_sem] at h
  first | exact h | exact h.1 | exact h.2.1
 refine W_sr [2, 3] fun R hR => ?_
 simp only [go_sem]
 refine hR _ _ ?_; clear hR R
 try simp only [go_sem]
 refine W_sr [4] fun R hR => ?_
 simp only [go_sem]
 refine hR _ _ ?_; clear hR R
 try simp only [go_sem]
 refine W_ret ?_
 simp only [go_sem]
 refine ⟨.inr (by trivial), ?_⟩
 refine Fin_ext (l := [_, _]) (rm := []) 2 0 hcl rfl (Wk_eq rfl ?_) ?_
 ·simp only [go_sem] <;> omega
 ·show CleanLs _ _ _ _
  simp only [go_sem]
  first | exact ho | exact ⟨ho, trivial⟩ | (simp [ho]; done)
 try simp only [go_sem]
 all_goals
  skip
set_option maxHeartbeats 2000000 in
theorem ahead1_pc (Y : YEnv) (σ : Sg) (y i1 i2 wing : Nat) (ws : List Wing) (st : List Int) (o : Own) (e : Int) (h8 : wing < 8) (hws : ∀ w, w ∈ ws → WgV w) (hwl : wing < ws.length) (τ : Nat → Sg)
 (hst : ∀ k, k ≤ wing + 1 → (τ k).store[i1]? = some (some [I wing])) (hst2 : ∀ k, k ≤ wing + 1 → (τ k).store[i2]? = some (some (trCells ws st o e)))
 (hY : ∀ n far, n ≤ wing → (aheadL ws wing 0)[wing - n]? = some (n, far) → Y y [I n, I far] (τ (n + 1)) true (τ n))
 (hlen : (τ (wing + 1)).store.length ≤ (τ 0).store.length) (hr : (τ (wing + 1)).rooms.length ≤ (τ 0).rooms.length) (hy : (τ 0).ys.length = (τ (wing + 1)).ys.length) (hcl' : CleanSg (τ (wing + 1)) → CleanSg (τ 0)) :
 PC Tryz.prog Y 262 [.yield y, .ptr i1 0, .ptr i2 0] (τ (wing + 1)) (.tuple []) (τ 0) := by
 refine PC_of_W Tryz.func262 rfl (by kernel_rfl) Tryz.ntmps262 (by simp) fun hcl hca => ?_
 have hs00 := hst (wing + 1) (Nat.le_refl _)
 refine W_sr [0, 1, 2, 4] fun R hR => ?_
 simp only [go_sem]
 refine hR _ _ ?_; clear hR R
 try simp only [go_sem]
 refine W_sr [0, 2, 4, 5] fun R hR => ?_
 simp only [go_sem, ldS_at hs00]
 refine hR _ _ ?_; clear hR R
 try simp only [go_sem]
 refine W_block ?_
 refine W_loopT (α := Nat × Int) (fun ⟨n, far⟩ => [(4, I far), (5, I (iOf n))]) (fun ⟨n, far⟩ => τ n) (fun ⟨n, far⟩ => n ≤ wing + 1 ∧ 0 ≤ far ∧ far ≤ 5000 * ((wing : Int) + 1 - n) ∧ (∀ m, n = m + 1 → (aheadL ws wing 0).drop (wing - m) = aheadL ws m far)) (fun ⟨n, far⟩ => n) ((wing + 1, 0)) rfl (by first | rfl | (simp only [go_sem]; done) | (simp only [go_sem]; rfl)) (⟨Nat.le_refl _, Int.le_refl _, by omega, fun m hm => aheadL_0 hm⟩) ?_
 rintro ⟨n, far⟩ ⟨hn, hf1, hf2, hdr⟩
 refine W_seq fun Z3 K3 => ?_
 refine W_sr [0, 2, 4, 5, 8] fun R hR => ?_
 simp only [go_sem]
 refine hR _ _ ?_; clear hR R
 try simp only [go_sem]
 refine W_cond rfl (fun c1 => ?_) (fun c1 => ?_)
 ·
  try simp only [nrm] at c1
  obtain ⟨m, rfl⟩ : ∃ m, n = m + 1 := ⟨n - 1, by rw [iOf_eq] at c1; omega⟩
  have hm1 : iOf (m + 1) = m := rfl
  simp only [hm1]
  have hd := hdr m rfl
  have hp := aheadL_head hd
  have hs2 := hst2 m (by omega)
  refine W_skip (K3 _ _ ?_)
  refine W_seq fun Z5 K5 => ?_
  refine W_block ?_
  refine W_seq fun Z6 K6 => ?_
  refine W_sr [0, 2, 4, 5, 15] fun R hR => ?_
  simp only [go_sem, hm1]
  refine GYield_of (hY m far (by omega) hp) ?_
  simp only [go_sem, hm1]
  refine hR _ _ ?_; clear hR R
  try simp only [go_sem, hm1]
  refine W_cond_false rfl ?_
  refine W_skip (K6 _ _ ?_)
  refine W_sr [0, 2, 4, 5, 17] fun R hR => ?_
  simp only [go_sem, hm1]
  refine hR _ _ ?_; clear hR R
  try simp only [go_sem, hm1]
  refine W_cond rfl (fun c2 => ?_) (fun c2 => ?_)
  ·
   try simp only [nrm] at c2
   obtain ⟨j, rfl⟩ : ∃ j, m = j + 1 := ⟨m - 1, by omega⟩
   have hjw : IntKind.i64.wrap (j : Int) = j := wrapI (by omega) (by omega)
   have hj : (((j + 1 : Nat) : Int) - 1) = j := by omega
   obtain ⟨u, hwj⟩ : ∃ u, ws[j]? = some u := ⟨ws[j]'(by omega), by simp⟩
   have hlj := lenW_at hwj
   have hub := (hws u (List.mem_of_getElem? hwj)).ln
   rw [← hlj] at hub
   refine W_region [0, 2, 4, 5] fun R hR => ?_
   simp only [go_sem, hm1, hj, ldS_at hs2, hj, hjw, hwj]
   try simp (disch := (first | omega | (simp only [go_sem, List.length_append] <;> omega))) only [wrapI, wrapU, strAdd, slT, slTa, slTb]
   refine hR _ _ (K5 _ _ ?_); clear hR R; try clear K5 Z5
   try simp only [go_sem, hm1, hj]
   refine W_region [0, 2, 4, 5] fun R hR => ?_
   simp only [go_sem, hm1, hj]
   try simp (disch := (first | omega | (simp only [go_sem, List.length_append] <;> omega))) only [wrapI, wrapU, strAdd, slT, slTa, slTb]
   refine hR _ _ ?_; clear hR R
   try simp only [go_sem, hm1, hj]
   refine ⟨(j + 1, far + lenW ws j), ?_, by (try simp only []); omega, ?_⟩
   ·first | exact Weak.eq rfl rfl | (simp only [iOf_eq]; exact Weak.eq rfl rfl) | (simp only [iOf_eq, hlj, hj]; exact Weak.eq rfl rfl)
   try dsimp only
   refine ⟨by omega, by omega, by omega, fun q hq => ?_⟩
   obtain rfl : q = j := by omega
   have := aheadL_tail hd
   rw [show wing - q = wing - (q + 1) + 1 by omega]
   exact this
  try simp only [nrm] at c2
  refine W_skip (K5 _ _ ?_)
  refine W_region [0, 2, 4, 5] fun R hR => ?_
  simp only [go_sem, hm1]
  try simp (disch := (first | omega | (simp only [go_sem, List.length_append] <;> omega))) only [wrapI, wrapU, strAdd, slT, slTa, slTb]
  refine hR _ _ ?_; clear hR R
  try simp only [go_sem, hm1]
  refine ⟨(m, far), ?_, by (try simp only []); omega, ?_⟩
  ·first | exact Weak.eq rfl rfl | (simp only [iOf_eq]; exact Weak.eq rfl rfl) | (simp only [iOf_eq, hlj, hj]; exact Weak.eq rfl rfl)
  try dsimp only
  refine ⟨by omega, hf1, by omega, fun q hq => ?_⟩
  exfalso
  omega
 try simp only [nrm] at c1
 have hke : n = 0 := by rw [iOf_eq] at c1; omega
 subst hke
 refine W_exit ?_
 simp only [go_sem]
 try simp only [go_sem]
 refine ⟨.inl (by trivial), ?_⟩
 exact Fin_more (rs := []) (hcl' hcl) hlen hr hy rfl (Wk.of_clean (.tuple _ Clean.all_nil))
 try simp only [go_sem]
 all_goals
  skip
set_option maxHeartbeats 8000000 in
theorem passes_pc (Y : YEnv) (σ : Sg) (ws : List Wing) (st : List Int) (o : Own) (e : Int) (wing : Nat) (h8 : wing < 8) (hws : ∀ w, w ∈ ws → WgV w) (hwl : wing < ws.length) (hs : StV st wing) (he : e = 0 ∨ e = 1) (place : Int) (hpl : 0 ≤ place ∧ place ≤ 200000) :
 PC Tryz.prog Y 159 [trPV ws st o e, I wing, I place] σ (I (passW ws st e wing place)) (σ) := by
 refine PC_of_W Tryz.func159 rfl (by kernel_rfl) Tryz.ntmps159 (by simp) fun hcl hca => ?_
 have ho : OwnLt σ.rooms.length o := by
  have h := hca (trPV ws st o e) (by simp)
  simp only [go_sem] at h
  first | exact h | exact h.1 | exact h.2.1
 obtain ⟨s0, hs0⟩ : ∃ z, st[wing]? = some z := ⟨st[wing]'hs.1, by simp⟩
 have hw0 := stW_at hs0
 have hs0b := hs.2 wing (Nat.le_refl _)
 have hacB := accW_inv (ws := ws) (wing := wing) (f := passOne ws st e place) (a := stW st wing) (Q := fun m => 0 ≤ m ∧ m ≤ 300000) (by omega) (passOne_bd hws h8 hs hpl)
 simp only [← hw0] at hs0
 refine W_sr [1, 3, 5] fun R hR => ?_
 simp only [go_sem]
 refine hR _ _ ?_; clear hR R
 try simp only [go_sem]
 refine W_sr [1, 3, 5, 7] fun R hR => ?_
 simp only [go_sem, hs0]
 refine hR _ _ ?_; clear hR R
 try simp only [go_sem]
 refine W_seq fun Z3 K3 => ?_
 refine W_sr [3, 5, 7, 18] fun R hR => ?_
 simp only [go_sem]
 refine GCall_of (ahead_pc Y _ ws st o e wing) ?_
 simp only [go_sem]
 refine hR _ _ ?_; clear hR R
 try simp only [go_sem]
 refine W_block ?_
 let L : Int → List (Option (List PV)) := fun p => [some (trCells ws st o e), some [I place], some [I p], some (trCells ws st o e), some [I wing]]
 let so : Nat → Sg := fun n => σ.ext (L (accW ws wing (passOne ws st e place) (stW st wing) n)) [] [.ready]
 refine W_rangeFunc (gf := 262) (v := .tuple []) (s := .ready) (σ5 := so 0) rfl (by simp) (fun args τ b' τ' => ∃ n far, n ≤ wing ∧ (aheadL ws wing 0)[wing - n]? = some (n, far) ∧ args = [I n, I far] ∧ b' = true ∧ τ = so (n + 1) ∧ τ' = so n) ?_ ?_ ?_ ?_ ?_
 ·rintro args τ b τ' ⟨n, far, hn, hp, rfl, rfl, rfl, rfl⟩
  refine ⟨rfl, ?_, ?_⟩
  ·simp only [so, go_sem]
  simp only [so, L, go_sem]
  refine W_sr [3, 5, 7, 8, 20] fun R hR => ?_
  simp only [go_sem, putAll]
  refine hR _ _ ?_; clear hR R
  try simp only [go_sem, putAll]
  refine W_region [3, 5, 7, 8, 9] fun R hR => ?_
  simp only [go_sem, putAll]
  refine hR _ _ ?_; clear hR R
  try simp only [go_sem, putAll]
  obtain ⟨w, hw⟩ : ∃ z, ws[n]? = some z := ⟨ws[n]'(by omega), by simp⟩
  obtain ⟨x, hx⟩ : ∃ z, st[n]? = some z := ⟨st[n]'(by have := hs.1; omega), by simp⟩
  have hsx := stW_at hx
  have hxb := hs.2 n hn
  rw [hsx] at hxb
  have hpb := paceW_bd hws e n
  have hfb := aheadL_bd hws wing 0 (Int.le_refl _) _ (List.mem_of_getElem? hp)
  have hpx := pace_ix hw he
  have he2 : (0 ≤ e ∧ e < 2) = True := eq_true (by omega)
  have hac := accW_step (f := passOne ws st e place) (a := (stW st wing)) hn hp
  have hab := hacB (n + 1)
  obtain ⟨m, hm⟩ : ∃ z, accW ws wing (passOne ws st e place) (stW st wing) (n + 1) = z := ⟨_, rfl⟩
  rw [hm] at hac hab
  simp only [hm]
  obtain ⟨pc, hpc⟩ : ∃ z, paceW ws e n = z := ⟨_, rfl⟩
  rw [hpc] at hpb hpx
  simp only at hfb
  have hz : ¬ pc = 0 := by omega
  have htb := tdiv_bd (a := place + far + pc - 1) (b := pc) (by omega) hpb.1
  obtain ⟨q, hq⟩ : ∃ z, (place + far + pc - 1).tdiv pc = z := ⟨_, rfl⟩
  rw [hq] at htb
  refine W_post_weak ?_
  refine W_block ?_
  refine W_seq fun Z6 K6 => ?_
  refine W_draw [3, 5, 7, 8, 9, 10] [0, 1, 2, 3, 4, 5, 6, 7, 8, 9] [(6, 5), (7, 5)] [[], [0], [], [0, 1, 2], [0, 1, 2, 3], [0, 1, 2, 3, 4], [], [6], [0, 1, 2, 3, 4, 5, 6, 7], [0, 1, 2, 3, 4, 5, 6, 7, 8]] mixed (by kernel_rfl) fun R hR => ?_
  simp only [go_sem, putAll, hw, hpx, he2]
  refine GCall_of (paces_pc Y _ w) ?_
  simp only [go_sem, putAll, hw, hpx, he2]
  try refine And.intro (by repeat' (first | refine And.intro ?_ ?_ | exact trivial | exact GOr_right (fun _ => by simp only [go_sem, putAll, hw, hpx, he2]))) ?_
  refine hR _ _ (K6 _ _ ?_); clear hR R; try clear K6 Z6
  try simp only [go_sem, putAll]
  refine W_draw [] [0, 1, 2, 3, 4, 5, 6, 7, 8, 9, 10, 11, 12, 13, 14, 15, 16] [] [[], [], [1], [], [1, 2, 3], [1, 2, 3, 4], [], [], [6, 7], [], [6, 7, 8, 9], [6, 7, 8, 9, 10], [], [6, 7, 8, 9, 10, 11, 12], [1, 2, 3, 4, 5, 6, 7, 8, 9, 10, 11, 12, 13], [0, 1, 2, 3, 4, 5, 6, 7, 8, 9, 10, 11, 12, 13, 14], [0, 1, 2, 3, 4, 5, 6, 7, 8, 9, 10, 11, 12, 13, 14, 15]] mixed (by kernel_rfl) fun R hR => ?_
  simp only [go_sem, putAll, hx, hq, hz]
  try simp (disch := (first | omega | (simp only [go_sem, List.length_append] <;> omega))) only [wrapI, wrapU, strAdd, slT, slTa, slTb]
  try refine And.intro (by repeat' (first | refine And.intro ?_ ?_ | exact trivial | exact GOr_right (fun _ => by simp only [go_sem, putAll, hx, hq, hz]))) ?_
  refine hR _ _ ?_; clear hR R
  try simp only [go_sem, putAll]
  refine ⟨[], _, Weak.keep [], ?_⟩
  simp only [RoundEnd, so, L, hac, passOne, hpc, hsx, hq, go_sem]
 ·have hst := ahead1_pc (Y.at σ.ys.length (fun args τ b' τ' => ∃ n far, n ≤ wing ∧ (aheadL ws wing 0)[wing - n]? = some (n, far) ∧ args = [I n, I far] ∧ b' = true ∧ τ = so (n + 1) ∧ τ' = so n)) σ σ.ys.length (σ.store.length + 4) (σ.store.length + 3) wing ws st o e h8 hws hwl so
   (fun k _ => by simp only [so, L]; exact Sg.get_ext ..) (fun k _ => by simp only [so, L]; exact Sg.get_ext ..)
   (fun n far h1 h2 => by rw [YEnv.at_self]; exact ⟨n, far, h1, h2, rfl, rfl, rfl, rfl⟩)
   (by simp only [so, L, go_sem] <;> omega) (by simp only [so, L, go_sem] <;> omega) (by simp only [so, L, go_sem])
   (fun _ => CleanSg_ext hcl (by show CleanLs _ _ _ _; simp only [L, go_sem]; simp [ho]))
  simp only [so, L, accW_start, go_sem] at hst ⊢
  exact hst
 ·simp only [so, L, go_sem]
 ·simp only [go_sem]
  exact CleanCut_ext hcl (by simp only [so, L, go_sem] <;> omega) (by simp only [so, L, go_sem, Nat.le_add_right]) (by omega) (by show CleanLs _ _ _ _; simp only [so, L, go_sem]; simp [ho])
 simp only [AfterLoop, so, L, go_sem]
 simp only [accW_end]
 refine K3 _ _ ?_
 refine W_sr [6] fun R hR => ?_
 simp only [go_sem]
 refine hR _ _ ?_; clear hR R
 try simp only [go_sem]
 refine W_ret ?_
 simp only [go_sem]
 refine ⟨.inr (by trivial), ?_⟩
 first | refine Fsa hcl rfl ?_ | refine Fse hcl rfl ?_
 try simp only [go_sem]
 all_goals
  simp only [passW]
set_option maxHeartbeats 2000000 in
theorem clear_pc (Y : YEnv) (σ : Sg) (ws : List Wing) (st : List Int) (o : Own) (e : Int) (wing : Nat) (h8 : wing < 8) (hws : ∀ w, w ∈ ws → WgV w) (hwl : wing < ws.length) (hs : StV st wing) (he : e = 0 ∨ e = 1) (place : Int) (hpl : 0 ≤ place ∧ place ≤ 100000) :
 PC Tryz.prog Y 99 [trPV ws st o e, I wing, I place] σ (I (clearW ws st e wing place)) (σ) := by
 refine PC_of_W Tryz.func99 rfl (by kernel_rfl) Tryz.ntmps99 (by simp) fun hcl hca => ?_
 obtain ⟨u, hu⟩ : ∃ z, ws[wing]? = some z := ⟨ws[wing], by simp [hwl]⟩
 have hlu := lenW_at hu
 have hlb := lenW_bd hws wing
 refine W_sr [1, 2, 3] fun R hR => ?_
 simp only [go_sem]
 refine hR _ _ ?_; clear hR R
 try simp only [go_sem]
 refine W_seq fun Z2 K2 => ?_
 refine W_draw [6] [0, 1, 2, 3, 4, 5, 6, 7, 8, 9, 10, 11] [] [[], [], [], [], [3], [], [3, 4, 5], [3, 4, 5, 6], [3, 4, 5, 6, 7], [2, 3, 4, 5, 6, 7, 8], [0, 1, 2, 3, 4, 5, 6, 7, 8, 9], [0, 1, 2, 3, 4, 5, 6, 7, 8, 9, 10]] mixed (by kernel_rfl) fun R hR => ?_
 simp only [go_sem, hu, ← hlu]
 try simp (disch := (first | omega | (simp only [go_sem, List.length_append] <;> omega))) only [wrapI, wrapU, strAdd, slT, slTa, slTb]
 refine GCall_of (passes_pc Y _ ws st o e wing h8 hws hwl hs he (place + lenW ws wing) (by omega)) ?_
 simp only [go_sem, hu, ← hlu]
 try simp (disch := (first | omega | (simp only [go_sem, List.length_append] <;> omega))) only [wrapI, wrapU, strAdd, slT, slTa, slTb]
 try refine And.intro (by repeat' (first | refine And.intro ?_ ?_ | exact trivial | exact GOr_right (fun _ => by simp only [go_sem, hu, ← hlu]))) ?_
 refine hR _ _ (K2 _ _ ?_); clear hR R; try clear K2 Z2
 try simp only [go_sem]
 refine W_ret ?_
 simp only [go_sem]
 refine ⟨.inr (by trivial), ?_⟩
 first | refine Fsa hcl rfl ?_ | refine Fse hcl rfl ?_
 try simp only [go_sem]
 all_goals
  simp only [clearW]
set_option maxHeartbeats 2000000 in
theorem least_pc (Y : YEnv) (σ : Sg) (s : School) (st : List Int) (o : Own) (wing : Nat) (hV : ShV s) (hw : wing ≤ s.wings.length) (hs : ∀ k, wing = k + 1 → StV st k) :
 PC Tryz.prog Y 47 [shPV s, intsO o st, I wing] σ (I (leastW s.wings st wing)) (σ) := by
 refine PC_of_W Tryz.func47 rfl (by kernel_rfl) Tryz.ntmps47 (by simp) fun hcl hca => ?_
 refine W_sr [1, 2, 3] fun R hR => ?_
 simp only [go_sem]
 refine hR _ _ ?_; clear hR R
 try simp only [go_sem]
 refine W_seq fun Z2 K2 => ?_
 refine W_sr [1, 2, 3, 8] fun R hR => ?_
 simp only [go_sem]
 refine hR _ _ ?_; clear hR R
 try simp only [go_sem]
 refine W_cond rfl (fun c1 => ?_) (fun c1 => ?_)
 ·
  try simp only [nrm] at c1
  refine W_sr [6] fun R hR => ?_
  simp only [go_sem]
  refine hR _ _ ?_; clear hR R
  try simp only [go_sem]
  refine W_ret ?_
  simp only [go_sem]
  refine ⟨.inr (by trivial), ?_⟩
  first | refine Fsa hcl rfl ?_ | refine Fse hcl rfl ?_
  try simp only [go_sem]
  all_goals
   have h0 : wing = 0 := by omega
   subst h0
   rfl
 try simp only [nrm] at c1
 obtain ⟨k, rfl⟩ : ∃ k, wing = k + 1 := ⟨wing - 1, by omega⟩
 have h8 := hV.wl
 have hjw : IntKind.i64.wrap (k : Int) = k := wrapI (by omega) (by omega)
 have hj : (((k + 1 : Nat) : Int) - 1) = k := by omega
 refine W_skip (K2 _ _ ?_)
 refine W_sr [6] fun R hR => ?_
 simp only [go_sem, hj, hjw]
 refine GCall_of (truthOf_pc Y _ s st o 0) ?_
 simp only [go_sem, hj, hjw]
 try simp (disch := (first | omega | (simp only [go_sem, List.length_append] <;> omega))) only [wrapI, wrapU, strAdd, slT, slTa, slTb]
 refine GCall_of (clear_pc Y _ s.wings st o 0 k (by omega) hV.wv (by omega) (hs k rfl) (.inl rfl) 0 (by omega)) ?_
 simp only [go_sem, hj, hjw]
 try simp (disch := (first | omega | (simp only [go_sem, List.length_append] <;> omega))) only [wrapI, wrapU, strAdd, slT, slTa, slTb]
 refine hR _ _ ?_; clear hR R
 try simp only [go_sem, hj, hjw]
 refine W_ret ?_
 simp only [go_sem, hj, hjw]
 refine ⟨.inr (by trivial), ?_⟩
 first | refine Fsa hcl rfl ?_ | refine Fse hcl rfl ?_
 try simp only [go_sem]
 all_goals
  first | rfl | simp only [leastW]
theorem stW_ge {ws : List Wing} {st : List Int} {k : Nat} (h : 0 ≤ stW st k) : 0 ≤ leastW ws st (k + 1) := by
 have := passW_ge (ws := ws) (st := st) (e := 0) k (0 + lenW ws k)
 simp only [leastW, clearW]
 omega
theorem least_ge {ws : List Wing} {st : List Int} {i : Nat} (h : ∀ k, k < i → 0 ≤ stW st k) : 0 ≤ leastW ws st i := by
 cases i with
 | zero => exact Int.le_refl _
 | succ k => exact stW_ge (h k (by omega))
theorem stW_snoc {st : List Int} {n : Int} {j : Nat} : stW (st ++ [n]) j = if j < st.length then stW st j else if j = st.length then n else 0 := by
 unfold stW
 split
 ·rename_i h; rw [List.getElem?_append_left h]
 split
 ·rename_i h h2; subst h2; simp
 rename_i h h2; rw [List.getElem?_eq_none (by simp; omega)]; rfl
/-- Starts that were checked. -/
theorem chkSt_ok {s : School} {st : List Int} (h : chkSt s st = 0) : ShV s ∧ st.length = s.wings.length ∧ ∀ i, 0 ≤ stW st i ∧ stW st i ≤ 20000 := by
 unfold chkSt at h
 split at h
 ·rename_i h1; omega
 rename_i h1
 split at h
 ·omega
 rename_i h2
 refine ⟨shV_of (by omega), by omega, ?_⟩
 have key : ∀ (r p : List Int) (k : Nat), chkStF s.wings st k r = 0 → ∀ x, x ∈ r → 0 ≤ x ∧ x ≤ 20000 := by
  intro r
  induction r with
  | nil => intro p k _ x hx; cases hx
  | cons y r ih =>
   intro p k hk x hx
   simp only [chkStF] at hk
   split at hk
   ·omega
   rename_i q1
   split at hk
   ·omega
   rcases List.mem_cons.1 hx with rfl | hx
   ·simp only [Bool.not_eq_true', Bool.not_eq_false, inR_true] at q1; exact q1
   exact ih p _ hk x hx
 intro i
 unfold stW
 cases hi : st[i]? with
 | none => simp
 | some x => simpa using key st [] 0 h x (List.mem_of_getElem? hi)
theorem clear_bd {s : School} {st : List Int} (hV : ShV s) (hs : StV st (s.wings.length - 1)) (e : Int) : 0 ≤ clearW s.wings st e (s.wings.length - 1) s.route ∧ clearW s.wings st e (s.wings.length - 1) s.route ≤ 300000 := by
 have h8 := hV.wl
 have hrt := hV.rt
 have hlb := lenW_bd hV.wv (s.wings.length - 1)
 have h := accW_inv (ws := s.wings) (wing := s.wings.length - 1) (f := passOne s.wings st e (s.route + lenW s.wings (s.wings.length - 1))) (a := stW st (s.wings.length - 1)) (Q := fun m => 0 ≤ m ∧ m ≤ 300000) (by have := hs.2 _ (Nat.le_refl _); omega) (passOne_bd hV.wv (by omega) hs (by omega)) 0
 rw [accW_end] at h
 exact h
theorem lasts_bd {s : School} {st : List Int} (hV : ShV s) (hs : StV st (s.wings.length - 1)) (e : Int) : -2 ^ 40 ≤ clearW s.wings st e (s.wings.length - 1) s.route - stW st 0 ∧ clearW s.wings st e (s.wings.length - 1) s.route - stW st 0 ≤ 2 ^ 40 := by
 have h1 := clear_bd hV hs e
 have h2 := hs.2 0 (Nat.zero_le _)
 omega
theorem StV_of {st : List Int} {k : Nat} (hk : k < st.length) (h : ∀ i, i ≤ k → 0 ≤ stW st i ∧ stW st i ≤ 20000) : StV st k := ⟨hk, h⟩
set_option maxHeartbeats 4000000 in
theorem CheckStarts_pc (Y : YEnv) (σ : Sg) (s : School) (st : List Int) (o : Own) (hn : ∀ v, v ∈ s.wings → v.name.length ≤ 2 ^ 62) (hl : s.wings.length < 2 ^ 40) :
 PC Tryz.prog Y 104 [shPV s, intsO o st] σ (I (chkSt s st)) (σ) := by
 refine PC_of_W Tryz.func104 rfl (by kernel_rfl) Tryz.ntmps104 (by simp) fun hcl hca => ?_
 have ho : OwnLt σ.rooms.length o := by
  have h := hca (intsO o st) (by simp)
  cases h
  assumption
 obtain ⟨res, hres⟩ : ∃ r, chkSt s st = r := ⟨_, rfl⟩
 rw [hres]
 refine W_sr [1, 2] fun R hR => ?_
 simp only [go_sem, eq_true ho]
 refine hR _ _ ?_; clear hR R
 try simp only [go_sem, eq_true ho]
 refine W_seq fun Z2 K2 => ?_
 refine W_sr [1, 2, 5] fun R hR => ?_
 simp only [go_sem, eq_true ho]
 refine GCall_of (Check_pc Y _ s hn hl) ?_
 simp only [go_sem, eq_true ho]
 refine hR _ _ ?_; clear hR R
 try simp only [go_sem, eq_true ho]
 refine W_sr [1, 2, 5, 11] fun R hR => ?_
 simp only [go_sem, eq_true ho]
 refine hR _ _ ?_; clear hR R
 try simp only [go_sem, eq_true ho]
 refine W_cond rfl (fun c1 => ?_) (fun c1 => ?_)
 ·
  try simp only [nrm] at c1
  refine W_sr [4] fun R hR => ?_
  simp only [go_sem, eq_true ho]
  refine hR _ _ ?_; clear hR R
  try simp only [go_sem, eq_true ho]
  refine W_ret ?_
  simp only [go_sem, eq_true ho]
  refine ⟨.inr (by trivial), ?_⟩
  first | refine Fsa hcl rfl ?_ | refine Fse hcl rfl ?_
  try simp only [go_sem]
  all_goals
   congr 1; rw [← hres]; unfold chkSt; rw [if_pos (by omega)]
 try simp only [nrm] at c1
 have hV := shV_of (s := s) (by omega)
 have h8 := hV.wl
 refine W_skip (K2 _ _ ?_)
 refine W_seq fun Z6 K6 => ?_
 refine W_sr [1, 2, 18] fun R hR => ?_
 simp only [go_sem, eq_true ho]
 refine hR _ _ ?_; clear hR R
 try simp only [go_sem, eq_true ho]
 refine W_cond rfl (fun c2 => ?_) (fun c2 => ?_)
 ·
  try simp only [nrm] at c2
  refine W_sr [4] fun R hR => ?_
  simp only [go_sem, eq_true ho]
  refine hR _ _ ?_; clear hR R
  try simp only [go_sem, eq_true ho]
  refine W_ret ?_
  simp only [go_sem, eq_true ho]
  refine ⟨.inr (by trivial), ?_⟩
  first | refine Fsa hcl rfl ?_ | refine Fse hcl rfl ?_
  try simp only [go_sem]
  all_goals
   congr 1; rw [← hres]; unfold chkSt; rw [if_neg (by omega), if_pos (by omega)]
 try simp only [nrm] at c2
 refine W_skip (K6 _ _ ?_)
 refine W_seq fun Z9 K9 => ?_
 refine W_sr [1, 2, 19, 20, 21] fun R hR => ?_
 simp only [go_sem, eq_true ho]
 refine hR _ _ ?_; clear hR R
 try simp only [go_sem, eq_true ho]
 refine W_block ?_
 refine W_loopS (α := Nat) (fun (i : Nat) => [(21, I i)]) (fun (i : Nat) => i ≤ st.length ∧ res = chkStF s.wings st i (st.drop i) ∧ ∀ j, j < i → 0 ≤ stW st j ∧ stW st j ≤ 20000) (fun (i : Nat) => st.length - i) (0) rfl (⟨Nat.zero_le _, by rw [← hres, List.drop_zero]; unfold chkSt; (repeat' split) <;> first | rfl | omega, fun j hj => by omega⟩) ?_
 rintro i ⟨hi, hinv, hbs⟩
 refine W_sr [1, 2, 19, 20, 21, 22] fun R hR => ?_
 simp only [go_sem, eq_true ho]
 refine hR _ _ ?_; clear hR R
 try simp only [go_sem, eq_true ho]
 refine W_seq fun Z12 K12 => ?_
 refine W_cond rfl (fun c3 => ?_) (fun c3 => ?_)
 ·
  try simp only [nrm] at c3
  have hi' : i < st.length := by first | assumption | omega
  obtain ⟨x, hx⟩ : ∃ x, st[i]? = some x := ⟨st[i], by simp [hi']⟩
  have hdrop : st.drop i = x :: st.drop (i + 1) := by
   rw [List.drop_eq_getElem_cons hi']; congr 1; exact (List.getElem?_eq_some_iff.1 hx).2
  rw [hdrop] at hinv
  simp only [chkStF] at hinv
  have hsx := stW_at hx
  refine W_skip (K12 _ _ ?_)
  refine W_seq fun Z13 K13 => ?_
  refine W_block ?_
  refine W_sr [1, 2, 6, 7, 19, 20, 21] fun R hR => ?_
  simp only [go_sem, eq_true ho, hx]
  refine hR _ _ ?_; clear hR R
  try simp only [go_sem, eq_true ho, hx]
  refine W_block ?_
  refine W_sr [1, 2, 6, 7, 19, 20, 21, 26] fun R hR => ?_
  simp only [go_sem, eq_true ho, hx]
  refine GCall_of (in_pc Y _ x 0 20000) ?_
  simp only [go_sem, eq_true ho, hx]
  refine hR _ _ ?_; clear hR R
  try simp only [go_sem, eq_true ho, hx]
  refine W_cond rfl (fun c4 => ?_) (fun c4 => ?_)
  ·
   try simp only [nrm] at c4
   refine W_sr [4] fun R hR => ?_
   simp only [go_sem, eq_true ho, hx]
   refine hR _ _ ?_; clear hR R
   try simp only [go_sem, eq_true ho, hx]
   refine W_ret ?_
   simp only [go_sem, eq_true ho, hx]
   refine ⟨.inr (by trivial), ?_⟩
   first | refine Fsa hcl rfl ?_ | refine Fse hcl rfl ?_
   try simp only [go_sem]
   all_goals
    congr 1; rw [hinv, if_pos (by simp [c4])]
  try simp only [nrm] at c4
  refine W_sr [1, 2, 19, 20, 21, 30] fun R hR => ?_
  simp only [go_sem, eq_true ho, hx]
  refine GCall_of (least_pc Y _ s st o i hV (by omega) (fun k hk => ⟨by omega, fun j hj => hbs j (by omega)⟩)) ?_
  simp only [go_sem, eq_true ho, hx]
  refine hR _ _ ?_; clear hR R
  try simp only [go_sem, eq_true ho, hx]
  refine W_cond rfl (fun c5 => ?_) (fun c5 => ?_)
  ·
   try simp only [nrm] at c5
   refine W_sr [4] fun R hR => ?_
   simp only [go_sem, eq_true ho, hx]
   refine hR _ _ ?_; clear hR R
   try simp only [go_sem, eq_true ho, hx]
   refine W_ret ?_
   simp only [go_sem, eq_true ho, hx]
   refine ⟨.inr (by trivial), ?_⟩
   first | refine Fsa hcl rfl ?_ | refine Fse hcl rfl ?_
   try simp only [go_sem]
   all_goals
    congr 1; rw [hinv, if_neg (by simp [c4]), if_pos (by omega)]
  try simp only [nrm] at c5
  refine W_skip (K13 _ _ ?_)
  refine W_region [1, 2, 19, 20, 21] fun R hR => ?_
  simp only [go_sem, eq_true ho, hx]
  try simp (disch := (first | omega | (simp only [go_sem, List.length_append] <;> omega))) only [wrapI, wrapU, strAdd, slT, slTa, slTb]
  refine hR _ _ ?_; clear hR R
  try simp only [go_sem, eq_true ho, hx]
  refine ⟨i + 1, ?_, by (try simp only []); omega, ?_⟩
  ·first | exact Weak.refl | exact Wqq
  try dsimp only
  refine ⟨hi', by rw [hinv, if_neg (by simp [c4]), if_neg (by omega)], fun j hj => ?_⟩
  by_cases hji : j = i
  ·subst hji; rw [hsx]; exact inR_true.1 c4
  exact hbs j (by omega)
 try simp only [nrm] at c3
 have hdrop : st.drop i = [] := List.drop_eq_nil_of_le (by omega)
 rw [hdrop] at hinv
 simp only [chkStF] at hinv
 refine W_exit ?_
 simp only [go_sem, eq_true ho]
 refine K9 _ _ ?_
 refine W_sr [4] fun R hR => ?_
 simp only [go_sem, eq_true ho]
 refine hR _ _ ?_; clear hR R
 try simp only [go_sem, eq_true ho]
 refine W_ret ?_
 simp only [go_sem, eq_true ho]
 refine ⟨.inr (by trivial), ?_⟩
 first | refine Fsa hcl rfl ?_ | refine Fse hcl rfl ?_
 try simp only [go_sem]
 all_goals
  first | rfl | (rw [hinv]; done)
set_option maxHeartbeats 2000000 in
theorem checkRules_pc (Y : YEnv) (σ : Sg) (r : Rules) :
 PC Tryz.prog Y 42 [ruPV r] σ (I (chkRu r)) (σ) := by
 refine PC_of_W Tryz.func42 rfl (by kernel_rfl) Tryz.ntmps42 (by simp) fun hcl hca => ?_
 refine W_sr [1] fun R hR => ?_
 simp only [go_sem]
 refine hR _ _ ?_; clear hR R
 try simp only [go_sem]
 refine W_seq fun Z2 K2 => ?_
 refine W_block ?_
 refine W_seq fun Z3 K3 => ?_
 refine W_sr [1, 3] fun R hR => ?_
 simp only [go_sem]
 refine GCall_of (in_pc Y _ r.least 0 100000) ?_
 simp only [go_sem]
 refine hR _ _ ?_; clear hR R
 try simp only [go_sem]
 refine W_cond rfl (fun c1 => ?_) (fun c1 => ?_)
 ·
  try simp only [nrm] at c1
  refine W_skip (K3 _ _ ?_)
  refine W_cond_true (by first | rfl | (simp only [go_sem]; simp [c1])) ?_
  refine W_sr [2] fun R hR => ?_
  simp only [go_sem]
  refine hR _ _ ?_; clear hR R
  try simp only [go_sem]
  refine W_ret ?_
  simp only [go_sem]
  refine ⟨.inr (by trivial), ?_⟩
  first | refine Fsa hcl rfl ?_ | refine Fse hcl rfl ?_
  try simp only [go_sem]
  all_goals
   congr 1; unfold chkRu; (repeat' split) <;> first | rfl | omega | (simp_all; done) | (simp_all; omega)
 try simp only [nrm] at c1
 refine W_sr [1, 3] fun R hR => ?_
 simp only [go_sem]
 refine GCall_of (in_pc Y _ r.most 0 100000) ?_
 simp only [go_sem]
 refine hR _ _ ?_; clear hR R
 try simp only [go_sem]
 refine W_cond rfl (fun c2 => ?_) (fun c2 => ?_)
 ·
  try simp only [nrm] at c2
  refine W_skip (K3 _ _ ?_)
  refine W_cond_true (by first | rfl | (simp only [go_sem]; simp [c2])) ?_
  refine W_sr [2] fun R hR => ?_
  simp only [go_sem]
  refine hR _ _ ?_; clear hR R
  try simp only [go_sem]
  refine W_ret ?_
  simp only [go_sem]
  refine ⟨.inr (by trivial), ?_⟩
  first | refine Fsa hcl rfl ?_ | refine Fse hcl rfl ?_
  try simp only [go_sem]
  all_goals
   congr 1; unfold chkRu; (repeat' split) <;> first | rfl | omega | (simp_all; done) | (simp_all; omega)
 try simp only [nrm] at c2
 refine W_region [1, 3] fun R hR => ?_
 simp only [go_sem]
 refine GCall_of (in_pc Y _ r.gap 0 20000) ?_
 simp only [go_sem]
 refine hR _ _ (K3 _ _ ?_); clear hR R; try clear K3 Z3
 try simp only [go_sem]
 refine W_cond rfl (fun c3 => ?_) (fun c3 => ?_)
 ·
  try simp only [nrm] at c3
  refine W_sr [2] fun R hR => ?_
  simp only [go_sem]
  refine hR _ _ ?_; clear hR R
  try simp only [go_sem]
  refine W_ret ?_
  simp only [go_sem]
  refine ⟨.inr (by trivial), ?_⟩
  first | refine Fsa hcl rfl ?_ | refine Fse hcl rfl ?_
  try simp only [go_sem]
  all_goals
   congr 1; unfold chkRu; (repeat' split) <;> first | rfl | omega | (simp_all; done) | (simp_all; omega)
 try simp only [nrm] at c3
 refine W_sr [16] fun R hR => ?_
 simp only [go_sem]
 refine hR _ _ ?_; clear hR R
 try simp only [go_sem]
 refine W_cond rfl (fun c4 => ?_) (fun c4 => ?_)
 ·
  try simp only [nrm] at c4
  refine W_sr [2] fun R hR => ?_
  simp only [go_sem]
  refine hR _ _ ?_; clear hR R
  try simp only [go_sem]
  refine W_ret ?_
  simp only [go_sem]
  refine ⟨.inr (by trivial), ?_⟩
  first | refine Fsa hcl rfl ?_ | refine Fse hcl rfl ?_
  try simp only [go_sem]
  all_goals
   congr 1; unfold chkRu; (repeat' split) <;> first | rfl | omega | (simp_all; done) | (simp_all; omega)
 try simp only [nrm] at c4
 refine W_skip (K2 _ _ ?_)
 refine W_sr [2] fun R hR => ?_
 simp only [go_sem]
 refine hR _ _ ?_; clear hR R
 try simp only [go_sem]
 refine W_ret ?_
 simp only [go_sem]
 refine ⟨.inr (by trivial), ?_⟩
 first | refine Fsa hcl rfl ?_ | refine Fse hcl rfl ?_
 try simp only [go_sem]
 all_goals
  congr 1; unfold chkRu; (repeat' split) <;> first | rfl | omega | (simp_all; done) | (simp_all; omega)
set_option maxHeartbeats 2000000 in
theorem both_pc (Y : YEnv) (σ : Sg) (s : School) (st : List Int) (o : Own) (r : Rules) (hn : ∀ v, v ∈ s.wings → v.name.length ≤ 2 ^ 62) (hl : s.wings.length < 2 ^ 40) :
 PC Tryz.prog Y 49 [shPV s, intsO o st, ruPV r] σ (I (if chkSt s st ≠ 0 then chkSt s st else chkRu r)) (σ) := by
 refine PC_of_W Tryz.func49 rfl (by kernel_rfl) Tryz.ntmps49 (by simp) fun hcl hca => ?_
 have ho : OwnLt σ.rooms.length o := by
  have h := hca (intsO o st) (by simp)
  cases h
  assumption
 refine W_sr [1, 3, 5] fun R hR => ?_
 simp only [go_sem, eq_true ho]
 refine hR _ _ ?_; clear hR R
 try simp only [go_sem, eq_true ho]
 refine W_seq fun Z2 K2 => ?_
 refine W_sr [5, 7] fun R hR => ?_
 simp only [go_sem, eq_true ho]
 refine GCall_of (CheckStarts_pc Y _ s st o hn hl) ?_
 simp only [go_sem, eq_true ho]
 refine hR _ _ ?_; clear hR R
 try simp only [go_sem, eq_true ho]
 refine W_sr [5, 7, 12] fun R hR => ?_
 simp only [go_sem, eq_true ho]
 refine hR _ _ ?_; clear hR R
 try simp only [go_sem, eq_true ho]
 refine W_cond rfl (fun c1 => ?_) (fun c1 => ?_)
 ·
  try simp only [nrm] at c1
  refine W_sr [6] fun R hR => ?_
  simp only [go_sem, eq_true ho]
  refine hR _ _ ?_; clear hR R
  try simp only [go_sem, eq_true ho]
  refine W_ret ?_
  simp only [go_sem, eq_true ho]
  refine ⟨.inr (by trivial), ?_⟩
  first | refine Fsa hcl rfl ?_ | refine Fse hcl rfl ?_
  try simp only [go_sem]
  all_goals
   congr 1; first | rw [if_pos (by omega)] | rw [if_neg (by omega)]
 try simp only [nrm] at c1
 refine W_skip (K2 _ _ ?_)
 refine W_sr [6] fun R hR => ?_
 simp only [go_sem, eq_true ho]
 refine GCall_of (checkRules_pc Y _ r) ?_
 simp only [go_sem, eq_true ho]
 refine hR _ _ ?_; clear hR R
 try simp only [go_sem, eq_true ho]
 refine W_ret ?_
 simp only [go_sem, eq_true ho]
 refine ⟨.inr (by trivial), ?_⟩
 first | refine Fsa hcl rfl ?_ | refine Fse hcl rfl ?_
 try simp only [go_sem]
 all_goals
  congr 1; first | rw [if_pos (by omega)] | rw [if_neg (by omega)]
set_option maxHeartbeats 2000000 in
theorem lasts1_pc (Y : YEnv) (σ : Sg) (i1 i2 : Nat) (s : School) (st : List Int) (o : Own) (hV : ShV s) (hd1 : σ.store[i1]? = some (some (shCells s))) (hd2 : σ.store[i2]? = some (some [intsO o st])) (hs : StV st (s.wings.length - 1)) (e : Int) (he : e = 0 ∨ e = 1) :
 PC Tryz.prog Y 98 [trPV s.wings st o e, .ptr i1 0, .ptr i2 0] σ (I (clearW s.wings st e (s.wings.length - 1) s.route - stW st 0)) (σ) := by
 refine PC_of_W Tryz.func98 rfl (by kernel_rfl) Tryz.ntmps98 (by simp) fun hcl hca => ?_
 have h8 := hV.wl
 have hrt := hV.rt
 obtain ⟨k, hk⟩ : ∃ k, s.wings.length = k + 1 := ⟨s.wings.length - 1, by omega⟩
 have hk1 : s.wings.length - 1 = k := by omega
 rw [hk1] at hs ⊢
 have hjw : IntKind.i64.wrap (k : Int) = k := wrapI (by omega) (by omega)
 have hj : (((k + 1 : Nat) : Int) - 1) = k := by omega
 obtain ⟨x0, hx0⟩ : ∃ z, st[0]? = some z := ⟨st[0]'(by have := hs.1; omega), by simp⟩
 have h00 : ((0 : Int) ≤ 0) = True := eq_true (Int.le_refl 0)
 have hs0 := stW_at hx0
 have hs0b := hs.2 0 (by omega)
 rw [hs0] at hs0b ⊢
 have hcb := passW_ge (ws := s.wings) (st := st) (e := e) k (s.route + lenW s.wings k)
 have hcb2 := accW_inv (ws := s.wings) (wing := k) (f := passOne s.wings st e (s.route + lenW s.wings k)) (a := stW st k) (Q := fun m => 0 ≤ m ∧ m ≤ 300000) (by have := hs.2 k (by omega); omega) (passOne_bd hV.wv (by omega) hs (by have := lenW_bd hV.wv k; omega)) 0
 rw [accW_end] at hcb2
 have hcc : 0 ≤ clearW s.wings st e k s.route ∧ clearW s.wings st e k s.route ≤ 300000 := hcb2
 clear hcb hcb2
 refine W_sr [1, 2, 3] fun R hR => ?_
 simp only [go_sem, ldS_at (get_extx hd1), ldS_at (get_extx hd2), hk, hj, hjw, h00, Int.toNat_zero, if_true, hx0]
 refine hR _ _ ?_; clear hR R
 try simp only [go_sem, ldS_at (get_extx hd1), ldS_at (get_extx hd2), hk, hj, hjw, h00, Int.toNat_zero, if_true, hx0]
 refine W_seq fun Z2 K2 => ?_
 refine W_draw [4] [0, 1, 2, 3, 4, 5, 6, 7, 8, 9, 10, 11, 12] [(8, 7), (9, 7), (10, 7)] [[], [], [1], [1, 2], [1, 2, 3], [], [5], [0, 1, 2, 3, 4, 5, 6], [], [8], [8, 9], [0, 1, 2, 3, 4, 5, 6, 7, 8, 9, 10], [0, 1, 2, 3, 4, 5, 6, 7, 8, 9, 10, 11]] mixed (by kernel_rfl) fun R hR => ?_
 simp only [go_sem, ldS_at (get_extx hd1), ldS_at (get_extx hd2), hk, hj, hjw, h00, Int.toNat_zero, if_true, hx0]
 try simp (disch := (first | omega | (simp only [go_sem, List.length_append] <;> omega))) only [wrapI, wrapU, strAdd, slT, slTa, slTb]
 refine GCall_of (clear_pc Y _ s.wings st o e k (by omega) hV.wv (by omega) hs he s.route (by omega)) ?_
 simp only [go_sem, ldS_at (get_extx hd1), ldS_at (get_extx hd2), hk, hj, hjw, h00, Int.toNat_zero, if_true, hx0]
 try simp (disch := (first | omega | (simp only [go_sem, List.length_append] <;> omega))) only [wrapI, wrapU, strAdd, slT, slTa, slTb]
 try refine And.intro (by repeat' (first | refine And.intro ?_ ?_ | exact trivial | exact GOr_right (fun _ => by simp only [go_sem, ldS_at (get_extx hd1), ldS_at (get_extx hd2), hk, hj, hjw, h00, Int.toNat_zero, if_true, hx0]))) ?_
 refine hR _ _ (K2 _ _ ?_); clear hR R; try clear K2 Z2
 try simp only [go_sem, ldS_at (get_extx hd1), ldS_at (get_extx hd2), hk, hj, hjw, h00, Int.toNat_zero, if_true, hx0]
 refine W_ret ?_
 simp only [go_sem, ldS_at (get_extx hd1), ldS_at (get_extx hd2), hk, hj, hjw, h00, Int.toNat_zero, if_true, hx0]
 refine ⟨.inr (by trivial), ?_⟩
 first | refine Fsa hcl rfl ?_ | refine Fse hcl rfl ?_
 try simp only [go_sem]
 all_goals
  first | rfl | (congr 1; done)
set_option maxHeartbeats 2000000 in
theorem between_pc (Y : YEnv) (σ : Sg) (s : School) (st : List Int) (o : Own) (g : FuncId) (p q : PV) (f : Int → Int) (hf : ∀ e, -2 ^ 40 ≤ f e ∧ f e ≤ 2 ^ 40) (hq : ∀ (e : Int) (l : List (Option (List PV))), e = 0 ∨ e = 1 → PC Tryz.prog Y g [trPV s.wings st o e, p, q] (σ.ext l []) (I (f e)) (σ.ext l [])) :
 PC Tryz.prog Y 97 [shPV s, intsO o st, .func (.func g) [] [p, q]] σ (.agg [I (f 1), I (f 0)]) (σ) := by
 refine PC_of_W Tryz.func97 rfl (by kernel_rfl) Tryz.ntmps97 (by simp) fun hcl hca => ?_
 have ho : OwnLt σ.rooms.length o := by
  have h := hca (intsO o st) (by simp)
  cases h
  assumption
 refine W_sr [1, 2, 3, 6] fun R hR => ?_
 simp only [go_sem, eq_true ho]
 refine hR _ _ ?_; clear hR R
 try simp only [go_sem, eq_true ho]
 refine W_seq fun Z2 K2 => ?_
 refine W_draw [6] [0, 1, 2, 3, 4, 5, 6, 7, 8, 9, 10, 11] [(0, 4), (5, 3), (5, 4), (5, 9), (6, 3), (6, 4), (7, 3), (7, 4)] [[], [], [], [1, 2], [0, 1, 2, 3], [], [], [], [0, 1, 2, 3, 4, 6, 7], [0, 1, 2, 3, 4, 5, 6, 7, 8], [0, 1, 2, 3, 4, 5, 6, 7, 8, 9], [0, 1, 2, 3, 4, 5, 6, 7, 8, 9, 10]] mixed (by kernel_rfl) fun R hR => ?_
 simp only [go_sem, eq_true ho]
 refine GCall_of (truthOf_pc Y _ s st o 1) ?_
 simp only [go_sem, eq_true ho]
 refine GCall_of (hq 1 _ (.inr rfl)) ?_
 simp only [go_sem, eq_true ho]
 refine GCall_of (truthOf_pc Y _ s st o 0) ?_
 simp only [go_sem, eq_true ho]
 refine GCall_of (hq 0 _ (.inl rfl)) ?_
 simp only [go_sem, eq_true ho]
 try refine And.intro (by repeat' (first | refine And.intro ?_ ?_ | exact trivial | exact GOr_right (fun _ => by simp only [go_sem, eq_true ho]))) ?_
 refine hR _ _ (K2 _ _ ?_); clear hR R; try clear K2 Z2
 try simp only [go_sem, eq_true ho]
 refine W_ret ?_
 simp only [go_sem, eq_true ho]
 refine ⟨.inr (by trivial), ?_⟩
 first | refine Fin_same hcl (by show resPV Tryz.prog _ _ [.cell 6 48] = some _; simp only [resPV, go_sem]; rfl) (Wk_eq ?_ (by simp only [go_sem])) | refine Fin_same hcl rfl (Wk_eq ?_ (by simp only [go_sem]))
 try simp only [go_sem]
 all_goals
  first | rfl | (simp_all; done) | (simp_all; omega)
set_option maxHeartbeats 2000000 in
theorem lasts_pc (Y : YEnv) (σ : Sg) (s : School) (st : List Int) (o : Own) (hV : ShV s) (hs : StV st (s.wings.length - 1)) :
 PC Tryz.prog Y 44 [shPV s, intsO o st] σ (.agg [I (lastsW s st).1, I (lastsW s st).2]) (σ) := by
 refine PC_of_W Tryz.func44 rfl (by kernel_rfl) Tryz.ntmps44 (by simp) fun hcl hca => ?_
 have ho : OwnLt σ.rooms.length o := by
  have h := hca (intsO o st) (by simp)
  cases h
  assumption
 refine W_sr [2, 3, 4] fun R hR => ?_
 simp only [go_sem, eq_true ho]
 refine hR _ _ ?_; clear hR R
 try simp only [go_sem, eq_true ho]
 refine W_sr [4] fun R hR => ?_
 simp only [go_sem, eq_true ho]
 refine GCall_of (between_pc Y _ s st o 98 _ _ (fun e => clearW s.wings st e (s.wings.length - 1) s.route - stW st 0) (fun e => lasts_bd hV hs e) (fun e l he => lasts1_pc Y _ _ _ s st o hV (get_extx (Sg.get_ext0 ..)) (get_extx (Sg.get_ext (k := 1) ..)) hs e he)) ?_
 simp only [go_sem, eq_true ho]
 refine hR _ _ ?_; clear hR R
 try simp only [go_sem, eq_true ho]
 refine W_ret ?_
 simp only [go_sem, eq_true ho]
 refine ⟨.inr (by trivial), ?_⟩
 first | refine Fin_same hcl (by show resPV Tryz.prog _ _ [.cell 4 48] = some _; simp only [resPV, go_sem]; rfl) (Wk_eq ?_ (by simp only [go_sem])) | refine Fin_same hcl rfl (Wk_eq ?_ (by simp only [go_sem]))
 try simp only [go_sem]
 all_goals
  simp only [lastsW]
set_option maxHeartbeats 8000000 in
theorem Lasts_pc (Y : YEnv) (σ : Sg) (s : School) (st : List Int) (o : Own) (r : Rules) (hn : ∀ v, v ∈ s.wings → v.name.length ≤ 2 ^ 62) (hl : s.wings.length < 2 ^ 40) :
 PC Tryz.prog Y 10 [shPV s, intsO o st, ruPV r] σ (.tuple [I (lastsA s st r).1, .agg [I (lastsA s st r).2.1.1, I (lastsA s st r).2.1.2], I (lastsA s st r).2.2]) (σ) := by
 refine PC_of_W Tryz.func10 rfl (by kernel_rfl) Tryz.ntmps10 (by simp) fun hcl hca => ?_
 have ho : OwnLt σ.rooms.length o := by
  have h := hca (intsO o st) (by simp)
  cases h
  assumption
 refine W_sr [1, 3, 5, 7] fun R hR => ?_
 simp only [go_sem, eq_true ho]
 refine hR _ _ ?_; clear hR R
 try simp only [go_sem, eq_true ho]
 refine W_seq fun Z2 K2 => ?_
 refine W_sr [1, 3, 5, 7, 9] fun R hR => ?_
 simp only [go_sem, eq_true ho]
 refine GCall_of (both_pc Y _ s st o r hn hl) ?_
 simp only [go_sem, eq_true ho]
 refine hR _ _ ?_; clear hR R
 try simp only [go_sem, eq_true ho]
 refine W_sr [1, 3, 5, 7, 9, 16] fun R hR => ?_
 simp only [go_sem, eq_true ho]
 refine hR _ _ ?_; clear hR R
 try simp only [go_sem, eq_true ho]
 refine W_cond rfl (fun c1 => ?_) (fun c1 => ?_)
 ·
  try simp only [nrm] at c1
  refine W_sr [6, 7, 8] fun R hR => ?_
  simp only [go_sem, eq_true ho]
  refine hR _ _ ?_; clear hR R
  try simp only [go_sem, eq_true ho]
  refine W_ret ?_
  simp only [go_sem, eq_true ho]
  refine ⟨.inr (by trivial), ?_⟩
  first | refine Fin_same hcl (by show resPV Tryz.prog _ _ [.tmp 6, .cell 7 48, .tmp 8] = some _; simp only [resPV, go_sem]; rfl) (Wk_eq ?_ (by simp only [go_sem])) | refine Fin_same hcl rfl (Wk_eq ?_ (by simp only [go_sem]))
  try simp only [go_sem]
  all_goals
   by_cases h : chkSt s st ≠ 0
   ·have : lastsA s st r = (0, (0, 0), chkSt s st) := by unfold lastsA; rw [if_pos h]
    rw [this, if_pos h]
    first | done | rfl
   rw [if_neg h] at c1 ⊢
   have : lastsA s st r = (0, (0, 0), chkRu r) := by unfold lastsA; rw [if_neg h, if_pos (by omega)]
   rw [this]
   first | done | rfl
 try simp only [nrm] at c1
 have he1 : chkSt s st = 0 := by
  by_cases h : chkSt s st = 0
  ·exact h
  rw [if_pos h] at c1; omega
 have he2 : chkRu r = 0 := by rw [if_neg (by omega)] at c1; omega
 obtain ⟨hV, hl2, hs2⟩ := chkSt_ok he1
 have h8 := hV.wl
 have hst : StV st (s.wings.length - 1) := ⟨by omega, fun i _ => hs2 i⟩
 have hans : lastsA s st r = (verdict r (lastsW s st), lastsW s st, 0) := by unfold lastsA; rw [if_neg (by omega), if_neg (by omega)]
 obtain ⟨x1, hx1⟩ : ∃ z, (lastsW s st).1 = z := ⟨_, rfl⟩
 obtain ⟨x2, hx2⟩ : ∃ z, (lastsW s st).2 = z := ⟨_, rfl⟩
 have hlw : lastsW s st = (x1, x2) := Prod.ext hx1 hx2
 refine W_skip (K2 _ _ ?_)
 refine W_sr [5, 7, 10] fun R hR => ?_
 simp only [go_sem, eq_true ho, hx1, hx2]
 refine GCall_of (lasts_pc Y _ s st o hV hst) ?_
 simp only [go_sem, eq_true ho, hx1, hx2]
 refine hR _ _ ?_; clear hR R
 try simp only [go_sem, eq_true ho, hx1, hx2]
 refine W_seq fun Z7 K7 => ?_
 refine W_block ?_
 refine W_sr [5, 7, 10, 22] fun R hR => ?_
 simp only [go_sem, eq_true ho, hx1, hx2]
 refine GCall_of (in_pc Y _ x1 r.least r.most) ?_
 simp only [go_sem, eq_true ho, hx1, hx2]
 refine GWant_split (fun g1 => ?_) (fun g1 => ?_)
 ·try simp only [Bool.not_eq_true', Bool.not_eq_false'] at g1
  have n1 := g1; try simp only [nrm] at n1
  simp only [go_sem, eq_true ho, hx1, hx2, g1]
  refine GCall_of (in_pc Y _ x2 r.least r.most) ?_
  simp only [go_sem, eq_true ho, hx1, hx2, g1]
  refine hR _ _ ?_; clear hR R
  try simp only [go_sem, eq_true ho, hx1, hx2]
  refine W_cond rfl (fun c2 => ?_) (fun c2 => ?_)
  ·
   try simp only [nrm] at c2
   refine W_seq fun Z9 K9 => ?_
   refine W_draw [6, 7, 8] [0, 1, 2, 3] [] [[], [], [0, 1], [0, 1, 2]] mixed (by kernel_rfl) fun R hR => ?_
   simp only [go_sem, eq_true ho, hx1, hx2]
   try refine And.intro (by repeat' (first | refine And.intro ?_ ?_ | exact trivial | exact GOr_right (fun _ => by simp only [go_sem, eq_true ho, hx1, hx2]))) ?_
   refine hR _ _ (K9 _ _ ?_); clear hR R; try clear K9 Z9
   try simp only [go_sem, eq_true ho, hx1, hx2]
   refine W_ret ?_
   simp only [go_sem, eq_true ho, hx1, hx2]
   refine ⟨.inr (by trivial), ?_⟩
   first | refine Fin_same hcl (by show resPV Tryz.prog _ _ [.tmp 6, .cell 7 48, .tmp 8] = some _; simp only [resPV, go_sem]; rfl) (Wk_eq ?_ (by simp only [go_sem])) | refine Fin_same hcl rfl (Wk_eq ?_ (by simp only [go_sem]))
   try simp only [go_sem]
   all_goals
    have hv : verdict r (x1, x2) = 1 := by
     unfold verdict
     simp only []
     (repeat' split) <;> first | rfl | (exfalso; simp_all; done) | (exfalso; simp_all; omega)
    rw [hans, hlw, hv]
    first | done | rfl
  try simp only [nrm] at c2
  refine W_seq fun Z10 K10 => ?_
  refine W_sr [5, 7, 10, 40] fun R hR => ?_
  simp only [go_sem, eq_true ho, hx1, hx2]
  refine hR _ _ ?_; clear hR R
  try simp only [go_sem, eq_true ho, hx1, hx2]
  refine W_cond rfl (fun c3 => ?_) (fun c3 => ?_)
  ·
   try simp only [nrm] at c3
   refine W_skip (K10 _ _ ?_)
   refine W_cond_true (by first | rfl | (simp only [go_sem]; simp [c3])) ?_
   refine W_seq fun Z12 K12 => ?_
   refine W_draw [6, 7, 8] [0, 1, 2, 3] [] [[], [], [0, 1], [0, 1, 2]] mixed (by kernel_rfl) fun R hR => ?_
   simp only [go_sem, eq_true ho, hx1, hx2]
   try refine And.intro (by repeat' (first | refine And.intro ?_ ?_ | exact trivial | exact GOr_right (fun _ => by simp only [go_sem, eq_true ho, hx1, hx2]))) ?_
   refine hR _ _ (K12 _ _ ?_); clear hR R; try clear K12 Z12
   try simp only [go_sem, eq_true ho, hx1, hx2]
   refine W_ret ?_
   simp only [go_sem, eq_true ho, hx1, hx2]
   refine ⟨.inr (by trivial), ?_⟩
   first | refine Fin_same hcl (by show resPV Tryz.prog _ _ [.tmp 6, .cell 7 48, .tmp 8] = some _; simp only [resPV, go_sem]; rfl) (Wk_eq ?_ (by simp only [go_sem])) | refine Fin_same hcl rfl (Wk_eq ?_ (by simp only [go_sem]))
   try simp only [go_sem]
   all_goals
    have hv : verdict r (x1, x2) = 2 := by
     unfold verdict
     simp only []
     (repeat' split) <;> first | rfl | (exfalso; simp_all; done) | (exfalso; simp_all; omega)
    rw [hans, hlw, hv]
    first | done | rfl
  try simp only [nrm] at c3
  refine W_region [7, 10, 40] fun R hR => ?_
  simp only [go_sem, eq_true ho, hx1, hx2]
  refine hR _ _ (K10 _ _ ?_); clear hR R; try clear K10 Z10
  try simp only [go_sem, eq_true ho, hx1, hx2]
  refine W_cond rfl (fun c4 => ?_) (fun c4 => ?_)
  ·
   try simp only [nrm] at c4
   refine W_seq fun Z13 K13 => ?_
   refine W_draw [6, 7, 8] [0, 1, 2, 3] [] [[], [], [0, 1], [0, 1, 2]] mixed (by kernel_rfl) fun R hR => ?_
   simp only [go_sem, eq_true ho, hx1, hx2]
   try refine And.intro (by repeat' (first | refine And.intro ?_ ?_ | exact trivial | exact GOr_right (fun _ => by simp only [go_sem, eq_true ho, hx1, hx2]))) ?_
   refine hR _ _ (K13 _ _ ?_); clear hR R; try clear K13 Z13
   try simp only [go_sem, eq_true ho, hx1, hx2]
   refine W_ret ?_
   simp only [go_sem, eq_true ho, hx1, hx2]
   refine ⟨.inr (by trivial), ?_⟩
   first | refine Fin_same hcl (by show resPV Tryz.prog _ _ [.tmp 6, .cell 7 48, .tmp 8] = some _; simp only [resPV, go_sem]; rfl) (Wk_eq ?_ (by simp only [go_sem])) | refine Fin_same hcl rfl (Wk_eq ?_ (by simp only [go_sem]))
   try simp only [go_sem]
   all_goals
    have hv : verdict r (x1, x2) = 2 := by
     unfold verdict
     simp only []
     (repeat' split) <;> first | rfl | (exfalso; simp_all; done) | (exfalso; simp_all; omega)
    rw [hans, hlw, hv]
    first | done | rfl
  try simp only [nrm] at c4
  refine W_skip (K7 _ _ ?_)
  refine W_seq fun Z14 K14 => ?_
  refine W_draw [6, 7, 8] [0, 1, 2, 3] [] [[], [], [0, 1], [0, 1, 2]] mixed (by kernel_rfl) fun R hR => ?_
  simp only [go_sem, eq_true ho, hx1, hx2]
  try refine And.intro (by repeat' (first | refine And.intro ?_ ?_ | exact trivial | exact GOr_right (fun _ => by simp only [go_sem, eq_true ho, hx1, hx2]))) ?_
  refine hR _ _ (K14 _ _ ?_); clear hR R; try clear K14 Z14
  try simp only [go_sem, eq_true ho, hx1, hx2]
  refine W_ret ?_
  simp only [go_sem, eq_true ho, hx1, hx2]
  refine ⟨.inr (by trivial), ?_⟩
  first | refine Fin_same hcl (by show resPV Tryz.prog _ _ [.tmp 6, .cell 7 48, .tmp 8] = some _; simp only [resPV, go_sem]; rfl) (Wk_eq ?_ (by simp only [go_sem])) | refine Fin_same hcl rfl (Wk_eq ?_ (by simp only [go_sem]))
  try simp only [go_sem]
  all_goals
   have hv : verdict r (x1, x2) = 3 := by
    unfold verdict
    simp only []
    (repeat' split) <;> first | rfl | (exfalso; simp_all; done) | (exfalso; simp_all; omega)
   rw [hans, hlw, hv]
   first | done | rfl
 try simp only [Bool.not_eq_true', Bool.not_eq_false'] at g1
 have n1 := g1; try simp only [nrm] at n1
 simp only [go_sem, eq_true ho, hx1, hx2, g1]
 refine hR _ _ ?_; clear hR R
 try simp only [go_sem, eq_true ho, hx1, hx2]
 refine W_cond_false rfl ?_
 refine W_seq fun Z15 K15 => ?_
 refine W_sr [5, 7, 10, 40] fun R hR => ?_
 simp only [go_sem, eq_true ho, hx1, hx2]
 refine hR _ _ ?_; clear hR R
 try simp only [go_sem, eq_true ho, hx1, hx2]
 refine W_cond rfl (fun c5 => ?_) (fun c5 => ?_)
 ·
  try simp only [nrm] at c5
  refine W_skip (K15 _ _ ?_)
  refine W_cond_true (by first | rfl | (simp only [go_sem]; simp [c5])) ?_
  refine W_seq fun Z17 K17 => ?_
  refine W_draw [6, 7, 8] [0, 1, 2, 3] [] [[], [], [0, 1], [0, 1, 2]] mixed (by kernel_rfl) fun R hR => ?_
  simp only [go_sem, eq_true ho, hx1, hx2]
  try refine And.intro (by repeat' (first | refine And.intro ?_ ?_ | exact trivial | exact GOr_right (fun _ => by simp only [go_sem, eq_true ho, hx1, hx2]))) ?_
  refine hR _ _ (K17 _ _ ?_); clear hR R; try clear K17 Z17
  try simp only [go_sem, eq_true ho, hx1, hx2]
  refine W_ret ?_
  simp only [go_sem, eq_true ho, hx1, hx2]
  refine ⟨.inr (by trivial), ?_⟩
  first | refine Fin_same hcl (by show resPV Tryz.prog _ _ [.tmp 6, .cell 7 48, .tmp 8] = some _; simp only [resPV, go_sem]; rfl) (Wk_eq ?_ (by simp only [go_sem])) | refine Fin_same hcl rfl (Wk_eq ?_ (by simp only [go_sem]))
  try simp only [go_sem]
  all_goals
   have hv : verdict r (x1, x2) = 2 := by
    unfold verdict
    simp only []
    (repeat' split) <;> first | rfl | (exfalso; simp_all; done) | (exfalso; simp_all; omega)
   rw [hans, hlw, hv]
   first | done | rfl
 try simp only [nrm] at c5
 refine W_region [7, 10, 40] fun R hR => ?_
 simp only [go_sem, eq_true ho, hx1, hx2]
 refine hR _ _ (K15 _ _ ?_); clear hR R; try clear K15 Z15
 try simp only [go_sem, eq_true ho, hx1, hx2]
 refine W_cond rfl (fun c6 => ?_) (fun c6 => ?_)
 ·
  try simp only [nrm] at c6
  refine W_seq fun Z18 K18 => ?_
  refine W_draw [6, 7, 8] [0, 1, 2, 3] [] [[], [], [0, 1], [0, 1, 2]] mixed (by kernel_rfl) fun R hR => ?_
  simp only [go_sem, eq_true ho, hx1, hx2]
  try refine And.intro (by repeat' (first | refine And.intro ?_ ?_ | exact trivial | exact GOr_right (fun _ => by simp only [go_sem, eq_true ho, hx1, hx2]))) ?_
  refine hR _ _ (K18 _ _ ?_); clear hR R; try clear K18 Z18
  try simp only [go_sem, eq_true ho, hx1, hx2]
  refine W_ret ?_
  simp only [go_sem, eq_true ho, hx1, hx2]
  refine ⟨.inr (by trivial), ?_⟩
  first | refine Fin_same hcl (by show resPV Tryz.prog _ _ [.tmp 6, .cell 7 48, .tmp 8] = some _; simp only [resPV, go_sem]; rfl) (Wk_eq ?_ (by simp only [go_sem])) | refine Fin_same hcl rfl (Wk_eq ?_ (by simp only [go_sem]))
  try simp only [go_sem]
  all_goals
   have hv : verdict r (x1, x2) = 2 := by
    unfold verdict
    simp only []
    (repeat' split) <;> first | rfl | (exfalso; simp_all; done) | (exfalso; simp_all; omega)
   rw [hans, hlw, hv]
   first | done | rfl
 try simp only [nrm] at c6
 refine W_skip (K7 _ _ ?_)
 refine W_seq fun Z19 K19 => ?_
 refine W_draw [6, 7, 8] [0, 1, 2, 3] [] [[], [], [0, 1], [0, 1, 2]] mixed (by kernel_rfl) fun R hR => ?_
 simp only [go_sem, eq_true ho, hx1, hx2]
 try refine And.intro (by repeat' (first | refine And.intro ?_ ?_ | exact trivial | exact GOr_right (fun _ => by simp only [go_sem, eq_true ho, hx1, hx2]))) ?_
 refine hR _ _ (K19 _ _ ?_); clear hR R; try clear K19 Z19
 try simp only [go_sem, eq_true ho, hx1, hx2]
 refine W_ret ?_
 simp only [go_sem, eq_true ho, hx1, hx2]
 refine ⟨.inr (by trivial), ?_⟩
 first | refine Fin_same hcl (by show resPV Tryz.prog _ _ [.tmp 6, .cell 7 48, .tmp 8] = some _; simp only [resPV, go_sem]; rfl) (Wk_eq ?_ (by simp only [go_sem])) | refine Fin_same hcl rfl (Wk_eq ?_ (by simp only [go_sem]))
 try simp only [go_sem]
 all_goals
  have hv : verdict r (x1, x2) = 3 := by
   unfold verdict
   simp only []
   (repeat' split) <;> first | rfl | (exfalso; simp_all; done) | (exfalso; simp_all; omega)
  rw [hans, hlw, hv]
  first | done | rfl
set_option maxHeartbeats 4000000 in
theorem Least_pc (Y : YEnv) (σ : Sg) (s : School) (hn : ∀ v, v ∈ s.wings → v.name.length ≤ 2 ^ 62) (hl : s.wings.length < 2 ^ 40) :
 PC Tryz.prog Y 12 [shPV s] σ (.tuple [ints (leastsS s).1, I (leastsS s).2]) (σ) := by
 refine PC_of_W Tryz.func12 rfl (by kernel_rfl) Tryz.ntmps12 (by simp) fun hcl hca => ?_
 obtain ⟨res, hres⟩ : ∃ z, leastsS s = z := ⟨_, rfl⟩
 rw [hres]
 refine W_sr [1] fun R hR => ?_
 simp only [go_sem]
 refine hR _ _ ?_; clear hR R
 try simp only [go_sem]
 refine W_seq fun Z2 K2 => ?_
 refine W_sr [1, 4] fun R hR => ?_
 simp only [go_sem]
 refine GCall_of (Check_pc Y _ s hn hl) ?_
 simp only [go_sem]
 refine hR _ _ ?_; clear hR R
 try simp only [go_sem]
 refine W_sr [1, 4, 11] fun R hR => ?_
 simp only [go_sem]
 refine hR _ _ ?_; clear hR R
 try simp only [go_sem]
 refine W_cond rfl (fun c1 => ?_) (fun c1 => ?_)
 ·
  try simp only [nrm] at c1
  refine W_sr [2, 3] fun R hR => ?_
  simp only [go_sem]
  refine hR _ _ ?_; clear hR R
  try simp only [go_sem]
  refine W_ret ?_
  simp only [go_sem]
  refine ⟨.inr (by trivial), ?_⟩
  refine Fin_same hcl rfl (Wk.ro (by simp only [go_sem]) ?_)
  try simp only [go_sem]
  all_goals
   rw [← hres]; unfold leastsS; rw [if_pos (by omega)]; rfl
 try simp only [nrm] at c1
 have hV := shV_of (s := s) (by omega)
 have h8 := hV.wl
 refine W_skip (K2 _ _ ?_)
 refine W_sr [1, 5] fun R hR => ?_
 simp only [go_sem]
 refine hR _ _ ?_; clear hR R
 try simp only [go_sem]
 refine W_seq fun Z7 K7 => ?_
 refine W_sr [1, 5, 15, 16] fun R hR => ?_
 simp only [go_sem]
 refine hR _ _ ?_; clear hR R
 try simp only [go_sem]
 refine W_block ?_
 refine W_weak (Weak.room (t := 5) (es := 1) rfl (by simp)) ?_
 refine W_weak (Weak.keep [1, 5, 15, 16]) ?_
 simp only [go_sem]
 refine W_loopT (α := (List Int)) (fun (out : List Int) => [(5, .isl (out.map I) (.tok σ.rooms.length out.length 1)), (16, I out.length)]) (fun (out : List Int) => σ.ext [some (shCells s)] [out.length]) (fun (out : List Int) => out.length ≤ s.wings.length ∧ res = leastsF s.wings (s.wings.length - out.length) out ∧ ∀ j, j < out.length → 0 ≤ stW out j ∧ stW out j ≤ 20000) (fun (out : List Int) => s.wings.length - out.length) ([]) rfl (by first | rfl | (simp only [go_sem]; done) | (simp only [go_sem]; rfl)) (⟨Nat.zero_le _, by rw [← hres]; unfold leastsS; rw [if_neg (by omega)]; rfl, fun j hj => by cases hj⟩) ?_
 rintro out ⟨hi, hinv, hbs⟩
 refine W_sr [1, 5, 15, 16, 17] fun R hR => ?_
 simp only [go_sem]
 refine hR _ _ ?_; clear hR R
 try simp only [go_sem]
 refine W_seq fun Z10 K10 => ?_
 refine W_cond rfl (fun c2 => ?_) (fun c2 => ?_)
 ·
  try simp only [nrm] at c2
  have hi' : out.length < s.wings.length := by first | assumption | omega
  obtain ⟨k, hk⟩ : ∃ k, s.wings.length - out.length = k + 1 := ⟨s.wings.length - out.length - 1, by omega⟩
  rw [hk] at hinv
  simp only [leastsF] at hinv
  have hge := least_ge (ws := s.wings) (st := out) (i := out.length) (fun j hj => (hbs j hj).1)
  obtain ⟨x, hx⟩ : ∃ z, leastW s.wings out out.length = z := ⟨_, rfl⟩
  rw [hx] at hinv hge
  have hxl : (out ++ [x]).length = out.length + 1 := by simp
  refine W_skip (K10 _ _ ?_)
  refine W_seq fun Z11 K11 => ?_
  refine W_block ?_
  refine W_sr [1, 5, 6, 15, 16] fun R hR => ?_
  simp only [go_sem, hx]
  refine hR _ _ ?_; clear hR R
  try simp only [go_sem, hx]
  refine W_sr [1, 5, 7, 15, 16] fun R hR => ?_
  simp only [go_sem, hx]
  refine GCall_of (least_pc Y _ s out (.tok σ.rooms.length out.length 1) out.length hV (by omega) (fun k hk => ⟨by omega, fun j hj => hbs j (by omega)⟩)) ?_
  simp only [go_sem, hx]
  refine hR _ _ ?_; clear hR R
  try simp only [go_sem, hx]
  refine W_seq fun Z14 K14 => ?_
  refine W_sr [1, 5, 7, 15, 16, 24] fun R hR => ?_
  simp only [go_sem, hx]
  refine hR _ _ ?_; clear hR R
  try simp only [go_sem, hx]
  refine W_cond rfl (fun c3 => ?_) (fun c3 => ?_)
  ·
   try simp only [nrm] at c3
   refine W_sr [2, 3] fun R hR => ?_
   simp only [go_sem, hx]
   refine hR _ _ ?_; clear hR R
   try simp only [go_sem, hx]
   refine W_ret ?_
   simp only [go_sem, hx]
   refine ⟨.inr (by trivial), ?_⟩
   refine Fin_same hcl rfl (Wk.ro (by simp only [go_sem]) ?_)
   try simp only [go_sem]
   all_goals
    rw [hinv, if_pos (by omega)]; rfl
  try simp only [nrm] at c3
  refine W_skip (K14 _ _ ?_)
  refine W_region [1, 5, 15, 16] fun R hR => ?_
  simp only [go_sem, hx]
  try simp (disch := (first | omega | (simp only [go_sem, List.length_append] <;> omega))) only [wrapI, wrapU, appX_exact, appX_tok, strAdd, slT, slTa, slTb]
  try simp only [go_sem, hx]
  refine hR _ _ (K11 _ _ ?_); clear hR R; try clear K11 Z11
  try simp only [go_sem, hx]
  refine W_region [1, 5, 15, 16] fun R hR => ?_
  simp only [go_sem, hx]
  try simp (disch := (first | omega | (simp only [go_sem, List.length_append] <;> omega))) only [wrapI, wrapU, strAdd, slT, slTa, slTb]
  refine hR _ _ ?_; clear hR R
  try simp only [go_sem, hx]
  refine ⟨out ++ [x], ?_, by (try simp only []); omega, ?_⟩
  ·first | exact Weak.refl | exact Wqq
  try dsimp only
  rw [if_neg (by omega)] at hinv
  refine ⟨by simp; omega, ?_, fun j hj => ?_⟩
  ·rw [hinv]; congr 1; simp; omega
  rw [stW_snoc]
  simp only [List.length_append, List.length_cons, List.length_nil] at hj
  split
  ·exact hbs j (by assumption)
  rw [if_pos (by omega)]; omega
 try simp only [nrm] at c2
 have hk : s.wings.length - out.length = 0 := by omega
 rw [hk] at hinv
 simp only [leastsF] at hinv
 refine W_exit ?_
 simp only [go_sem]
 refine K7 _ _ ?_
 refine W_sr [2, 3] fun R hR => ?_
 simp only [go_sem]
 refine hR _ _ ?_; clear hR R
 try simp only [go_sem]
 refine W_ret ?_
 simp only [go_sem]
 refine ⟨.inr (by trivial), ?_⟩
 refine Fin_same hcl rfl (Wk.ro (by simp only [go_sem]) ?_)
 try simp only [go_sem]
 all_goals
  rw [hinv]; first | done | rfl
/-- A search by halves. -/
def srch (f : Int → Bool) : Nat → Nat → Nat → Nat
 | 0, i, _ => i
 | k + 1, i, j => if i < j then (if f (((i + j) / 2 : Nat) : Int) then srch f k i ((i + j) / 2) else srch f k ((i + j) / 2 + 1) j) else i
theorem srch_bd (f : Int → Bool) : ∀ (k i j : Nat), i ≤ j → i ≤ srch f k i j ∧ srch f k i j ≤ j := by
 intro k
 induction k with
 | zero => intro i j h; simp [srch]; exact h
 | succ k ih =>
  intro i j h
  simp only [srch]
  split
  ·split
   ·have := ih i ((i + j) / 2) (by omega); omega
   have := ih ((i + j) / 2 + 1) j (by omega); omega
  omega
theorem mul_bd {a b : Int} (ha : 1 ≤ a ∧ a ≤ 200) (hb : -1000000 ≤ b ∧ b ≤ 1000000) : -200000000 ≤ a * b ∧ a * b ≤ 200000000 := by
 have h1 : a * b ≤ a * 1000000 := Int.mul_le_mul_of_nonneg_left hb.2 (by omega)
 have h2 : a * (-1000000) ≤ a * b := Int.mul_le_mul_of_nonneg_left hb.1 (by omega)
 omega
theorem frontOne_bd {ws : List Wing} {st : List Int} {e sec : Int} {wing : Nat} (h : ∀ w, w ∈ ws → WgV w) (hw : wing < 8) (hs : StV st wing) (hp : 0 ≤ sec ∧ sec ≤ 400000) :
 ∀ m p, p ∈ aheadL ws wing 0 → (-300000000 ≤ m ∧ m ≤ 1152921504606846976) → -300000000 ≤ frontOne ws st e sec m p ∧ frontOne ws st e sec m p ≤ 1152921504606846976 := by
 intro m p hpm hm
 have h1 := aheadL_bd h wing 0 (Int.le_refl _) p hpm
 have h2 := paceW_bd h e p.1
 have h3 := hs.2 p.1 h1.1
 have h4 := mul_bd (a := paceW ws e p.1) (b := sec - stW st p.1) h2 (by omega)
 unfold frontOne
 omega
theorem front_bd {ws : List Wing} {st : List Int} {e sec : Int} {wing : Nat} (h : ∀ w, w ∈ ws → WgV w) (hw : wing < 8) (hs : StV st wing) (hp : 0 ≤ sec ∧ sec ≤ 400000) : -300000000 ≤ frontW ws st e wing sec ∧ frontW ws st e wing sec ≤ 1152921504606846976 := by
 have := accW_inv (ws := ws) (wing := wing) (f := frontOne ws st e sec) (a := 1152921504606846976) (Q := fun m => -300000000 ≤ m ∧ m ≤ 1152921504606846976) (by omega) (frontOne_bd h hw hs hp) 0
 rw [accW_end] at this
 exact this
/-- The gap of a wing in a second. -/
def gapW (ws : List Wing) (st : List Int) (e : Int) (wing : Nat) (sec : Int) : Int := frontW ws st e (wing - 1) sec - lenW ws (wing - 1) - paceW ws (1 - e) wing * (sec - stW st wing)
set_option maxHeartbeats 2000000 in
theorem Search_pc (Y : YEnv) (σ : Sg) (n : Nat) (g : FuncId) (p q : PV) (f : Int → Bool) (hn : n ≤ 2 ^ 40) (hq : ∀ x : Nat, x < n → PC Tryz.prog Y g [I x, p, q] σ (.bool (f x)) σ) :
 PC Tryz.prog Y 217 [I n, .func (.func g) [] [p, q]] σ (I (srch f n 0 n)) (σ) := by
 refine PC_of_W Tryz.func217 rfl (by kernel_rfl) Tryz.ntmps217 (by simp) fun hcl hca => ?_
 obtain ⟨res, hres⟩ : ∃ r, srch f n 0 n = r := ⟨_, rfl⟩
 rw [hres]
 refine W_sr [0, 1] fun R hR => ?_
 simp only [go_sem]
 refine hR _ _ ?_; clear hR R
 try simp only [go_sem]
 refine W_sr [1, 5, 6] fun R hR => ?_
 simp only [go_sem]
 refine hR _ _ ?_; clear hR R
 try simp only [go_sem]
 refine W_seq fun Z3 K3 => ?_
 refine W_block ?_
 refine W_loopS (α := Nat × Nat × Nat) (fun ⟨k, i, j⟩ => [(5, I i), (6, I j)]) (fun ⟨k, i, j⟩ => i ≤ j ∧ j ≤ n ∧ j - i ≤ k ∧ res = srch f k i j) (fun ⟨k, i, j⟩ => j - i) ((n, 0, n)) rfl (⟨Nat.zero_le _, Nat.le_refl _, by omega, hres.symm⟩) ?_
 rintro ⟨k, i, j⟩ ⟨hij, hjn, hk, hinv⟩
 refine W_seq fun Z4 K4 => ?_
 refine W_sr [1, 5, 6, 11] fun R hR => ?_
 simp only [go_sem]
 refine hR _ _ ?_; clear hR R
 try simp only [go_sem]
 refine W_cond rfl (fun c1 => ?_) (fun c1 => ?_)
 ·
  try simp only [nrm] at c1
  have hlt : i < j := by first | assumption | omega
  obtain ⟨k, rfl⟩ : ∃ z, k = z + 1 := ⟨k - 1, by omega⟩
  simp only [srch] at hinv
  rw [if_pos hlt] at hinv
  have hS1 : IntKind.i64.wrap ((i : Int) + (j : Int)) = ((i + j : Nat) : Int) := by rw [wrapI (by omega) (by omega)]; omega
  have hS2 : IntKind.u64.wrap ((i + j : Nat) : Int) = ((i + j : Nat) : Int) := wrapU (by omega) (by omega)
  have hS4 : ((i + j : Nat) : Int).fdiv 2 = (((i + j) / 2 : Nat) : Int) := by rw [Int.fdiv_eq_ediv_of_nonneg _ (by omega)]; omega
  have hS3 : IntKind.i64.wrap (((i + j) / 2 : Nat) : Int) = (((i + j) / 2 : Nat) : Int) := wrapI (by omega) (by omega)
  refine W_skip (K4 _ _ ?_)
  refine W_block ?_
  refine W_sr [1, 5, 6, 7] fun R hR => ?_
  simp only [go_sem, hS1, hS2, hS4, hS3]
  try simp (disch := (first | omega | (simp only [go_sem, List.length_append] <;> omega))) only [wrapI, wrapU, strAdd, slT, slTa, slTb]
  refine hR _ _ ?_; clear hR R
  try simp only [go_sem]
  refine W_sr [1, 5, 6, 7, 21] fun R hR => ?_
  simp only [go_sem]
  refine GCall_of (hq ((i + j) / 2) (by omega)) ?_
  simp only [go_sem]
  refine hR _ _ ?_; clear hR R
  try simp only [go_sem]
  refine W_cond rfl (fun c2 => ?_) (fun c2 => ?_)
  ·
   try simp only [nrm] at c2
   refine W_region [1, 5, 6] fun R hR => ?_
   simp only [go_sem]
   try simp (disch := (first | omega | (simp only [go_sem, List.length_append] <;> omega))) only [wrapI, wrapU, strAdd, slT, slTa, slTb]
   refine hR _ _ ?_; clear hR R
   try simp only [go_sem]
   refine ⟨(k, (i + j) / 2 + 1, j), ?_, by (try simp only []); omega, ?_⟩
   ·first | exact Weak.refl | exact Wqq
   try dsimp only
   rw [if_neg (by rw [c2]; decide)] at hinv
   exact ⟨by omega, hjn, by omega, hinv⟩
  try simp only [nrm] at c2
  refine W_region [1, 5, 6] fun R hR => ?_
  simp only [go_sem]
  refine hR _ _ ?_; clear hR R
  try simp only [go_sem]
  refine ⟨(k, i, (i + j) / 2), ?_, by (try simp only []); omega, ?_⟩
  ·first | exact Weak.refl | exact Wqq
  try dsimp only
  rw [if_pos (by simpa using c2)] at hinv
  exact ⟨by omega, by omega, by omega, hinv⟩
 try simp only [nrm] at c1
 have hge : i = j := by omega
 have hs : srch f k i j = i := by cases k <;> simp [srch, hge]
 rw [hs] at hinv
 refine W_exit ?_
 simp only [go_sem]
 refine K3 _ _ ?_
 refine W_sr [4] fun R hR => ?_
 simp only [go_sem]
 refine hR _ _ ?_; clear hR R
 try simp only [go_sem]
 refine W_ret ?_
 simp only [go_sem]
 refine ⟨.inr (by trivial), ?_⟩
 first | refine Fsa hcl rfl ?_ | refine Fse hcl rfl ?_
 try simp only [go_sem]
 all_goals
  rw [hinv]
set_option maxHeartbeats 8000000 in
theorem front_pc (Y : YEnv) (σ : Sg) (ws : List Wing) (st : List Int) (o : Own) (e : Int) (wing : Nat) (h8 : wing < 8) (hws : ∀ w, w ∈ ws → WgV w) (hwl : wing < ws.length) (hs : StV st wing) (he : e = 0 ∨ e = 1) (sec : Int) (hpl : 0 ≤ sec ∧ sec ≤ 400000) :
 PC Tryz.prog Y 216 [trPV ws st o e, I wing, I sec] σ (I (frontW ws st e wing sec)) (σ) := by
 refine PC_of_W Tryz.func216 rfl (by kernel_rfl) Tryz.ntmps216 (by simp) fun hcl hca => ?_
 have ho : OwnLt σ.rooms.length o := by
  have h := hca (trPV ws st o e) (by simp)
  simp only [go_sem] at h
  first | exact h | exact h.1 | exact h.2.1
 have hacB := accW_inv (ws := ws) (wing := wing) (f := frontOne ws st e sec) (a := 1152921504606846976) (Q := fun m => -300000000 ≤ m ∧ m ≤ 1152921504606846976) (by omega) (frontOne_bd hws h8 hs hpl)
 refine W_sr [1, 3, 5] fun R hR => ?_
 simp only [go_sem]
 refine hR _ _ ?_; clear hR R
 try simp only [go_sem]
 refine W_sr [1, 3, 5, 7] fun R hR => ?_
 simp only [go_sem]
 refine hR _ _ ?_; clear hR R
 try simp only [go_sem]
 refine W_seq fun Z3 K3 => ?_
 refine W_sr [3, 5, 7, 12] fun R hR => ?_
 simp only [go_sem]
 refine GCall_of (ahead_pc Y _ ws st o e wing) ?_
 simp only [go_sem]
 refine hR _ _ ?_; clear hR R
 try simp only [go_sem]
 refine W_block ?_
 let L : Int → List (Option (List PV)) := fun p => [some (trCells ws st o e), some [I sec], some [I p], some (trCells ws st o e), some [I wing]]
 let so : Nat → Sg := fun n => σ.ext (L (accW ws wing (frontOne ws st e sec) 1152921504606846976 n)) [] [.ready]
 refine W_rangeFunc (gf := 262) (v := .tuple []) (s := .ready) (σ5 := so 0) rfl (by simp) (fun args τ b' τ' => ∃ n far, n ≤ wing ∧ (aheadL ws wing 0)[wing - n]? = some (n, far) ∧ args = [I n, I far] ∧ b' = true ∧ τ = so (n + 1) ∧ τ' = so n) ?_ ?_ ?_ ?_ ?_
 ·rintro args τ b τ' ⟨n, far, hn, hp, rfl, rfl, rfl, rfl⟩
  refine ⟨rfl, ?_, ?_⟩
  ·simp only [so, go_sem]
  simp only [so, L, go_sem]
  refine W_sr [3, 5, 7, 8, 14] fun R hR => ?_
  simp only [go_sem, putAll]
  refine hR _ _ ?_; clear hR R
  try simp only [go_sem, putAll]
  refine W_region [3, 5, 7, 8, 9] fun R hR => ?_
  simp only [go_sem, putAll]
  refine hR _ _ ?_; clear hR R
  try simp only [go_sem, putAll]
  obtain ⟨w, hw⟩ : ∃ z, ws[n]? = some z := ⟨ws[n]'(by omega), by simp⟩
  obtain ⟨x, hx⟩ : ∃ z, st[n]? = some z := ⟨st[n]'(by have := hs.1; omega), by simp⟩
  have hsx := stW_at hx
  have hxb := hs.2 n hn
  rw [hsx] at hxb
  have hpb := paceW_bd hws e n
  have hfb := aheadL_bd hws wing 0 (Int.le_refl _) _ (List.mem_of_getElem? hp)
  have hpx := pace_ix hw he
  have he2 : (0 ≤ e ∧ e < 2) = True := eq_true (by omega)
  have hac := accW_step (f := frontOne ws st e sec) (a := 1152921504606846976) hn hp
  have hab := hacB (n + 1)
  obtain ⟨m, hm⟩ : ∃ z, accW ws wing (frontOne ws st e sec) 1152921504606846976 (n + 1) = z := ⟨_, rfl⟩
  rw [hm] at hac hab
  simp only [hm]
  obtain ⟨pc, hpc⟩ : ∃ z, paceW ws e n = z := ⟨_, rfl⟩
  rw [hpc] at hpb hpx
  simp only at hfb
  have htb := mul_bd (a := pc) (b := sec - x) hpb (by omega)
  have hws1 : IntKind.i64.wrap (sec - x) = sec - x := wrapI (by omega) (by omega)
  obtain ⟨q, hq⟩ : ∃ z, pc * (sec - x) = z := ⟨_, rfl⟩
  rw [hq] at htb
  refine W_post_weak ?_
  refine W_block ?_
  refine W_draw [] [0, 1, 2, 3, 4, 5, 6, 7, 8, 9, 10, 11, 12, 13, 14, 15, 16, 17, 18, 19, 20, 21] [(0, 21), (7, 6), (8, 6), (10, 6), (11, 6), (12, 6), (13, 6), (14, 6), (15, 6), (16, 6), (18, 6)] [[], [], [1], [], [1, 2, 3], [1, 2, 3, 4], [1, 2, 3, 4, 5], [], [7], [1, 2, 3, 4, 5, 6, 7, 8], [], [], [11], [], [11, 12, 13], [11, 12, 13, 14], [10, 11, 12, 13, 14, 15], [1, 2, 3, 4, 5, 6, 7, 8, 9, 10, 11, 12, 13, 14, 15, 16], [], [1, 2, 3, 4, 5, 6, 7, 8, 9, 10, 11, 12, 13, 14, 15, 16, 17, 18], [0, 1, 2, 3, 4, 5, 6, 7, 8, 9, 10, 11, 12, 13, 14, 15, 16, 17, 18, 19], [0, 1, 2, 3, 4, 5, 6, 7, 8, 9, 10, 11, 12, 13, 14, 15, 16, 17, 18, 19, 20]] mixed (by kernel_rfl) fun R hR => ?_
  simp only [go_sem, putAll, hw, hpx, he2, hx, hws1, hq]
  refine GCall_of (paces_pc Y _ w) ?_
  simp only [go_sem, putAll, hw, hpx, he2, hx, hws1, hq]
  try simp (disch := (first | omega | (simp only [go_sem, List.length_append] <;> omega))) only [wrapI, wrapU, strAdd, slT, slTa, slTb]
  try refine And.intro (by repeat' (first | refine And.intro ?_ ?_ | exact trivial | exact GOr_right (fun _ => by simp only [go_sem, putAll, hw, hpx, he2, hx, hws1, hq]))) ?_
  refine hR _ _ ?_; clear hR R
  try simp only [go_sem, putAll]
  refine ⟨[], _, Weak.keep [], ?_⟩
  simp only [RoundEnd, so, L, hac, frontOne, hpc, hsx, hq, go_sem]
 ·have hst := ahead1_pc (Y.at σ.ys.length (fun args τ b' τ' => ∃ n far, n ≤ wing ∧ (aheadL ws wing 0)[wing - n]? = some (n, far) ∧ args = [I n, I far] ∧ b' = true ∧ τ = so (n + 1) ∧ τ' = so n)) σ σ.ys.length (σ.store.length + 4) (σ.store.length + 3) wing ws st o e h8 hws hwl so
   (fun k _ => by simp only [so, L]; exact Sg.get_ext ..) (fun k _ => by simp only [so, L]; exact Sg.get_ext ..)
   (fun n far h1 h2 => by rw [YEnv.at_self]; exact ⟨n, far, h1, h2, rfl, rfl, rfl, rfl⟩)
   (by simp only [so, L, go_sem] <;> omega) (by simp only [so, L, go_sem] <;> omega) (by simp only [so, L, go_sem])
   (fun _ => CleanSg_ext hcl (by show CleanLs _ _ _ _; simp only [L, go_sem]; simp [ho]))
  simp only [so, L, accW_start, go_sem] at hst ⊢
  exact hst
 ·simp only [so, L, go_sem]
 ·simp only [go_sem]
  exact CleanCut_ext hcl (by simp only [so, L, go_sem] <;> omega) (by simp only [so, L, go_sem, Nat.le_add_right]) (by omega) (by show CleanLs _ _ _ _; simp only [so, L, go_sem]; simp [ho])
 simp only [AfterLoop, so, L, go_sem]
 simp only [accW_end]
 refine K3 _ _ ?_
 refine W_sr [6] fun R hR => ?_
 simp only [go_sem]
 refine hR _ _ ?_; clear hR R
 try simp only [go_sem]
 refine W_ret ?_
 simp only [go_sem]
 refine ⟨.inr (by trivial), ?_⟩
 first | refine Fsa hcl rfl ?_ | refine Fse hcl rfl ?_
 try simp only [go_sem]
 all_goals
  simp only [frontW]
set_option maxHeartbeats 4000000 in
theorem gap_pc (Y : YEnv) (σ : Sg) (ws : List Wing) (st : List Int) (o : Own) (e : Int) (k : Nat) (h8 : k + 1 < 8) (hws : ∀ w, w ∈ ws → WgV w) (hwl : k + 1 < ws.length) (hs : StV st (k + 1)) (he : e = 0 ∨ e = 1) (sec : Int) (hpl : 0 ≤ sec ∧ sec ≤ 400000) :
 PC Tryz.prog Y 161 [trPV ws st o e, I ((k + 1 : Nat) : Int), I sec] σ (I (gapW ws st e (k + 1) sec)) (σ) := by
 refine PC_of_W Tryz.func161 rfl (by kernel_rfl) Tryz.ntmps161 (by simp) fun hcl hca => ?_
 have ho : OwnLt σ.rooms.length o := by
  have h := hca (trPV ws st o e) (by simp)
  simp only [go_sem] at h
  first | exact h | exact h.1 | exact h.2.1
 have hs2 : StV st k := ⟨by have := hs.1; omega, fun i hi => hs.2 i (by omega)⟩
 obtain ⟨w, hw⟩ : ∃ z, ws[k + 1]? = some z := ⟨ws[k + 1], by simp [hwl]⟩
 obtain ⟨u, hu⟩ : ∃ z, ws[k]? = some z := ⟨ws[k]'(by omega), by simp⟩
 obtain ⟨x, hx⟩ : ∃ z, st[k + 1]? = some z := ⟨st[k + 1]'hs.1, by simp⟩
 have hlu := lenW_at hu
 have hlb := lenW_bd hws k
 have hsx := stW_at hx
 have hxb := hs.2 (k + 1) (Nat.le_refl _)
 rw [hsx] at hxb
 have hpb := paceW_bd hws (1 - e) (k + 1)
 have hpx := pace_ix (e := 1 - e) hw (by omega)
 have he2 : (0 ≤ 1 - e ∧ 1 - e < 2) = True := eq_true (by omega)
 have he1 : IntKind.i64.wrap (1 - e) = 1 - e := wrapI (by omega) (by omega)
 have hj : (((k + 1 : Nat) : Int) - 1) = k := by omega
 have hjw : IntKind.i64.wrap (k : Int) = k := wrapI (by omega) (by omega)
 obtain ⟨pc, hpc⟩ : ∃ z, paceW ws (1 - e) (k + 1) = z := ⟨_, rfl⟩
 rw [hpc] at hpb hpx
 have htb := mul_bd (a := pc) (b := sec - x) hpb (by omega)
 have hws1 : IntKind.i64.wrap (sec - x) = sec - x := wrapI (by omega) (by omega)
 obtain ⟨q, hq⟩ : ∃ z, pc * (sec - x) = z := ⟨_, rfl⟩
 rw [hq] at htb
 have hfb := front_bd (e := e) hws (by omega) hs2 hpl
 obtain ⟨fr, hfr⟩ : ∃ z, frontW ws st e k sec = z := ⟨_, rfl⟩
 rw [hfr] at hfb
 have hgw : gapW ws st e (k + 1) sec = fr - u.len - q := by unfold gapW; rw [Nat.add_sub_cancel, hfr, hlu, hpc, hsx, hq]
 rw [hlu] at hlb
 rw [hgw]
 refine W_sr [1, 2, 3] fun R hR => ?_
 simp only [go_sem]
 refine hR _ _ ?_; clear hR R
 try simp only [go_sem]
 refine W_seq fun Z2 K2 => ?_
 refine W_draw [1, 2, 3, 7] [0, 1, 2, 3, 4, 5, 6, 7, 8, 9, 10] [(6, 5), (7, 5), (8, 5)] [[], [0], [], [0, 1, 2], [0, 1, 2, 3], [0, 1, 2, 3, 4], [], [6], [6, 7], [0, 1, 2, 3, 4, 5, 6, 7, 8], [0, 1, 2, 3, 4, 5, 6, 7, 8, 9]] mixed (by kernel_rfl) fun R hR => ?_
 simp only [go_sem, hw, he1, he2, hpx]
 refine GCall_of (paces_pc Y _ w) ?_
 simp only [go_sem, hw, he1, he2, hpx]
 try simp (disch := (first | omega | (simp only [go_sem, List.length_append] <;> omega))) only [wrapI, wrapU, strAdd, slT, slTa, slTb]
 try refine And.intro (by repeat' (first | refine And.intro ?_ ?_ | exact trivial | exact GOr_right (fun _ => by simp only [go_sem, hw, he1, he2, hpx]))) ?_
 refine hR _ _ (K2 _ _ ?_); clear hR R; try clear K2 Z2
 try simp only [go_sem]
 refine W_seq fun Z3 K3 => ?_
 refine W_draw [6] [0, 1, 2, 3, 4, 5, 6, 7, 8, 9, 10, 11, 12, 13, 14, 15, 16, 17, 18, 19, 20, 21, 22, 23] [(5, 4), (6, 4), (7, 4), (8, 4), (9, 4), (10, 4), (11, 4), (13, 4), (14, 4), (15, 4), (16, 4), (17, 4), (18, 4), (19, 4), (20, 4), (21, 4)] [[], [], [1], [], [0, 1, 2, 3], [], [5], [], [7], [5, 6, 7, 8], [5, 6, 7, 8, 9], [5, 6, 7, 8, 9, 10], [0, 1, 2, 3, 4, 5, 6, 7, 8, 9, 10, 11], [], [], [], [15], [], [15, 16, 17], [15, 16, 17, 18], [14, 15, 16, 17, 18, 19], [13, 14, 15, 16, 17, 18, 19, 20], [0, 1, 2, 3, 4, 5, 6, 7, 8, 9, 10, 11, 12, 13, 14, 15, 16, 17, 18, 19, 20, 21], [0, 1, 2, 3, 4, 5, 6, 7, 8, 9, 10, 11, 12, 13, 14, 15, 16, 17, 18, 19, 20, 21, 22]] mixed (by kernel_rfl) fun R hR => ?_
 simp only [go_sem, hj, hjw, hu, hx, hws1, hq]
 try simp (disch := (first | omega | (simp only [go_sem, List.length_append] <;> omega))) only [wrapI, wrapU, strAdd, slT, slTa, slTb]
 refine GCall_of (PC.val (v' := I fr) (front_pc Y _ ws st o e k (by omega) hws (by omega) hs2 he sec hpl) (by rw [hfr])) ?_
 simp only [go_sem, hj, hjw, hu, hx, hws1, hq]
 try simp (disch := (first | omega | (simp only [go_sem, List.length_append] <;> omega))) only [wrapI, wrapU, strAdd, slT, slTa, slTb]
 try refine And.intro (by repeat' (first | refine And.intro ?_ ?_ | exact trivial | exact GOr_right (fun _ => by simp only [go_sem, hj, hjw, hu, hx, hws1, hq]))) ?_
 refine hR _ _ (K3 _ _ ?_); clear hR R; try clear K3 Z3
 try simp only [go_sem]
 refine W_ret ?_
 simp only [go_sem]
 refine ⟨.inr (by trivial), ?_⟩
 first | refine Fsa hcl rfl ?_ | refine Fse hcl rfl ?_
 try simp only [go_sem]
 all_goals
  first | rfl | (congr 1; omega)
set_option maxHeartbeats 2000000 in
theorem peak1_pc (Y : YEnv) (σ : Sg) (i1 i2 : Nat) (lo : Int) (g : FuncId) (p q : PV) (f : Int → Int) (hd1 : σ.store[i1]? = some (some [.func (.func g) [] [p, q]])) (hd2 : σ.store[i2]? = some (some [I lo])) (x : Nat) (hx : x ≤ 2 ^ 30) (hlo : 0 ≤ lo ∧ lo ≤ 2 ^ 30) (h1 : PC Tryz.prog Y g [I (lo + x + 1), p, q] σ (I (f (lo + x + 1))) σ) (h2 : PC Tryz.prog Y g [I (lo + x), p, q] σ (I (f (lo + x))) σ) :
 PC Tryz.prog Y 218 [I x, .ptr i1 0, .ptr i2 0] σ (.bool (decide (f (lo + x + 1) ≤ f (lo + x)))) (σ) := by
 refine PC_of_W Tryz.func218 rfl (by kernel_rfl) Tryz.ntmps218 (by simp) fun hcl hca => ?_
 have hw1 : IntKind.i64.wrap (lo + x) = lo + x := wrapI (by omega) (by omega)
 have hw2 : IntKind.i64.wrap (lo + x + 1) = lo + x + 1 := wrapI (by omega) (by omega)
 refine W_sr [0, 1, 2] fun R hR => ?_
 simp only [go_sem, ldS_at hd1, ldS_at hd2, hw1, hw2]
 refine hR _ _ ?_; clear hR R
 try simp only [go_sem, ldS_at hd1, ldS_at hd2, hw1, hw2]
 refine W_seq fun Z2 K2 => ?_
 refine W_draw [4] [0, 1, 2, 3, 4, 5, 6, 7, 8, 9, 10, 11, 12] [(6, 5), (7, 5), (8, 5), (9, 5)] [[], [], [], [1, 2], [1, 2, 3], [0, 1, 2, 3, 4], [], [], [], [7, 8], [0, 1, 2, 3, 4, 5, 6, 7, 8, 9], [0, 1, 2, 3, 4, 5, 6, 7, 8, 9, 10], [0, 1, 2, 3, 4, 5, 6, 7, 8, 9, 10, 11]] mixed (by kernel_rfl) fun R hR => ?_
 simp only [go_sem, ldS_at hd1, ldS_at hd2, hw1, hw2]
 try simp (disch := (first | omega | (simp only [go_sem, List.length_append] <;> omega))) only [wrapI, wrapU, strAdd, slT, slTa, slTb]
 refine GCall_of (h1) ?_
 simp only [go_sem, ldS_at hd1, ldS_at hd2, hw1, hw2]
 try simp (disch := (first | omega | (simp only [go_sem, List.length_append] <;> omega))) only [wrapI, wrapU, strAdd, slT, slTa, slTb]
 refine GCall_of (h2) ?_
 simp only [go_sem, ldS_at hd1, ldS_at hd2, hw1, hw2]
 try simp (disch := (first | omega | (simp only [go_sem, List.length_append] <;> omega))) only [wrapI, wrapU, strAdd, slT, slTa, slTb]
 try refine And.intro (by repeat' (first | refine And.intro ?_ ?_ | exact trivial | exact GOr_right (fun _ => by simp only [go_sem, ldS_at hd1, ldS_at hd2, hw1, hw2]))) ?_
 refine hR _ _ (K2 _ _ ?_); clear hR R; try clear K2 Z2
 try simp only [go_sem, ldS_at hd1, ldS_at hd2, hw1, hw2]
 refine W_ret ?_
 simp only [go_sem, ldS_at hd1, ldS_at hd2, hw1, hw2]
 refine ⟨.inr (by trivial), ?_⟩
 first | refine Fsa hcl rfl ?_ | refine Fse hcl rfl ?_
 try simp only [go_sem]
 all_goals
  first | rfl | (simp_all; done) | (simp_all; omega)
set_option maxHeartbeats 2000000 in
theorem peak_pc (Y : YEnv) (σ : Sg) (lo hi : Int) (hlo : 0 ≤ lo ∧ lo ≤ 400000) (hhi : 0 ≤ hi ∧ hi ≤ 400000) (g : FuncId) (p q : PV) (f : Int → Int) (hq : ∀ (x : Int) (l : List (Option (List PV))), lo ≤ x → x < hi → PC Tryz.prog Y g [I x, p, q] (σ.ext l []) (I (f x)) (σ.ext l [])) :
 PC Tryz.prog Y 162 [I lo, I hi, .func (.func g) [] [p, q]] σ (I (lo + srch (fun i => decide (f (lo + i + 1) ≤ f (lo + i))) (hi - 1 - lo).toNat 0 (hi - 1 - lo).toNat)) (σ) := by
 refine PC_of_W Tryz.func162 rfl (by kernel_rfl) Tryz.ntmps162 (by simp) fun hcl hca => ?_
 obtain ⟨n, hn⟩ : ∃ z, (hi - 1 - lo).toNat = z := ⟨_, rfl⟩
 rw [hn]
 have hmx : max 0 (hi - 1 - lo) = (n : Int) := by omega
 have hmx2 : (if hi - 1 - lo ≤ 0 then 0 else hi - 1 - lo) = (n : Int) := by split <;> omega
 have hw1 : IntKind.i64.wrap (hi - 1) = hi - 1 := wrapI (by omega) (by omega)
 have hw2 : IntKind.i64.wrap (hi - 1 - lo) = hi - 1 - lo := wrapI (by omega) (by omega)
 have hsb := srch_bd (fun i => decide (f (lo + i + 1) ≤ f (lo + i))) n 0 n (Nat.zero_le _)
 obtain ⟨m, hm⟩ : ∃ z, srch (fun i => decide (f (lo + i + 1) ≤ f (lo + i))) n 0 n = z := ⟨_, rfl⟩
 rw [hm] at hsb
 rw [hm]
 refine W_sr [1, 3, 5] fun R hR => ?_
 simp only [go_sem, hw1, hw2, hmx]
 refine hR _ _ ?_; clear hR R
 try simp only [go_sem, hw1, hw2, hmx]
 refine W_seq fun Z2 K2 => ?_
 refine W_draw [6] [0, 1, 2, 3, 4, 5, 6, 7, 8, 9] [(0, 10)] [[], [], [1], [], [1, 2, 3], [1, 2, 3, 4], [], [1, 2, 3, 4, 5, 6], [0, 1, 2, 3, 4, 5, 6, 7], [0, 1, 2, 3, 4, 5, 6, 7, 8]] mixed (by kernel_rfl) fun R hR => ?_
 simp only [go_sem, hw1, hw2, hmx]
 try simp (disch := (first | omega | (simp only [go_sem, List.length_append] <;> omega))) only [wrapI, wrapU, strAdd, slT, slTa, slTb]
 refine GCall_of (PC.val (v' := I m) (Search_pc Y _ n 218 _ _ (fun i => decide (f (lo + i + 1) ≤ f (lo + i))) (by omega) (fun x hx => peak1_pc Y _ _ _ lo g p q f (Sg.get_ext (k := 1) ..) (Sg.get_ext0 ..) x (by omega) (by omega) (hq _ _ (by omega) (by omega)) (hq _ _ (by omega) (by omega)))) (by rw [hm])) ?_
 simp only [go_sem, hw1, hw2, hmx]
 try simp (disch := (first | omega | (simp only [go_sem, List.length_append] <;> omega))) only [wrapI, wrapU, strAdd, slT, slTa, slTb]
 try refine And.intro (by repeat' (first | refine And.intro ?_ ?_ | exact trivial | exact GOr_right (fun _ => by simp only [go_sem, hw1, hw2, hmx]))) ?_
 refine hR _ _ (K2 _ _ ?_); clear hR R; try clear K2 Z2
 try simp only [go_sem, hw1, hw2, hmx]
 refine W_ret ?_
 simp only [go_sem, hw1, hw2, hmx]
 refine ⟨.inr (by trivial), ?_⟩
 first | refine Fsa hcl rfl ?_ | refine Fse hcl rfl ?_
 try simp only [go_sem]
 all_goals
  first | rfl | (simp_all; done) | (simp_all; omega)
structure Wide where
 wing : Int
 sec : Int
 gap : Int
def wdCells (w : Wide) : List PV := [I w.wing, I w.sec, I w.gap]
def wdPV (w : Wide) : PV := .agg (wdCells w)
theorem cleans_wd {a b c : Nat} (w : Wide) : ∀ p, p ∈ wdCells w → Clean a b c p := Clean.all_cons (.int _ _) (Clean.all_cons (.int _ _) (Clean.all_cons (.int _ _) Clean.all_nil))
theorem okC_wd {xs : List Wide} : okC 3 (xs.map wdPV) = True := okC_map fun x => by simp [okC, wdPV, wdCells, PV.cells, PV.scalar]
theorem roL_wd {xs : List Wide} : PV.roL (xs.map wdPV) = xs.map wdPV := roL_enc fun x => by simp only [wdPV, wdCells, ro_agg, roL_cons, roL_nil, ro_int, PV.ro]
theorem cA_wd {a b c : Nat} {xs : List Wide} : CleanAll a b c (xs.map wdPV) = True := CleanAll_map fun w => .agg _ (cleans_wd w)
attribute [go_sem] okC_wd roL_wd cA_wd wdPV wdCells
/-- The widest gap of the wing after one. -/
def widestW (s : School) (st : List Int) (e : Int) (k : Nat) : Wide :=
 if stW st (k + 1) ≥ clearW s.wings st 1 k s.route then ⟨-1, -1, 0⟩
 else
  let n := (clearW s.wings st 1 k s.route - 1 - stW st (k + 1)).toNat
  let a := stW st (k + 1) + srch (fun i => decide (gapW s.wings st e (k + 1) (stW st (k + 1) + i + 1) ≤ gapW s.wings st e (k + 1) (stW st (k + 1) + i))) n 0 n
  ⟨((k + 1 : Nat) : Int), a, gapW s.wings st e (k + 1) a⟩
def bestW : Wide → List Wide → Wide
 | a, [] => a
 | a, x :: l => if x.gap > a.gap then bestW x l else bestW a l
def widestAll (s : School) (st : List Int) : Wide := bestW ⟨-1, -1, 0⟩ ((List.range (s.wings.length - 1)).map (widestW s st 1))
theorem clear_bdk {s : School} {st : List Int} {k : Nat} (hV : ShV s) (h8 : k < 8) (hs : StV st k) (e : Int) : 0 ≤ clearW s.wings st e k s.route ∧ clearW s.wings st e k s.route ≤ 300000 := by
 have hrt := hV.rt
 have hlb := lenW_bd hV.wv k
 have h := accW_inv (ws := s.wings) (wing := k) (f := passOne s.wings st e (s.route + lenW s.wings k)) (a := stW st k) (Q := fun m => 0 ≤ m ∧ m ≤ 300000) (by have := hs.2 _ (Nat.le_refl _); omega) (passOne_bd hV.wv h8 hs (by omega)) 0
 rw [accW_end] at h
 exact h
set_option maxHeartbeats 2000000 in
theorem widest1_pc (Y : YEnv) (σ : Sg) (s : School) (st : List Int) (o : Own) (e : Int) (k : Nat) (hV : ShV s) (hwl : k + 1 < s.wings.length) (hs : StV st (k + 1)) (he : e = 0 ∨ e = 1) (i1 i2 : Nat) (hd1 : σ.store[i1]? = some (some (trCells s.wings st o e))) (hd2 : σ.store[i2]? = some (some [I ((k + 1 : Nat) : Int)])) (x : Int) (hx : 0 ≤ x ∧ x ≤ 400000) :
 PC Tryz.prog Y 160 [I x, .ptr i1 0, .ptr i2 0] σ (I (gapW s.wings st e (k + 1) x)) (σ) := by
 refine PC_of_W Tryz.func160 rfl (by kernel_rfl) Tryz.ntmps160 (by simp) fun hcl hca => ?_
 have h8 := hV.wl
 refine W_sr [0, 1, 2] fun R hR => ?_
 simp only [go_sem, ldA_at hd1, ldS_at hd1, ldS_at hd2]
 refine hR _ _ ?_; clear hR R
 try simp only [go_sem, ldA_at hd1, ldS_at hd1, ldS_at hd2]
 refine W_sr [4] fun R hR => ?_
 simp only [go_sem, ldA_at hd1, ldS_at hd1, ldS_at hd2]
 refine GCall_of (gap_pc Y _ s.wings st o e k (by omega) hV.wv hwl hs he x hx) ?_
 simp only [go_sem, ldA_at hd1, ldS_at hd1, ldS_at hd2]
 refine hR _ _ ?_; clear hR R
 try simp only [go_sem, ldA_at hd1, ldS_at hd1, ldS_at hd2]
 refine W_ret ?_
 simp only [go_sem, ldA_at hd1, ldS_at hd1, ldS_at hd2]
 refine ⟨.inr (by trivial), ?_⟩
 first | refine Fsa hcl rfl ?_ | refine Fse hcl rfl ?_
 try simp only [go_sem]
 all_goals
  first | rfl | (simp_all; done) | (simp_all; omega)
set_option maxHeartbeats 4000000 in
theorem widest_pc (Y : YEnv) (σ : Sg) (s : School) (st : List Int) (o : Own) (e : Int) (k : Nat) (hV : ShV s) (hwl : k + 1 < s.wings.length) (hs : StV st (k + 1)) (he : e = 0 ∨ e = 1) :
 PC Tryz.prog Y 101 [shPV s, trPV s.wings st o e, I ((k + 1 : Nat) : Int)] σ (wdPV (widestW s st e k)) (σ) := by
 refine PC_of_W Tryz.func101 rfl (by kernel_rfl) Tryz.ntmps101 (by simp) fun hcl hca => ?_
 have ho : OwnLt σ.rooms.length o := by
  have h := hca (trPV s.wings st o e) (by simp)
  simp only [go_sem] at h
  first | exact h | exact h.1 | exact h.2.1
 have h8 := hV.wl
 have hs2 : StV st k := ⟨by have := hs.1; omega, fun i hi => hs.2 i (by omega)⟩
 obtain ⟨x, hx⟩ : ∃ z, st[k + 1]? = some z := ⟨st[k + 1]'hs.1, by simp⟩
 have hsx := stW_at hx
 have hxb := hs.2 (k + 1) (Nat.le_refl _)
 rw [hsx] at hxb
 have hj : (((k + 1 : Nat) : Int) - 1) = k := by omega
 have hjw : IntKind.i64.wrap (k : Int) = k := wrapI (by omega) (by omega)
 have hcb := clear_bdk hV (by omega) hs2 1
 have hrt := hV.rt
 obtain ⟨res, hres⟩ : ∃ z, widestW s st e k = z := ⟨_, rfl⟩
 rw [hres]
 unfold widestW at hres
 rw [hsx] at hres
 obtain ⟨c, hc⟩ : ∃ z, clearW s.wings st 1 k s.route = z := ⟨_, rfl⟩
 rw [hc] at hres hcb
 have hsb := srch_bd (fun i => decide (gapW s.wings st e (k + 1) (x + i + 1) ≤ gapW s.wings st e (k + 1) (x + i))) (c - 1 - x).toNat 0 (c - 1 - x).toNat (Nat.zero_le _)
 obtain ⟨m, hm⟩ : ∃ z, srch (fun i => decide (gapW s.wings st e (k + 1) (x + i + 1) ≤ gapW s.wings st e (k + 1) (x + i))) (c - 1 - x).toNat 0 (c - 1 - x).toNat = z := ⟨_, rfl⟩
 rw [hm] at hsb
 simp only [hm] at hres
 refine W_sr [3, 4, 5, 6] fun R hR => ?_
 simp only [go_sem]
 refine hR _ _ ?_; clear hR R
 try simp only [go_sem]
 refine W_seq fun Z2 K2 => ?_
 refine W_draw [4, 5, 6, 7, 8] [0, 1, 2, 3, 4, 5, 6, 7, 8, 9, 10, 11, 12, 13, 14, 15] [(0, 13), (0, 16), (1, 13), (1, 16), (2, 13), (2, 16), (3, 13), (3, 16), (4, 13), (4, 16), (9, 8), (10, 8), (11, 8), (12, 8)] [[], [0], [], [0, 1, 2], [0, 1, 2, 3], [], [], [6], [5, 6, 7], [], [9], [], [11], [5, 6, 7, 8, 9, 10, 11, 12], [0, 1, 2, 3, 4, 5, 6, 7, 8, 9, 10, 11, 12, 13], [0, 1, 2, 3, 4, 5, 6, 7, 8, 9, 10, 11, 12, 13, 14]] mixed (by kernel_rfl) fun R hR => ?_
 simp only [go_sem, hx, hj, hjw, eq_true ho]
 refine GCall_of (truthOf_pc Y _ s st o 1) ?_
 simp only [go_sem, hx, hj, hjw, eq_true ho]
 try simp (disch := (first | omega | (simp only [go_sem, List.length_append] <;> omega))) only [wrapI, wrapU, strAdd, slT, slTa, slTb]
 refine GCall_of (PC.val (v' := I c) (clear_pc Y _ s.wings st o 1 k (by omega) hV.wv (by omega) hs2 (.inr rfl) s.route (by omega)) (by rw [hc])) ?_
 simp only [go_sem, hx, hj, hjw, eq_true ho]
 try simp (disch := (first | omega | (simp only [go_sem, List.length_append] <;> omega))) only [wrapI, wrapU, strAdd, slT, slTa, slTb]
 try refine And.intro (by repeat' (first | refine And.intro ?_ ?_ | exact trivial | exact GOr_right (fun _ => by simp only [go_sem, hx, hj, hjw, eq_true ho]))) ?_
 refine hR _ _ (K2 _ _ ?_); clear hR R; try clear K2 Z2
 try simp only [go_sem]
 refine W_seq fun Z3 K3 => ?_
 refine W_sr [4, 5, 6, 7, 8, 27] fun R hR => ?_
 simp only [go_sem]
 refine hR _ _ ?_; clear hR R
 try simp only [go_sem]
 refine W_cond rfl (fun c1 => ?_) (fun c1 => ?_)
 ·
  try simp only [nrm] at c1
  refine W_sr [6] fun R hR => ?_
  simp only [go_sem]
  refine hR _ _ ?_; clear hR R
  try simp only [go_sem]
  refine W_ret ?_
  simp only [go_sem]
  refine ⟨.inr (by trivial), ?_⟩
  first | refine Fin_same hcl (by show resPV Tryz.prog _ _ [.cell 6 112] = some _; simp only [resPV, go_sem]; rfl) (Wk_eq ?_ (by simp only [go_sem])) | refine Fin_same hcl rfl (Wk_eq ?_ (by simp only [go_sem]))
  try simp only [go_sem]
  all_goals
   rw [if_pos (by omega)] at hres
   rw [← hres]; first | done | rfl
 try simp only [nrm] at c1
 refine W_skip (K3 _ _ ?_)
 refine W_sr [5, 6, 7, 8, 9] fun R hR => ?_
 simp only [go_sem]
 refine hR _ _ ?_; clear hR R
 try simp only [go_sem]
 refine W_sr [5, 6, 9, 10] fun R hR => ?_
 simp only [go_sem]
 refine GCall_of (PC.val (v' := I (x + m)) (peak_pc Y _ x c (by omega) (by omega) 160 _ _ (gapW s.wings st e (k + 1)) (fun y l h1 h2 => widest1_pc Y _ s st o e k hV hwl hs he _ _ (get_extx (Sg.get_ext (k := 1) ..)) (get_extx (Sg.get_ext (k := 2) ..)) y (by omega))) (by rw [hm])) ?_
 simp only [go_sem]
 refine hR _ _ ?_; clear hR R
 try simp only [go_sem]
 refine W_seq fun Z8 K8 => ?_
 refine W_draw [6] [0, 1, 2, 3, 4, 5, 6] [(0, 6), (1, 6)] [[], [], [], [], [2, 3], [0, 1, 2, 3, 4], [0, 1, 2, 3, 4, 5]] mixed (by kernel_rfl) fun R hR => ?_
 simp only [go_sem]
 refine GCall_of (widest1_pc Y _ s st o e k hV hwl hs he _ _ (Sg.get_ext (k := 1) ..) (Sg.get_ext (k := 2) ..) (x + m) (by omega)) ?_
 simp only [go_sem]
 try refine And.intro (by repeat' (first | refine And.intro ?_ ?_ | exact trivial | exact GOr_right (fun _ => by simp only [go_sem]))) ?_
 refine hR _ _ (K8 _ _ ?_); clear hR R; try clear K8 Z8
 try simp only [go_sem]
 refine W_ret ?_
 simp only [go_sem]
 refine ⟨.inr (by trivial), ?_⟩
 first | refine Fin_same hcl (by show resPV Tryz.prog _ _ [.cell 6 112] = some _; simp only [resPV, go_sem]; rfl) (Wk_eq ?_ (by simp only [go_sem])) | refine Fin_same hcl rfl (Wk_eq ?_ (by simp only [go_sem]))
 try simp only [go_sem]
 all_goals
  rw [if_neg (by omega)] at hres
  rw [← hres]; first | done | rfl
set_option maxHeartbeats 2000000 in
theorem more_pc (Y : YEnv) (σ : Sg) (a b : Wide) :
 PC Tryz.prog Y 103 [wdPV a, wdPV b] σ (.bool (decide (a.gap > b.gap))) (σ) := by
 refine PC_of_W Tryz.func103 rfl (by kernel_rfl) Tryz.ntmps103 (by simp) fun hcl hca => ?_
 refine W_sr [2, 3] fun R hR => ?_
 simp only [go_sem]
 refine hR _ _ ?_; clear hR R
 try simp only [go_sem]
 refine W_sr [4] fun R hR => ?_
 simp only [go_sem]
 refine hR _ _ ?_; clear hR R
 try simp only [go_sem]
 refine W_ret ?_
 simp only [go_sem]
 refine ⟨.inr (by trivial), ?_⟩
 first | refine Fsa hcl rfl ?_ | refine Fse hcl rfl ?_
 try simp only [go_sem]
 all_goals
  first | rfl | (simp_all; done) | (simp_all; omega)
set_option maxHeartbeats 2000000 in
theorem best_pc (Y : YEnv) (σ : Sg) (a : Wide) (l : List Wide) (o : Own) (hl : l.length < 2 ^ 40) :
 PC Tryz.prog Y 102 [wdPV a, .isl (l.map wdPV) o, .func (.func 103) [] []] σ (wdPV (bestW a l)) (σ) := by
 refine PC_of_W Tryz.func102 rfl (by kernel_rfl) Tryz.ntmps102 (by simp) fun hcl hca => ?_
 have ho : OwnLt σ.rooms.length o := by
  have h := hca (.isl (l.map wdPV) o) (by simp)
  cases h
  assumption
 obtain ⟨res, hres⟩ : ∃ r, bestW a l = r := ⟨_, rfl⟩
 rw [hres]
 refine W_sr [1, 2, 3, 6] fun R hR => ?_
 simp only [go_sem]
 refine hR _ _ ?_; clear hR R
 try simp only [go_sem]
 refine W_seq fun Z2 K2 => ?_
 refine W_sr [2, 3, 6, 9, 10, 11] fun R hR => ?_
 simp only [go_sem]
 refine hR _ _ ?_; clear hR R
 try simp only [go_sem]
 refine W_block ?_
 refine W_loopT (α := Nat × Wide) (fun ⟨i, acc⟩ => [(11, I i)]) (fun ⟨i, acc⟩ => σ.ext [some (wdCells acc), some [.int .i64 0, .int .i64 0, .int .i64 0]] []) (fun ⟨i, acc⟩ => i ≤ l.length ∧ res = bestW acc (l.drop i)) (fun ⟨i, acc⟩ => l.length - i) ((0, a)) rfl (by first | rfl | (simp only [go_sem]; done) | (simp only [go_sem]; rfl)) (⟨Nat.zero_le _, hres.symm⟩) ?_
 rintro ⟨i, acc⟩ ⟨hi, hinv⟩
 refine W_sr [2, 3, 6, 9, 10, 11, 12] fun R hR => ?_
 simp only [go_sem]
 refine hR _ _ ?_; clear hR R
 try simp only [go_sem]
 refine W_seq fun Z5 K5 => ?_
 refine W_cond rfl (fun c1 => ?_) (fun c1 => ?_)
 ·
  try simp only [nrm] at c1
  have hi' : i < l.length := by first | assumption | omega
  obtain ⟨x, hx⟩ : ∃ x, l[i]? = some x := ⟨l[i], by simp [hi']⟩
  have hdrop : l.drop i = x :: l.drop (i + 1) := by
   rw [List.drop_eq_getElem_cons hi']; congr 1; exact (List.getElem?_eq_some_iff.1 hx).2
  rw [hdrop] at hinv
  simp only [bestW] at hinv
  refine W_skip (K5 _ _ ?_)
  refine W_seq fun Z6 K6 => ?_
  refine W_block ?_
  refine W_sr [2, 3, 6, 8, 9, 10, 11] fun R hR => ?_
  simp only [go_sem, hx]
  refine hR _ _ ?_; clear hR R
  try simp only [go_sem, hx]
  refine W_sr [2, 3, 6, 8, 9, 10, 11, 18] fun R hR => ?_
  simp only [go_sem, hx]
  refine GCall_of (more_pc Y _ x acc) ?_
  simp only [go_sem, hx]
  refine hR _ _ ?_; clear hR R
  try simp only [go_sem, hx]
  refine W_cond rfl (fun c2 => ?_) (fun c2 => ?_)
  ·
   try simp only [nrm] at c2
   refine W_region [2, 3, 6, 9, 10, 11] fun R hR => ?_
   simp only [go_sem, hx]
   refine hR _ _ (K6 _ _ ?_); clear hR R; try clear K6 Z6
   try simp only [go_sem, hx]
   refine W_region [2, 3, 6, 9, 10, 11] fun R hR => ?_
   simp only [go_sem, hx]
   try simp (disch := (first | omega | (simp only [go_sem, List.length_append] <;> omega))) only [wrapI, wrapU, strAdd, slT, slTa, slTb]
   refine hR _ _ ?_; clear hR R
   try simp only [go_sem, hx]
   refine ⟨(i + 1, x), ?_, by (try simp only []); omega, ?_⟩
   ·refine Weak.trans (Weak.cutX 2 0 (by omega) (by omega) hcl (by simp only [go_sem, eq_true ho] <;> omega) (by simp only [go_sem, eq_true ho] <;> omega)) ?_
    simp only [go_sem]
    first | exact Weak.refl | exact Weak.eq rfl rfl
   try dsimp only
   rw [if_pos (by omega)] at hinv
   exact ⟨by omega, hinv⟩
  try simp only [nrm] at c2
  refine W_skip (K6 _ _ ?_)
  refine W_region [2, 3, 6, 9, 10, 11] fun R hR => ?_
  simp only [go_sem, hx]
  try simp (disch := (first | omega | (simp only [go_sem, List.length_append] <;> omega))) only [wrapI, wrapU, strAdd, slT, slTa, slTb]
  refine hR _ _ ?_; clear hR R
  try simp only [go_sem, hx]
  refine ⟨(i + 1, acc), ?_, by (try simp only []); omega, ?_⟩
  ·refine Weak.trans (Weak.cutX 2 0 (by omega) (by omega) hcl (by simp only [go_sem, eq_true ho] <;> omega) (by simp only [go_sem, eq_true ho] <;> omega)) ?_
   simp only [go_sem]
   first | exact Weak.refl | exact Weak.eq rfl rfl
  try dsimp only
  rw [if_neg (by omega)] at hinv
  exact ⟨by omega, hinv⟩
 try simp only [nrm] at c1
 have hdrop : l.drop i = [] := List.drop_eq_nil_of_le (by omega)
 rw [hdrop] at hinv
 simp only [bestW] at hinv
 refine W_exit ?_
 simp only [go_sem]
 refine K2 _ _ ?_
 refine W_sr [6] fun R hR => ?_
 simp only [go_sem]
 refine hR _ _ ?_; clear hR R
 try simp only [go_sem]
 refine W_ret ?_
 simp only [go_sem]
 refine ⟨.inr (by trivial), ?_⟩
 first | refine Fin_same hcl (by show resPV Tryz.prog _ _ [.cell 6 112] = some _; simp only [resPV, go_sem]; rfl) (Wk_eq ?_ (by simp only [go_sem])) | refine Fin_same hcl rfl (Wk_eq ?_ (by simp only [go_sem]))
 try simp only [go_sem]
 all_goals
  rw [hinv]; first | done | rfl
theorem range_snocW (f : Nat → Wide) (n : Nat) : (List.range (n + 1)).map f = (List.range n).map f ++ [f n] := by
 rw [List.range_succ, List.map_append]; rfl
set_option maxHeartbeats 4000000 in
theorem widestOf_pc (Y : YEnv) (σ : Sg) (s : School) (st : List Int) (o : Own) (hV : ShV s) (hs : StV st (s.wings.length - 1)) :
 PC Tryz.prog Y 45 [shPV s, intsO o st] σ (wdPV (widestAll s st)) (σ) := by
 refine PC_of_W Tryz.func45 rfl (by kernel_rfl) Tryz.ntmps45 (by simp) fun hcl hca => ?_
 have ho : OwnLt σ.rooms.length o := by
  have h := hca (intsO o st) (by simp)
  cases h
  assumption
 have h8 := hV.wl
 obtain ⟨res, hres⟩ : ∃ z, widestAll s st = z := ⟨_, rfl⟩
 rw [hres]
 refine W_sr [1, 2, 4] fun R hR => ?_
 simp only [go_sem, eq_true ho]
 refine hR _ _ ?_; clear hR R
 try simp only [go_sem, eq_true ho]
 refine W_sr [2, 4, 5] fun R hR => ?_
 simp only [go_sem, eq_true ho]
 refine GCall_of (truthOf_pc Y _ s st o 1) ?_
 simp only [go_sem, eq_true ho]
 refine hR _ _ ?_; clear hR R
 try simp only [go_sem, eq_true ho]
 refine W_sr [2, 4, 5, 6] fun R hR => ?_
 simp only [go_sem, eq_true ho]
 refine hR _ _ ?_; clear hR R
 try simp only [go_sem, eq_true ho]
 refine W_seq fun Z4 K4 => ?_
 refine W_sr [2, 4, 5, 6, 7] fun R hR => ?_
 simp only [go_sem, eq_true ho]
 refine hR _ _ ?_; clear hR R
 try simp only [go_sem, eq_true ho]
 refine W_block ?_
 refine W_weak (Weak.room (t := 6) (es := 3) rfl (by simp)) ?_
 refine W_weak (Weak.keep [2, 4, 5, 6, 7]) ?_
 simp only [go_sem, eq_true ho]
 refine W_loopT (α := (List Wide)) (fun (out : List Wide) => [(6, .isl (out.map wdPV) (.tok σ.rooms.length out.length 3)), (7, I ((out.length + 1 : Nat) : Int))]) (fun (out : List Wide) => σ.ext [some (shCells s), some [.int .i64 0, .int .i64 0, .int .i64 0], some (trCells s.wings st o 1)] [out.length]) (fun (out : List Wide) => out.length + 1 ≤ s.wings.length ∧ out = (List.range out.length).map (widestW s st 1)) (fun (out : List Wide) => s.wings.length - out.length) ([]) rfl (by first | rfl | (simp only [go_sem]; done) | (simp only [go_sem]; rfl)) (⟨by simp; omega, rfl⟩) ?_
 rintro out ⟨hi, hinv⟩
 refine W_seq fun Z6 K6 => ?_
 refine W_sr [2, 4, 5, 6, 7, 15] fun R hR => ?_
 simp only [go_sem, eq_true ho]
 refine hR _ _ ?_; clear hR R
 try simp only [go_sem, eq_true ho]
 refine W_cond rfl (fun c1 => ?_) (fun c1 => ?_)
 ·
  try simp only [nrm] at c1
  have hi' : out.length + 1 < s.wings.length := by omega
  obtain ⟨x, hx⟩ : ∃ z, widestW s st 1 out.length = z := ⟨_, rfl⟩
  have hxl : (out ++ [x]).length = out.length + 1 := by simp
  refine W_skip (K6 _ _ ?_)
  refine W_seq fun Z8 K8 => ?_
  refine W_block ?_
  refine W_region [2, 4, 5, 6, 7] fun R hR => ?_
  simp only [go_sem, eq_true ho, hx]
  refine GCall_of (widest_pc Y _ s st o 1 out.length hV (by omega) ⟨by have := hs.1; omega, fun i hi => hs.2 i (by omega)⟩ (.inr rfl)) ?_
  simp only [go_sem, eq_true ho, hx]
  try simp (disch := (first | omega | (simp only [go_sem, List.length_append] <;> omega))) only [wrapI, wrapU, appX_exact, appX_tok, strAdd, slT, slTa, slTb]
  try simp only [go_sem, eq_true ho, hx]
  refine hR _ _ (K8 _ _ ?_); clear hR R; try clear K8 Z8
  try simp only [go_sem, eq_true ho, hx]
  refine W_region [2, 4, 5, 6, 7] fun R hR => ?_
  simp only [go_sem, eq_true ho, hx]
  try simp (disch := (first | omega | (simp only [go_sem, List.length_append] <;> omega))) only [wrapI, wrapU, strAdd, slT, slTa, slTb]
  refine hR _ _ ?_; clear hR R
  try simp only [go_sem, eq_true ho, hx]
  refine ⟨out ++ [x], ?_, by (try simp only []); omega, ?_⟩
  ·first | exact Weak.refl | exact Wqq
  try dsimp only
  refine ⟨by omega, ?_⟩
  rw [hxl, range_snocW, ← hinv, hx]
 try simp only [nrm] at c1
 have hk : out.length = s.wings.length - 1 := by omega
 refine W_exit ?_
 simp only [go_sem, eq_true ho]
 refine K4 _ _ ?_
 refine W_sr [4] fun R hR => ?_
 simp only [go_sem, eq_true ho]
 refine GCall_of (best_pc Y _ ⟨-1, -1, 0⟩ out (.tok σ.rooms.length out.length 3) (by omega)) ?_
 simp only [go_sem, eq_true ho]
 refine hR _ _ ?_; clear hR R
 try simp only [go_sem, eq_true ho]
 refine W_ret ?_
 simp only [go_sem, eq_true ho]
 refine ⟨.inr (by trivial), ?_⟩
 first | refine Fin_same hcl (by show resPV Tryz.prog _ _ [.cell 4 112] = some _; simp only [resPV, go_sem]; rfl) (Wk_eq ?_ (by simp only [go_sem])) | refine Fin_same hcl rfl (Wk_eq ?_ (by simp only [go_sem]))
 try simp only [go_sem]
 all_goals
  first | rfl | (rw [← hres]; unfold widestAll; rw [← hk, ← hinv]; first | done | rfl)
end Go.Proofs.YtpkkegbiddcodaaGreatDoor.Pa
namespace Go.Proofs.YtpkkegbiddcodaaGreatDoor
open Go Go.RowKit
section
variable {P : Program} {Y : YEnv} {N : Nat} {rd : Option Nat} {D : List Nat} {ops : Array Oper} {Ψ0 Ψ : Ty} {Q : Exit → Act → World → Prop}
theorem exec_allocN {i : Nat} {o : Oper} (ho : ops[i]? = some o) {t : TypeId} (hop : o.op = .alloc t) (hg : o.guard = none) (hz : (P.info? t).map (fun i => i.zero) = some (some (.slice none 0 0))) {E : Env} {σ : Sg} {a : Act} {w : World} {K : Act → World → Prop}
 (hr : Rel N D Ψ E σ a w)
 (hk : K (a.put o.dst (.pointer (some ⟨w.heap.size, 0, none⟩))) (w.alloc (.cells #[.slice none 0 0] t))) : wpOpIn (FnOf Ψ0 rd) 0 P ops Q i K a w := by
 unfold wpOpIn
 rw [ho]
 simp only
 have hw : wantedPV ops E o = some true := by unfold wantedPV; rw [hg]
 rw [wanted_ok hw hr.env]
 simp only [if_true]
 refine ⟨fun f _ => FnOf_fn _ _ _, ?_⟩
 have h1 : (zeroValue t).run P w = .ok (.slice none 0 0) w := by
  cases hi : P.info? t with
  | none => rw [hi] at hz; cases hz
  | some j =>
   rw [hi] at hz
   simp only [Option.map_some, Option.some.injEq] at hz
   simp [zeroValue, typeInfo, program, Sem.run, hi, hz, Bind.bind, Sem.bind, Pure.pure]
 have hrun : (execOp a.eval o).run P w = .ok (.value (.pointer (some ⟨w.heap.size, 0, none⟩))) (w.alloc (.cells #[.slice none 0 0] t)) := by
  unfold execOp
  rw [hop]
  simp only
  have : (Instr.alloc t true (.tuple #[])).run P w = .ok (.pointer (some ⟨w.heap.size, 0, none⟩)) (w.alloc (.cells #[.slice none 0 0] t)) := by
   unfold Instr.alloc
   rw [run_bind_ok h1]
   rfl
  rw [run_bind_ok this]
  rfl
 rw [Oper.semAt_eq _ _ _ (fun c => by rw [hop]; intro e; cases e), hrun]
 exact hk
end
/-- Some operations, then a variable of a slice's type is made, then the rest. -/
def GLa (P : Program) (Y : YEnv) (N : Nat) (lo : Nat × Nat) (ops : Array Oper) : Nat → List Oper → Env → Sg → (Env → Sg → Prop) → Prop
 | 0, o :: os, E, σ, K => ∃ t, o.op = .alloc t ∧ o.guard = none ∧ dstOK N o = true ∧ (P.info? t).map (fun i => i.zero) = some (some (.slice none 0 0)) ∧ GL P Y N ops os (E.put o.dst (.ptr σ.store.length 0)) (σ.push [.nilsl]) K
 | 0, [], _, _, _ => False
 | _ + 1, [], _, _, _ => False
 | n + 1, o :: os, E, σ, K => GL P Y N ops [o] E σ (fun E' σ' => GLa P Y N lo ops n os E' σ' K)
theorem GLa_succ {P : Program} {Y : YEnv} {N : Nat} {lo : Nat × Nat} {ops : Array Oper} {n : Nat} {o : Oper} {os : List Oper} {E : Env} {σ : Sg} {K : Env → Sg → Prop} : GLa P Y N lo ops (n + 1) (o :: os) E σ K = GL P Y N ops [o] E σ (fun E' σ' => GLa P Y N lo ops n os E' σ' K) := rfl
theorem GLa_ok {D : List Nat} {P : Program} {Y : YEnv} {N : Nat} {rd : Option Nat} {lo : Nat × Nat} {ops : Array Oper} {K : Env → Sg → Prop} {Ψ0 : Ty} {Q : Exit → Act → World → Prop} (hbd : Bnd Ψ0 lo) :
 ∀ (n : Nat) (os : List Oper) (is : List Nat), (∀ n : Nat, os[n]? = (is[n]?).bind fun i => ops[i]?) → os.length = is.length → ∀ (E : Env) (σ : Sg) (Ψ : Ty) (a : Act) (w : World), Ψ0.le Ψ → Rel N D Ψ E σ a w → YOK P Y Ψ0 →
 GLa P Y N lo ops n os E σ K → (∀ E' σ' Ψ' a' w', Ψ0.le Ψ' → Rel N D Ψ' E' σ' a' w' → Below Ψ0.base w w' → K E' σ' → Q .normal a' w') → wpOpsIn (FnOf Ψ0 rd) 0 P ops Q is a w := by
 intro n
 induction n with
 | zero =>
  intro os is his hl E σ Ψ a w le hr hy hg hk
  cases os with
  | nil => exact hg.elim
  | cons o os =>
  cases is with
  | nil => simp at hl
  | cons i is =>
   have h0 := his 0
   simp only [List.getElem?_cons_zero, Option.bind_some] at h0
   have his' : ∀ n : Nat, os[n]? = (is[n]?).bind fun i => ops[i]? := fun n => by simpa using his (n + 1)
   have hl' : os.length = is.length := by simpa using hl
   obtain ⟨t, hop, hgd, hd, hz, hg⟩ := hg
   rw [wpOpsIn_cons]
   refine exec_allocN (i := i) h0.symm hop hgd hz hr ?_
   obtain ⟨le1, hs1⟩ := hr.sg.newVar #[.slice none 0 0] t [.nilsl] (Nat.le_refl _) (fun j p v h1 h2 => by
    match j, h1, h2 with
    | 0, h1, h2 =>
     simp at h1 h2
     subst h1 h2
     exact .nilsl
    | j + 1, h1, h2 => simp at h1)
   have hβ : (Ψ.addVar w.heap.size).β[σ.store.length]? = some w.heap.size := by
    show (Ψ.β ++ [w.heap.size])[σ.store.length]? = _
    rw [← hr.sg.blen]
    simp
   have hrel := hr.put le1 hs1 (o := o) hd (v := .ptr σ.store.length 0) (x := .pointer (some ⟨w.heap.size, 0, none⟩)) (.ptr _ _ _ hβ (List.mem_cons_self ..))
   refine GL_ok os is his' hl' _ _ _ _ _ (le.trans le1) hrel hy hg fun E2 σ2 Ψ2 a2 w2 l2 r2 b2 k2 => hk E2 σ2 Ψ2 a2 w2 l2 r2 (Below.trans ((Below.refl _ _).alloc (by rw [← le.base]; exact hr.sg.base) _) b2) k2
 | succ n ihn =>
  intro os is his hl E σ Ψ a w le hr hy hg hk
  cases os with
  | nil => exact hg.elim
  | cons o os =>
  cases is with
  | nil => simp at hl
  | cons i is =>
   have h0 := his 0
   simp only [List.getElem?_cons_zero, Option.bind_some] at h0
   have his' : ∀ n : Nat, os[n]? = (is[n]?).bind fun i => ops[i]? := fun n => by simpa using his (n + 1)
   have hl' : os.length = is.length := by simpa using hl
   simp only [GLa, GL] at hg
   obtain ⟨hd, hg⟩ := hg
   simp only [wpOpsIn, ← h0]
   have fin : ∀ {v : PV} {σ' : Sg} {x : Value} {w' : World} {Ψ' : Ty}, Ψ.le Ψ' → SR Ψ' σ' w' → VR Ψ' v x → Below Ψ.base w w' → GLa P Y N lo ops n os (E.put o.dst v) σ' K → wpOpsIn (FnOf Ψ0 rd) 0 P ops Q is (a.put o.dst x) w' := by
    intro v σ' x w' Ψ' le' hs' hv hb hg'
    exact ihn os is his' hl' _ σ' Ψ' _ w' (le.trans le') (hr.put le' hs' hd hv) hy hg' fun E2 σ2 Ψ2 a2 w2 l2 r2 b2 k2 => hk E2 σ2 Ψ2 a2 w2 l2 r2 (Below.trans (by rw [← le.base]; exact hb) b2) k2
   cases hw : wantedPV ops E o with
   | none => rw [hw] at hg; exact (hg : False).elim
   | some b =>
    rw [hw] at hg
    rw [wanted_ok hw hr.env]
    cases b with
    | false =>
     rw [GWant_false] at hg
     simp only [Bool.false_eq_true, if_false]
     exact ⟨fun f _ => FnOf_fn _ _ _, fin (Ty.le.refl _) hr.sg (skipped_ok _) (Below.refl _ _) hg⟩
    | true =>
     simp only [if_true]
     refine ⟨fun f _ => FnOf_fn _ _ _, ?_⟩
     cases hwh : whom E o.op with
     | nobody =>
      rw [GWant_true, hwh, GWho_nobody] at hg
      cases heff : effOp P σ E o.op with
      | none => rw [heff] at hg; exact (hg : False).elim
      | some r =>
       obtain ⟨v, σ'⟩ := r
       rw [heff, GOpt_some] at hg
       obtain ⟨nx, x, w', Ψ', k1, k2, k3, k4, k5, k6⟩ := effOp_ok heff hr.sg hr.env
       rw [Oper.semAt_eq _ _ _ (effOp_not_defer heff), k1]
       rcases k2 with rfl | ⟨rfl, rfl⟩
       ·exact fin k3 k4 k5 k6 hg
       exact fin k3 k4 k5 k6 hg
     | fn f args =>
      rw [GWant_true, hwh, GWho_fn] at hg
      obtain ⟨v, σ', hpc, hg⟩ := hg
      obtain ⟨hnd, vals, k1, k2⟩ := whom_fn hwh hr.env hpc.1 w
      rw [Oper.semAt_eq _ _ _ hnd, k1]
      refine ⟨fun h => (by rw [FnOf_depth] at h; cases h), ?_⟩
      refine CallsIn.mono (callsIn_FnOf (hpc.2 Ψ vals w hr.sg k2 (hy.mono le))) fun e w' hh => ?_
      obtain ⟨x, Ψ', rfl, l1, l2, l3, l4⟩ := hh
      exact fin l1 l2 l3 l4 hg
     | yield y args =>
      rw [GWant_true, hwh, GWho_yield] at hg
      obtain ⟨b, σ', hargs, hg⟩ := hg
      obtain ⟨hnd, vals, l, d, hl1, k2, hrun⟩ := whom_yield hwh hr.env
      obtain ⟨l', r0, hl2, hround⟩ := (hy.mono le).2 y args σ b σ' hargs
      rw [hl1] at hl2
      injection hl2 with hl2
      injection hl2 with hl2 _
      subst hl2
      obtain ⟨r, q1, q2, q3⟩ := hround Ψ vals w (Ty.le.refl _) hr.sg k2
      rw [Oper.semAt_eq _ _ _ hnd, hrun P w r q1 q2]
      refine ⟨fun h => (by rw [FnOf_depth] at h; cases h), ?_⟩
      refine RoundIn.mono (roundIn_FnOf q3) fun e w' hh => ?_
      obtain ⟨Ψ', rfl, l1, l2, l4⟩ := hh
      exact fin l1 l2 (.bool b) l4 hg
theorem W_regionA {P : Program} {Y : YEnv} {N : Nat} {rd : Option Nat} {lo : Nat × Nat} {id : Nat} {ops : Array Oper} {E : Env} {σ : Sg} {Q : Exit → Env → Sg → Prop} (ks : List Nat) (n : Nat)
 (h : ∀ K : Env → Sg → Prop, (∀ E' σ', Q .normal (keep ks E') σ' → K E' σ') → GLa P Y N lo ops n ops.toList E σ K) : W P Y N rd lo (.region id ops false) E σ Q := by
 intro Ψ0 D hb hy _ Ψ a w le hr
 refine wpIn_region ?_
 refine GLa_ok (K := fun E' σ' => Q .normal (keep ks E') σ') hb n ops.toList (List.range ops.size) ?_ (by simp) E σ Ψ a w le hr hy (h _ fun _ _ k => k) ?_
 ·intro n
  simp only [Array.getElem?_toList]
  by_cases hn : n < ops.size
  ·simp [hn]
  simp [hn]
 intro E' σ' Ψ' a' w' le' hr' hb hq
 exact ⟨_, σ', Ψ', le', hr'.keep ks, hb, hq⟩
end Go.Proofs.YtpkkegbiddcodaaGreatDoor
namespace Go.Proofs.YtpkkegbiddcodaaGreatDoor.Pa
open Go Go.RowKit
set_option maxRecDepth 100000
/-- Starts, or none. -/
def mkS : List Int → PV
 | [] => .nilsl
 | x :: l => ints (x :: l)
theorem nilmkS {l : List Int} : nilPV Tryz.prog 22 (mkS l) = some l.isEmpty := by
 cases l with
 | nil => simp only [nilPV, Tryz.underlying22, mkS, List.isEmpty_nil]
 | cons x l => simp only [nilPV, Tryz.underlying22, mkS]; rfl
theorem nilcS {l : List Int} : nilCmp Tryz.prog .eql 22 (mkS l) = some (.bool l.isEmpty) := by simp only [nilCmp, nilmkS, Option.map_some]
theorem clean_mkS {a b c : Nat} (l : List Int) : Clean a b c (mkS l) = True := eq_true (by
 cases l with
 | nil => exact .nilsl
 | cons x l => simp only [mkS, go_sem])
theorem ro_mkS (l : List Int) : (mkS l).ro = mkS l := by
 cases l with
 | nil => rfl
 | cons x l => simp only [mkS, go_sem]; rfl
theorem mkS_cons {l : List Int} (h : l ≠ []) : ints l = mkS l := by cases l <;> first | exact absurd rfl h | rfl
attribute [go_sem] nilcS clean_mkS ro_mkS
structure Best where
 starts : List Int
 gap : Int
def tryC (s : School) (r : Rules) (now : List Int) (b : Best) : Best :=
 if (lastsW s now).1 < r.least ∨ (lastsW s now).2 > r.most then b
 else if b.starts = [] ∨ (widestAll s now).gap < b.gap then ⟨now, (widestAll s now).gap⟩ else b
theorem stX_out {σ : Sg} {d : Nat} {x : PV} {l : List (Option (List PV))} {rm : List Nat} {ys : List LState} (hd : σ.store[d]? = some (some [x])) (p : PV) (h1 : defd p = true) (h2 : p.cells = [p]) (h3 : PV.scalar p = true) : stX 1 (σ.ext l rm ys) d 0 p = some ((σ.setVar d [p]).ext l rm ys) := by
 rw [stX_old (lt_of_get hd), stX_at hd, h1, h2]
 simp [h3, putCells]
theorem Fin_ext1 {P : Program} {fn : Func} {σ τ : Sg} {l : List (Option (List PV))} {rm : List Nat} {E : Env} {rs : List PV} {v : PV} (h1 : τ.store.length = σ.store.length) (h2 : τ.rooms.length = σ.rooms.length) (h3 : τ.ys.length = σ.ys.length) (hcl : CleanSg τ)
 (hr : resPV P (τ.ext l rm) E fn.results.toList = some rs) (hv : Wk σ.store.length σ.rooms.length σ.ys.length (oneOr rs) v) : Fin P fn σ v τ E (τ.ext l rm) := by
 refine ⟨rs, τ.store.length, τ.rooms.length, hr, Nat.le_of_eq h1.symm, Nat.le_of_eq h2.symm, by rw [h1, h2]; exact hv, ?_, ?_, by simp [Sg.ext, h3]⟩
 ·rw [← h3]; exact (Sg.cut_ext0 τ l rm).symm
 rw [← h3]
 intro id ds hid hds p hp
 have hc' : (τ.store ++ l)[id]? = some (some ds) := hds
 rw [List.getElem?_append_left hid] at hc'
 exact hcl id ds hid hc' p hp
/-- What is known once starts were tried. -/
def bSg (σ : Sg) (i3 i4 : Nat) (b : Best) : Sg := (σ.setVar i3 [mkS b.starts]).setVar i4 [I b.gap]
theorem bSg_same {σ : Sg} {i3 i4 : Nat} {b : Best} (h3 : σ.store[i3]? = some (some [mkS b.starts])) (h4 : σ.store[i4]? = some (some [I b.gap])) : bSg σ i3 i4 b = σ := by
 unfold bSg
 rw [setVar_same σ i3 _ h3, setVar_same σ i4 _ h4]
set_option maxHeartbeats 8000000 in
theorem planC_pc (Y : YEnv) (σ : Sg) (i1 i2 i3 i4 : Nat) (s : School) (r : Rules) (now : List Int) (b : Best) (hV : ShV s) (h0 : now ≠ []) (hd1 : σ.store[i1]? = some (some (shCells s))) (hd2 : σ.store[i2]? = some (some (ruCells r))) (hd3 : σ.store[i3]? = some (some [mkS b.starts])) (hd4 : σ.store[i4]? = some (some [I b.gap])) (hne : i3 ≠ i4) (hs : StV now (s.wings.length - 1)) :
    PC Tryz.prog Y 43 [ints now, .ptr i1 0, .ptr i2 0, .ptr i3 0, .ptr i4 0] σ (.tuple []) (bSg σ i3 i4 (tryC s r now b)) := by
  refine PC_of_W Tryz.func43 rfl (by kernel_rfl) Tryz.ntmps43 (by simp) fun hcl hca => ?_
  obtain ⟨lo, hlo⟩ : ∃ z, (lastsW s now).1 = z := ⟨_, rfl⟩
  obtain ⟨hi, hhi⟩ : ∃ z, (lastsW s now).2 = z := ⟨_, rfl⟩
  obtain ⟨wd, hwd⟩ : ∃ z, widestAll s now = z := ⟨_, rfl⟩
  obtain ⟨res, hres⟩ : ∃ z, tryC s r now b = z := ⟨_, rfl⟩
  rw [hres]
  unfold tryC at hres
  rw [hlo, hhi, hwd] at hres
  have hd4' : (σ.setVar i3 [.isl (now.map I) .ro]).store[i4]? = some (some [I b.gap]) := by
    simp only [Sg.setVar]
    rw [List.getElem?_set_ne hne]; exact hd4
  have hA : ∀ l, stX 1 (σ.ext l []) i3 0 (.isl (now.map I) .ro) = some ((σ.setVar i3 [.isl (now.map I) .ro]).ext l []) := fun l => stX_out hd3 _ rfl rfl rfl
  have hB : ∀ l, stX 1 ((σ.setVar i3 [.isl (now.map I) .ro]).ext l []) i4 0 (I wd.gap) = some (((σ.setVar i3 [.isl (now.map I) .ro]).setVar i4 [I wd.gap]).ext l []) := fun l => stX_out hd4' _ rfl rfl rfl
  refine W_sr [0, 1, 2, 3, 4, 6] fun R hR => ?_
  simp only [go_sem, ldA_at hd1, ldA_at (get_extx hd1), ldS_at (get_extx hd1), ldS_at (get_extx hd2), ldS_at (get_extx hd3), ldS_at (get_extx hd4)]
  refine GCall_of (PC.val (v' := .agg [I lo, I hi]) (lasts_pc Y _ s now .ro hV hs) (by rw [hlo, hhi])) ?_
  simp only [go_sem, ldA_at hd1, ldA_at (get_extx hd1), ldS_at (get_extx hd1), ldS_at (get_extx hd2), ldS_at (get_extx hd3), ldS_at (get_extx hd4)]
  refine hR _ _ ?_; clear hR R
  try simp only [go_sem, ldA_at hd1, ldA_at (get_extx hd1), ldS_at (get_extx hd1), ldS_at (get_extx hd2), ldS_at (get_extx hd3), ldS_at (get_extx hd4)]
  refine W_seq fun Z2 K2 => ?_
  refine W_sr [0, 1, 3, 4, 22] fun R hR => ?_
  simp only [go_sem, ldA_at hd1, ldA_at (get_extx hd1), ldS_at (get_extx hd1), ldS_at (get_extx hd2), ldS_at (get_extx hd3), ldS_at (get_extx hd4)]
  refine GWant_split (fun g1 => ?_) (fun g1 => ?_)
  · try simp only [Bool.not_eq_true', Bool.not_eq_false'] at g1
    have n1 := g1; try simp only [nrm] at n1
    simp only [go_sem, ldA_at hd1, ldA_at (get_extx hd1), ldS_at (get_extx hd1), ldS_at (get_extx hd2), ldS_at (get_extx hd3), ldS_at (get_extx hd4), g1]
    refine hR _ _ ?_; clear hR R
    try simp only [go_sem, ldA_at hd1, ldA_at (get_extx hd1), ldS_at (get_extx hd1), ldS_at (get_extx hd2), ldS_at (get_extx hd3), ldS_at (get_extx hd4)]
    refine W_cond rfl (fun c1 => ?_) (fun c1 => ?_)
    ·
      try simp only [nrm] at c1
      refine W_ret ?_
      simp only [go_sem, ldA_at hd1, ldA_at (get_extx hd1), ldS_at (get_extx hd1), ldS_at (get_extx hd2), ldS_at (get_extx hd3), ldS_at (get_extx hd4)]
      refine ⟨.inr (by trivial), ?_⟩
      rw [show bSg σ i3 i4 res = σ from by rw [← hres, if_pos (by first | omega | (simp_all; done) | (simp_all; omega))]; exact bSg_same hd3 hd4]
      exact Fin_same (rs := []) hcl rfl (Wk.of_clean (.tuple _ Clean.all_nil))
      try simp only [go_sem]
      all_goals
        skip
    ·
      try simp only [nrm] at c1
      refine W_skip (K2 _ _ ?_)
      refine W_sr [0, 3, 4, 7] fun R hR => ?_
      simp only [go_sem, ldA_at hd1, ldA_at (get_extx hd1), ldS_at (get_extx hd1), ldS_at (get_extx hd2), ldS_at (get_extx hd3), ldS_at (get_extx hd4)]
      refine GCall_of (PC.val (v' := wdPV wd) (widestOf_pc Y _ s now .ro hV hs) (by rw [hwd])) ?_
      simp only [go_sem, ldA_at hd1, ldA_at (get_extx hd1), ldS_at (get_extx hd1), ldS_at (get_extx hd2), ldS_at (get_extx hd3), ldS_at (get_extx hd4)]
      refine hR _ _ ?_; clear hR R
      try simp only [go_sem, ldA_at hd1, ldA_at (get_extx hd1), ldS_at (get_extx hd1), ldS_at (get_extx hd2), ldS_at (get_extx hd3), ldS_at (get_extx hd4)]
      refine W_sr [0, 3, 4, 7, 33] fun R hR => ?_
      simp only [go_sem, ldA_at hd1, ldA_at (get_extx hd1), ldS_at (get_extx hd1), ldS_at (get_extx hd2), ldS_at (get_extx hd3), ldS_at (get_extx hd4)]
      refine GWant_split (fun g2 => ?_) (fun g2 => ?_)
      · try simp only [Bool.not_eq_true', Bool.not_eq_false'] at g2
        have n2 := g2; try simp only [nrm] at n2
        simp only [go_sem, ldA_at hd1, ldA_at (get_extx hd1), ldS_at (get_extx hd1), ldS_at (get_extx hd2), ldS_at (get_extx hd3), ldS_at (get_extx hd4), g2]
        refine hR _ _ ?_; clear hR R
        try simp only [go_sem, ldA_at hd1, ldA_at (get_extx hd1), ldS_at (get_extx hd1), ldS_at (get_extx hd2), ldS_at (get_extx hd3), ldS_at (get_extx hd4)]
        refine W_cond rfl (fun c2 => ?_) (fun c2 => ?_)
        ·
          try simp only [nrm] at c2
          refine W_draw [] [0, 1, 2, 3, 4] [(1, 4), (2, 4)] [[], [], [1], [0], [0, 1, 2, 3]] mixed (by kernel_rfl) fun R hR => ?_
          simp only [go_sem, ldA_at hd1, ldA_at (get_extx hd1), ldS_at (get_extx hd1), ldS_at (get_extx hd2), ldS_at (get_extx hd3), ldS_at (get_extx hd4), hA, hB]
          try refine And.intro (by repeat' (first | refine And.intro ?_ ?_ | exact trivial | exact GOr_right (fun _ => by simp only [go_sem, ldA_at hd1, ldA_at (get_extx hd1), ldS_at (get_extx hd1), ldS_at (get_extx hd2), ldS_at (get_extx hd3), ldS_at (get_extx hd4), hA, hB]))) ?_
          refine hR _ _ ?_; clear hR R
          try simp only [go_sem, ldA_at hd1, ldA_at (get_extx hd1), ldS_at (get_extx hd1), ldS_at (get_extx hd2), ldS_at (get_extx hd3), ldS_at (get_extx hd4)]
          try simp only [go_sem, ldA_at hd1, ldA_at (get_extx hd1), ldS_at (get_extx hd1), ldS_at (get_extx hd2), ldS_at (get_extx hd3), ldS_at (get_extx hd4)]
          refine ⟨.inl (by trivial), ?_⟩
          have hm : mkS now = .isl (now.map I) .ro := (mkS_cons h0).symm
          have hC : ∀ h : b.starts = [] ∨ wd.gap < b.gap, bSg σ i3 i4 res = (σ.setVar i3 [.isl (now.map I) .ro]).setVar i4 [I wd.gap] := fun h => by rw [← hres, if_neg (by omega), if_pos h]; unfold bSg; rw [hm]
          have hD : ∀ h : ¬ (b.starts = [] ∨ wd.gap < b.gap), bSg σ i3 i4 res = σ := fun h => by rw [← hres, if_neg (by omega), if_neg h]; exact bSg_same hd3 hd4
          first
            | (exfalso; simp at c2; done)
            | (exfalso; exact c2 trivial)
            | (rw [hC (by first | exact .inr c2 | exact .inl (by simpa using g2))]
               refine Fin_ext1 (rs := []) (by simp [Sg.setVar]) rfl rfl ?_ rfl (Wk.of_clean (.tuple _ Clean.all_nil))
               refine CleanSg_set (CleanSg_set hcl ?_) ?_ <;> simp only [go_sem])
            | (rw [hD (by rintro (h | h); (rw [h] at g2; simp at g2); omega)]
               exact Fin_same hcl rfl (Wk.of_clean (.tuple _ Clean.all_nil)))
          try simp only [go_sem]
          all_goals
            skip
        ·
          try simp only [nrm] at c2
          refine W_skip ?_
          simp only [go_sem, ldA_at hd1, ldA_at (get_extx hd1), ldS_at (get_extx hd1), ldS_at (get_extx hd2), ldS_at (get_extx hd3), ldS_at (get_extx hd4)]
          try simp only [go_sem, ldA_at hd1, ldA_at (get_extx hd1), ldS_at (get_extx hd1), ldS_at (get_extx hd2), ldS_at (get_extx hd3), ldS_at (get_extx hd4)]
          refine ⟨.inl (by trivial), ?_⟩
          have hm : mkS now = .isl (now.map I) .ro := (mkS_cons h0).symm
          have hC : ∀ h : b.starts = [] ∨ wd.gap < b.gap, bSg σ i3 i4 res = (σ.setVar i3 [.isl (now.map I) .ro]).setVar i4 [I wd.gap] := fun h => by rw [← hres, if_neg (by omega), if_pos h]; unfold bSg; rw [hm]
          have hD : ∀ h : ¬ (b.starts = [] ∨ wd.gap < b.gap), bSg σ i3 i4 res = σ := fun h => by rw [← hres, if_neg (by omega), if_neg h]; exact bSg_same hd3 hd4
          first
            | (exfalso; simp at c2; done)
            | (exfalso; exact c2 trivial)
            | (rw [hC (by first | exact .inr c2 | exact .inl (by simpa using g2))]
               refine Fin_ext1 (rs := []) (by simp [Sg.setVar]) rfl rfl ?_ rfl (Wk.of_clean (.tuple _ Clean.all_nil))
               refine CleanSg_set (CleanSg_set hcl ?_) ?_ <;> simp only [go_sem])
            | (rw [hD (by rintro (h | h); (rw [h] at g2; simp at g2); omega)]
               exact Fin_same hcl rfl (Wk.of_clean (.tuple _ Clean.all_nil)))
          try simp only [go_sem]
          all_goals
            skip
      · try simp only [Bool.not_eq_true', Bool.not_eq_false'] at g2
        have n2 := g2; try simp only [nrm] at n2
        simp only [go_sem, ldA_at hd1, ldA_at (get_extx hd1), ldS_at (get_extx hd1), ldS_at (get_extx hd2), ldS_at (get_extx hd3), ldS_at (get_extx hd4), g2]
        refine hR _ _ ?_; clear hR R
        try simp only [go_sem, ldA_at hd1, ldA_at (get_extx hd1), ldS_at (get_extx hd1), ldS_at (get_extx hd2), ldS_at (get_extx hd3), ldS_at (get_extx hd4)]
        refine W_cond_true rfl ?_
        refine W_draw [] [0, 1, 2, 3, 4] [(1, 4), (2, 4)] [[], [], [1], [0], [0, 1, 2, 3]] mixed (by kernel_rfl) fun R hR => ?_
        simp only [go_sem, ldA_at hd1, ldA_at (get_extx hd1), ldS_at (get_extx hd1), ldS_at (get_extx hd2), ldS_at (get_extx hd3), ldS_at (get_extx hd4), hA, hB]
        try refine And.intro (by repeat' (first | refine And.intro ?_ ?_ | exact trivial | exact GOr_right (fun _ => by simp only [go_sem, ldA_at hd1, ldA_at (get_extx hd1), ldS_at (get_extx hd1), ldS_at (get_extx hd2), ldS_at (get_extx hd3), ldS_at (get_extx hd4), hA, hB]))) ?_
        refine hR _ _ ?_; clear hR R
        try simp only [go_sem, ldA_at hd1, ldA_at (get_extx hd1), ldS_at (get_extx hd1), ldS_at (get_extx hd2), ldS_at (get_extx hd3), ldS_at (get_extx hd4)]
        try simp only [go_sem, ldA_at hd1, ldA_at (get_extx hd1), ldS_at (get_extx hd1), ldS_at (get_extx hd2), ldS_at (get_extx hd3), ldS_at (get_extx hd4)]
        refine ⟨.inl (by trivial), ?_⟩
        have hm : mkS now = .isl (now.map I) .ro := (mkS_cons h0).symm
        have hC : ∀ h : b.starts = [] ∨ wd.gap < b.gap, bSg σ i3 i4 res = (σ.setVar i3 [.isl (now.map I) .ro]).setVar i4 [I wd.gap] := fun h => by rw [← hres, if_neg (by omega), if_pos h]; unfold bSg; rw [hm]
        have hD : ∀ h : ¬ (b.starts = [] ∨ wd.gap < b.gap), bSg σ i3 i4 res = σ := fun h => by rw [← hres, if_neg (by omega), if_neg h]; exact bSg_same hd3 hd4
        first
          | (exfalso; simp at c2; done)
          | (exfalso; exact c2 trivial)
          | (rw [hC (by first | exact .inr c2 | exact .inl (by simpa using g2))]
             refine Fin_ext1 (rs := []) (by simp [Sg.setVar]) rfl rfl ?_ rfl (Wk.of_clean (.tuple _ Clean.all_nil))
             refine CleanSg_set (CleanSg_set hcl ?_) ?_ <;> simp only [go_sem])
          | (rw [hD (by rintro (h | h); (rw [h] at g2; simp at g2); omega)]
             exact Fin_same hcl rfl (Wk.of_clean (.tuple _ Clean.all_nil)))
        try simp only [go_sem]
        all_goals
          skip
  · try simp only [Bool.not_eq_true', Bool.not_eq_false'] at g1
    have n1 := g1; try simp only [nrm] at n1
    simp only [go_sem, ldA_at hd1, ldA_at (get_extx hd1), ldS_at (get_extx hd1), ldS_at (get_extx hd2), ldS_at (get_extx hd3), ldS_at (get_extx hd4), g1]
    refine hR _ _ ?_; clear hR R
    try simp only [go_sem, ldA_at hd1, ldA_at (get_extx hd1), ldS_at (get_extx hd1), ldS_at (get_extx hd2), ldS_at (get_extx hd3), ldS_at (get_extx hd4)]
    refine W_cond_true rfl ?_
    refine W_ret ?_
    simp only [go_sem, ldA_at hd1, ldA_at (get_extx hd1), ldS_at (get_extx hd1), ldS_at (get_extx hd2), ldS_at (get_extx hd3), ldS_at (get_extx hd4)]
    refine ⟨.inr (by trivial), ?_⟩
    rw [show bSg σ i3 i4 res = σ from by rw [← hres, if_pos (by first | omega | (simp_all; done) | (simp_all; omega))]; exact bSg_same hd3 hd4]
    exact Fin_same (rs := []) hcl rfl (Wk.of_clean (.tuple _ Clean.all_nil))
    try simp only [go_sem]
    all_goals
      skip
section
variable {σ : Sg} {i3 i4 : Nat} {b b2 : Best}
theorem bSg_get {j : Nat} (h3 : j ≠ i3) (h4 : j ≠ i4) : (bSg σ i3 i4 b).store[j]? = σ.store[j]? := by
 simp only [bSg, Sg.setVar]
 rw [List.getElem?_set_ne (fun e => h4 e.symm), List.getElem?_set_ne (fun e => h3 e.symm)]
theorem bSg_3 (h : i3 ≠ i4) (h3 : i3 < σ.store.length) : (bSg σ i3 i4 b).store[i3]? = some (some [mkS b.starts]) := by
 simp only [bSg, Sg.setVar]
 rw [List.getElem?_set_ne (fun e => h e.symm), List.getElem?_set_self h3]
theorem bSg_4 (h4 : i4 < σ.store.length) : (bSg σ i3 i4 b).store[i4]? = some (some [I b.gap]) := by
 simp only [bSg, Sg.setVar]
 rw [List.getElem?_set_self (by rw [List.length_set]; exact h4)]
theorem bSg_bSg (h : i3 ≠ i4) : bSg (bSg σ i3 i4 b) i3 i4 b2 = bSg σ i3 i4 b2 := by
 simp only [bSg, Sg.setVar]
 rw [List.set_comm _ _ (fun e => h e.symm), List.set_set, List.set_set]
theorem bSg_ext {l : List (Option (List PV))} {rm : List Nat} {ys : List LState} (h3 : i3 < σ.store.length) (h4 : i4 < σ.store.length) : bSg (σ.ext l rm ys) i3 i4 b = (bSg σ i3 i4 b).ext l rm ys := by
 unfold bSg
 rw [sv_ext h3, sv_ext (by rw [sv_len]; exact h4)]
theorem bSg_len : (bSg σ i3 i4 b).store.length = σ.store.length := by simp [bSg, Sg.setVar]
theorem bSg_rooms : (bSg σ i3 i4 b).rooms = σ.rooms := rfl
theorem CleanSg_b (h : i3 ≠ i4) (hcl : CleanSg (bSg σ i3 i4 b)) : CleanSg (bSg σ i3 i4 b2) := by
 rw [← bSg_bSg (b := b) h]
 exact CleanSg_set (CleanSg_set hcl (by simp only [go_sem])) (by simp only [go_sem])
end
theorem least_le {s : School} {st : List Int} {i : Nat} (hV : ShV s) (h8 : i ≤ 8) (hi : i ≤ st.length) (hs : ∀ k, k < i → 0 ≤ stW st k ∧ stW st k ≤ 20000) : leastW s.wings st i ≤ 300000 := by
 cases i with
 | zero => show (0 : Int) ≤ 300000; decide
 | succ k =>
  have hlb := lenW_bd hV.wv k
  have hS : StV st k := ⟨by omega, fun j hj => hs j (by omega)⟩
  have h := accW_inv (ws := s.wings) (wing := k) (f := passOne s.wings st 0 (0 + lenW s.wings k)) (a := stW st k) (Q := fun m => 0 ≤ m ∧ m ≤ 300000) (by have := hS.2 _ (Nat.le_refl _); omega) (passOne_bd hV.wv (by omega) hS (by omega)) 0
  rw [accW_end] at h
  exact h.2
/-- The variables of a plan. -/
structure PlS (σ : Sg) (i1 i2 i3 i4 i5 i6 : Nat) (s : School) (r : Rules) : Prop where
 h1 : σ.store[i1]? = some (some (shCells s))
 h2 : σ.store[i2]? = some (some (ruCells r))
 h5 : σ.store[i5]? = some (some [.func (.func 43) [] [.ptr i1 0, .ptr i2 0, .ptr i3 0, .ptr i4 0]])
 h6 : σ.store[i6]? = some (some [.func (.func 46) [] [.ptr i1 0, .ptr i5 0, .ptr i6 0]])
 l3 : i3 < σ.store.length
 l4 : i4 < σ.store.length
 n34 : i3 ≠ i4
 n1 : i1 ≠ i3 ∧ i1 ≠ i4
 n2 : i2 ≠ i3 ∧ i2 ≠ i4
 n5 : i5 ≠ i3 ∧ i5 ≠ i4
 n6 : i6 ≠ i3 ∧ i6 ≠ i4
theorem PlS.ext {σ : Sg} {i1 i2 i3 i4 i5 i6 : Nat} {s : School} {r : Rules} (h : PlS σ i1 i2 i3 i4 i5 i6 s r) (l : List (Option (List PV))) (rm : List Nat) : PlS (σ.ext l rm) i1 i2 i3 i4 i5 i6 s r :=
 ⟨get_extx h.h1, get_extx h.h2, get_extx h.h5, get_extx h.h6, by have := h.l3; simp [Sg.ext]; omega, by have := h.l4; simp [Sg.ext]; omega, h.n34, h.n1, h.n2, h.n5, h.n6⟩
/-- How many starts are tried behind those known. -/
def cntT (ws : List Wing) (now : List Int) : Nat := (min 20000 (leastW ws now now.length + (if now.length = 0 then 0 else 3)) - leastW ws now now.length + 1).toNat
def tryW (s : School) (r : Rules) : Nat → List Int → Best → Best
 | 0, now, b => tryC s r now b
 | m + 1, now, b => (List.range (cntT s.wings now)).foldl (fun c (k : Nat) => tryW s r m (now ++ [leastW s.wings now now.length + k]) c) b
def upK (a : Int) : Nat → Int
 | 0 => a
 | k + 1 => a + (k + 1)
theorem upK_eq (a : Int) (k : Nat) : upK a k = a + k := by cases k <;> simp [upK]
theorem foldl_snocR {f : Best → Nat → Best} {b : Best} {k : Nat} : (List.range (k + 1)).foldl f b = f ((List.range k).foldl f b) k := by
 rw [List.range_succ, List.foldl_append]; rfl
set_option maxHeartbeats 2000000 in
theorem Clone_pc (Y : YEnv) (σ : Sg) (l : List Int) (hl : l.length ≤ 2 ^ 30) :
 PC Tryz.prog Y 48 [ints l] σ (.isl (l.map I) (.tok σ.rooms.length l.length 1)) (σ.ext [] [l.length]) := by
 refine PC_of_W Tryz.func48 rfl (by kernel_rfl) Tryz.ntmps48 (by simp) fun hcl hca => ?_
 refine W_sr [0] fun R hR => ?_
 simp only [go_sem]
 refine hR _ _ ?_; clear hR R
 try simp only [go_sem]
 refine W_seq fun Z2 K2 => ?_
 refine W_seq fun Z3 K3 => ?_
 refine W_isnil [0, 4] (by decide) (by decide) rfl Tryz.underlying22 fun bn hbn => ?_
 refine K3 _ _ ?_
 try simp only [go_sem]
 refine W_cond rfl (fun c1 => ?_) (fun c1 => ?_)
 ·
  try simp only [nrm] at c1
  refine W_sr [2] fun R hR => ?_
  simp only [go_sem]
  refine hR _ _ ?_; clear hR R
  try simp only [go_sem]
  refine W_weak (Weak.room (t := 2) (es := 1) rfl (by simp)) ?_
  refine W_ret ?_
  simp only [go_sem]
  refine ⟨.inr (by trivial), ?_⟩
  obtain rfl : l = [] := by simpa using hbn c1
  exact Fin_ext 0 1 hcl rfl (Wk_eq rfl (by simp only [go_sem] <;> omega)) CleanL_nil
  try simp only [go_sem]
  all_goals
   skip
 try simp only [nrm] at c1
 refine W_skip (K2 _ _ ?_)
 refine W_sr [2] fun R hR => ?_
 simp only [go_sem]
 try simp (disch := (first | omega | (simp only [go_sem, List.length_append] <;> omega))) only [wrapI, wrapU, appX_exact, appX_tok, strAdd, slT, slTa, slTb]
 try simp only [go_sem]
 refine hR _ _ ?_; clear hR R
 try simp only [go_sem]
 refine W_ret ?_
 simp only [go_sem]
 refine ⟨.inr (by trivial), ?_⟩
 exact Fin_ext 0 1 hcl rfl (Wk_eq (by simp only [go_sem]) (by simp only [go_sem] <;> omega)) CleanL_nil
 try simp only [go_sem]
 all_goals
  skip
set_option maxHeartbeats 2000000 in
theorem try0_pc (Y : YEnv) (σ : Sg) (i1 i2 i3 i4 i5 i6 : Nat) (s : School) (r : Rules) (now : List Int) (b : Best) (hp : PlS σ i1 i2 i3 i4 i5 i6 s r) (hV : ShV s) (hl : now.length = s.wings.length) (hs : ∀ i, i < now.length → 0 ≤ stW now i ∧ stW now i ≤ 20000) :
 PC Tryz.prog Y 46 [ints now, .ptr i1 0, .ptr i5 0, .ptr i6 0] (bSg σ i3 i4 b) (.tuple []) (bSg σ i3 i4 (tryW s r 0 now b)) := by
 refine PC_of_W Tryz.func46 rfl (by kernel_rfl) Tryz.ntmps46 (by simp) fun hcl hca => ?_
 have h8 := hV.wl
 have hn0 : now ≠ [] := by intro h; rw [h] at hl; simp at hl; omega
 have q1 := (bSg_get (b := b) (σ := σ) hp.n1.1 hp.n1.2).trans hp.h1
 have q2 := (bSg_get (b := b) (σ := σ) hp.n2.1 hp.n2.2).trans hp.h2
 have q5 := (bSg_get (b := b) (σ := σ) hp.n5.1 hp.n5.2).trans hp.h5
 have hle : (now.length : Int) = s.wings.length := by omega
 refine W_sr [0, 1, 2, 3, 5] fun R hR => ?_
 simp only [go_sem, ldS_at q1, ldS_at q5, hle]
 refine hR _ _ ?_; clear hR R
 try simp only [go_sem, ldS_at q1, ldS_at q5, hle]
 refine W_seq fun Z2 K2 => ?_
 refine W_sr [0, 1, 2, 3, 5, 15] fun R hR => ?_
 simp only [go_sem, ldS_at q1, ldS_at q5, hle]
 refine hR _ _ ?_; clear hR R
 try simp only [go_sem, ldS_at q1, ldS_at q5, hle]
 refine W_cond_true rfl ?_
 refine W_sr [] fun R hR => ?_
 simp only [go_sem, ldS_at q1, ldS_at q5, hle]
 refine GCall_of (planC_pc Y _ i1 i2 i3 i4 s r now b hV hn0 q1 q2 (bSg_3 hp.n34 hp.l3) (bSg_4 hp.l4) hp.n34 ⟨by omega, fun i hi => hs i (by omega)⟩) ?_
 simp only [go_sem, ldS_at q1, ldS_at q5, hle]
 refine hR _ _ ?_; clear hR R
 try simp only [go_sem, ldS_at q1, ldS_at q5, hle]
 refine W_ret ?_
 simp only [go_sem, ldS_at q1, ldS_at q5, hle]
 refine ⟨.inr (by trivial), ?_⟩
 rw [bSg_bSg hp.n34]
 exact Fin_more (rs := []) (CleanSg_b hp.n34 hcl) (by simp [bSg_len]) (Nat.le_refl _) rfl rfl (Wk.of_clean (.tuple _ Clean.all_nil))
 try simp only [go_sem]
 all_goals
  skip
set_option maxHeartbeats 8000000 in
theorem tryS_pc (Y : YEnv) (σ : Sg) (i1 i2 i3 i4 i5 i6 m : Nat) (s : School) (r : Rules) (now : List Int) (b : Best) (hp : PlS σ i1 i2 i3 i4 i5 i6 s r) (hV : ShV s) (hl : now.length + (m + 1) = s.wings.length) (hs : ∀ i, i < now.length → 0 ≤ stW now i ∧ stW now i ≤ 20000)
 (hIH : ∀ (τ : Sg) (x : Int) (c : Best), PlS τ i1 i2 i3 i4 i5 i6 s r → 0 ≤ x → x ≤ 20000 → PC Tryz.prog Y 46 [ints (now ++ [x]), .ptr i1 0, .ptr i5 0, .ptr i6 0] (bSg τ i3 i4 c) (.tuple []) (bSg τ i3 i4 (tryW s r m (now ++ [x]) c))) :
 PC Tryz.prog Y 46 [ints now, .ptr i1 0, .ptr i5 0, .ptr i6 0] (bSg σ i3 i4 b) (.tuple []) (bSg σ i3 i4 (tryW s r (m + 1) now b)) := by
 refine PC_of_W Tryz.func46 rfl (by kernel_rfl) Tryz.ntmps46 (by simp) fun hcl hca => ?_
 have h8 := hV.wl
 have q1 := fun c => (bSg_get (b := c) (σ := σ) hp.n1.1 hp.n1.2).trans hp.h1
 have q6 := fun c => (bSg_get (b := c) (σ := σ) hp.n6.1 hp.n6.2).trans hp.h6
 have hle : ((now.length : Int) == (s.wings.length : Int)) = false := by rw [beq_eq_false_iff_ne]; omega
 have hl6 := lt_of_get hp.h6
 have hfb := least_le (i := now.length) hV (by omega) (Nat.le_refl _) hs
 have hfg := least_ge (ws := s.wings) (st := now) (i := now.length) (fun k hk => (hs k hk).1)
 obtain ⟨fi, hfi⟩ : ∃ z, leastW s.wings now now.length = z := ⟨_, rfl⟩
 rw [hfi] at hfb hfg
 obtain ⟨cn, hcn⟩ : ∃ z, cntT s.wings now = z := ⟨_, rfl⟩
 have hcn2 := hcn
 unfold cntT at hcn2
 rw [hfi] at hcn2
 obtain ⟨F, hF⟩ : ∃ F, F = fun (c : Best) (k : Nat) => tryW s r m (now ++ [fi + k]) c := ⟨_, rfl⟩
 have hres : tryW s r (m + 1) now b = (List.range cn).foldl F b := by rw [hF]; simp only [tryW, hcn, hfi]
 rw [hres]
 have hIH2 : ∀ (x : Int) (c : Best), 0 ≤ x → x ≤ 20000 → PC Tryz.prog Y 46 [.isl (now.map I ++ [I x]) .ro, .ptr i1 0, .ptr i5 0, .ptr i6 0] ((bSg σ i3 i4 c).ext [] [now.length + 1]) (.tuple []) ((bSg σ i3 i4 (tryW s r m (now ++ [x]) c)).ext [] [now.length + 1]) := fun x c h1 h2 => by
  have h := hIH (σ.ext [] [now.length + 1]) x c (hp.ext _ _) h1 h2
  rw [bSg_ext hp.l3 hp.l4, bSg_ext hp.l3 hp.l4] at h
  rw [show now.map I ++ [I x] = (now ++ [x]).map I by simp]
  exact h
 refine W_sr [0, 1, 2, 3, 5] fun R hR => ?_
 simp only [go_sem, hle]
 refine hR _ _ ?_; clear hR R
 try simp only [go_sem, hle]
 refine W_seq fun Z2 K2 => ?_
 refine W_sr [0, 1, 2, 3, 5, 15] fun R hR => ?_
 simp only [go_sem, hle, ldS_at (q1 b)]
 refine hR _ _ ?_; clear hR R
 try simp only [go_sem, hle]
 refine W_cond_false rfl ?_
 refine W_skip (K2 _ _ ?_)
 refine W_sr [0, 3, 5, 6] fun R hR => ?_
 simp only [go_sem, hle, ldA_at (q1 b)]
 refine GCall_of (PC.val (v' := I fi) (least_pc Y _ s now .ro now.length hV (by omega) (fun k hk => ⟨by omega, fun j hj => hs j (by omega)⟩)) (by rw [hfi])) ?_
 simp only [go_sem, hle, ldA_at (q1 b)]
 refine hR _ _ ?_; clear hR R
 try simp only [go_sem, hle]
 refine W_sr [0, 3, 5, 6, 7] fun R hR => ?_
 simp only [go_sem, hle]
 refine hR _ _ ?_; clear hR R
 try simp only [go_sem, hle]
 refine W_seq fun Z6 K6 => ?_
 refine W_sr [0, 3, 6, 7, 24] fun R hR => ?_
 simp only [go_sem, hle]
 refine hR _ _ ?_; clear hR R
 try simp only [go_sem, hle]
 refine W_cond rfl (fun c1 => ?_) (fun c1 => ?_)
 ·
  try simp only [nrm] at c1
  refine W_region [0, 3, 6, 7] fun R hR => ?_
  simp only [go_sem, hle]
  refine hR _ _ (K6 _ _ ?_); clear hR R; try clear K6 Z6
  try simp only [go_sem, hle]
  refine W_sr [0, 3, 6, 7, 8] fun R hR => ?_
  simp only [go_sem, hle]
  refine hR _ _ ?_; clear hR R
  try simp only [go_sem, hle]
  refine W_block ?_
  refine W_loopT (α := Nat) (fun (k : Nat) => [(8, I (upK fi k))]) (fun (k : Nat) => bSg σ i3 i4 ((List.range k).foldl F b)) (fun (k : Nat) => k ≤ cn) (fun (k : Nat) => cn - k) (0) rfl (by first | rfl | (simp only [go_sem]; done) | (simp only [go_sem]; rfl)) (Nat.zero_le _) ?_
  rintro k hk
  refine W_seq fun Z9 K9 => ?_
  refine W_sr [0, 3, 6, 7, 8, 31] fun R hR => ?_
  simp only [go_sem, hle]
  try simp (disch := (first | omega | (simp only [go_sem, List.length_append] <;> omega))) only [wrapI, wrapU, strAdd, slT, slTa, slTb]
  refine hR _ _ ?_; clear hR R
  try simp only [go_sem, hle]
  refine W_cond rfl (fun c2 => ?_) (fun c2 => ?_)
  ·
   try simp only [nrm] at c2
   simp only [upK_eq] at c2 ⊢
   have hk1 : upK fi (k + 1) = fi + k + 1 := by rw [upK_eq]; omega
   have hk2 : k < cn := by omega
   obtain ⟨c2, hc2⟩ : ∃ z, (List.range k).foldl F b = z := ⟨_, rfl⟩
   rw [hc2]
   refine W_skip (K9 _ _ ?_)
   refine W_seq fun Z11 K11 => ?_
   refine W_block ?_
   refine W_draw [0, 3, 6, 7, 8] [0, 1, 2, 3, 4, 5, 6] [(0, 5), (0, 6), (3, 2), (4, 2)] [[], [], [1], [], [3], [1, 2, 3, 4], [0, 1, 2, 3, 4, 5]] mixed (by kernel_rfl) fun R hR => ?_
   simp only [go_sem, hle, ldS_at (q6 c2), ldS_at (get_extx (q6 c2))]
   refine GCall_of (Clone_pc Y _ now (by omega)) ?_
   simp only [go_sem, hle, ldS_at (q6 c2), ldS_at (get_extx (q6 c2))]
   try simp (disch := (first | omega | (simp only [go_sem, List.length_append] <;> omega))) only [wrapI, wrapU, appX_exact, appX_tok, strAdd, slT, slTa, slTb]
   try simp only [go_sem, hle, ldS_at (q6 c2), ldS_at (get_extx (q6 c2))]
   refine GCall_of (PC.ofRo (hIH2 (fi + k) c2 (by omega) (by omega)) (by simp only [go_sem] <;> rfl)) ?_
   simp only [go_sem, hle, ldS_at (q6 c2), ldS_at (get_extx (q6 c2))]
   try refine And.intro (by repeat' (first | refine And.intro ?_ ?_ | exact trivial | exact GOr_right (fun _ => by simp only [go_sem, hle, ldS_at (q6 c2), ldS_at (get_extx (q6 c2))]))) ?_
   refine hR _ _ (K11 _ _ ?_); clear hR R; try clear K11 Z11
   try simp only [go_sem, hle]
   refine W_region [0, 3, 6, 7, 8] fun R hR => ?_
   simp only [go_sem, hle]
   try simp (disch := (first | omega | (simp only [go_sem, List.length_append] <;> omega))) only [wrapI, wrapU, strAdd, slT, slTa, slTb]
   refine hR _ _ ?_; clear hR R
   try simp only [go_sem, hle]
   refine ⟨k + 1, ?_, by (try simp only []); omega, ?_⟩
   ·rw [foldl_snocR, hc2, hF, hk1]
    refine Weak.trans (Weak.cutX 0 0 (by simp only [bSg_len]; omega) (by simp only [bSg_rooms]; omega) (CleanSg_b hp.n34 hcl) (by simp only [go_sem, bSg_len] <;> omega) (by simp only [go_sem, bSg_len] <;> omega)) ?_
    simp only [go_sem]
    first | exact Weak.refl | exact Weak.eq rfl rfl
   try dsimp only
   omega
  try simp only [nrm] at c2
  simp only [upK_eq] at c2
  have hke : k = cn := by omega
  refine W_exit ?_
  simp only [go_sem, hle]
  try simp only [go_sem, hle]
  refine ⟨.inl (by trivial), ?_⟩
  subst hke
  exact Fin_more (rs := []) (CleanSg_b hp.n34 hcl) (by simp [bSg_len]) (Nat.le_refl _) rfl rfl (Wk.of_clean (.tuple _ Clean.all_nil))
  try simp only [go_sem]
  all_goals
   skip
 try simp only [nrm] at c1
 refine W_skip (K6 _ _ ?_)
 refine W_sr [0, 3, 6, 7, 8] fun R hR => ?_
 simp only [go_sem, hle]
 refine hR _ _ ?_; clear hR R
 try simp only [go_sem, hle]
 refine W_block ?_
 refine W_loopT (α := Nat) (fun (k : Nat) => [(8, I (upK fi k))]) (fun (k : Nat) => bSg σ i3 i4 ((List.range k).foldl F b)) (fun (k : Nat) => k ≤ cn) (fun (k : Nat) => cn - k) (0) rfl (by first | rfl | (simp only [go_sem]; done) | (simp only [go_sem]; rfl)) (Nat.zero_le _) ?_
 rintro k hk
 refine W_seq fun Z13 K13 => ?_
 refine W_sr [0, 3, 6, 7, 8, 31] fun R hR => ?_
 simp only [go_sem, hle]
 try simp (disch := (first | omega | (simp only [go_sem, List.length_append] <;> omega))) only [wrapI, wrapU, strAdd, slT, slTa, slTb]
 refine hR _ _ ?_; clear hR R
 try simp only [go_sem, hle]
 refine W_cond rfl (fun c3 => ?_) (fun c3 => ?_)
 ·
  try simp only [nrm] at c3
  simp only [upK_eq] at c3 ⊢
  have hk1 : upK fi (k + 1) = fi + k + 1 := by rw [upK_eq]; omega
  have hk2 : k < cn := by omega
  obtain ⟨c2, hc2⟩ : ∃ z, (List.range k).foldl F b = z := ⟨_, rfl⟩
  rw [hc2]
  refine W_skip (K13 _ _ ?_)
  refine W_seq fun Z15 K15 => ?_
  refine W_block ?_
  refine W_draw [0, 3, 6, 7, 8] [0, 1, 2, 3, 4, 5, 6] [(0, 5), (0, 6), (3, 2), (4, 2)] [[], [], [1], [], [3], [1, 2, 3, 4], [0, 1, 2, 3, 4, 5]] mixed (by kernel_rfl) fun R hR => ?_
  simp only [go_sem, hle, ldS_at (q6 c2), ldS_at (get_extx (q6 c2))]
  refine GCall_of (Clone_pc Y _ now (by omega)) ?_
  simp only [go_sem, hle, ldS_at (q6 c2), ldS_at (get_extx (q6 c2))]
  try simp (disch := (first | omega | (simp only [go_sem, List.length_append] <;> omega))) only [wrapI, wrapU, appX_exact, appX_tok, strAdd, slT, slTa, slTb]
  try simp only [go_sem, hle, ldS_at (q6 c2), ldS_at (get_extx (q6 c2))]
  refine GCall_of (PC.ofRo (hIH2 (fi + k) c2 (by omega) (by omega)) (by simp only [go_sem] <;> rfl)) ?_
  simp only [go_sem, hle, ldS_at (q6 c2), ldS_at (get_extx (q6 c2))]
  try refine And.intro (by repeat' (first | refine And.intro ?_ ?_ | exact trivial | exact GOr_right (fun _ => by simp only [go_sem, hle, ldS_at (q6 c2), ldS_at (get_extx (q6 c2))]))) ?_
  refine hR _ _ (K15 _ _ ?_); clear hR R; try clear K15 Z15
  try simp only [go_sem, hle]
  refine W_region [0, 3, 6, 7, 8] fun R hR => ?_
  simp only [go_sem, hle]
  try simp (disch := (first | omega | (simp only [go_sem, List.length_append] <;> omega))) only [wrapI, wrapU, strAdd, slT, slTa, slTb]
  refine hR _ _ ?_; clear hR R
  try simp only [go_sem, hle]
  refine ⟨k + 1, ?_, by (try simp only []); omega, ?_⟩
  ·rw [foldl_snocR, hc2, hF, hk1]
   refine Weak.trans (Weak.cutX 0 0 (by simp only [bSg_len]; omega) (by simp only [bSg_rooms]; omega) (CleanSg_b hp.n34 hcl) (by simp only [go_sem, bSg_len] <;> omega) (by simp only [go_sem, bSg_len] <;> omega)) ?_
   simp only [go_sem]
   first | exact Weak.refl | exact Weak.eq rfl rfl
  try dsimp only
  omega
 try simp only [nrm] at c3
 simp only [upK_eq] at c3
 have hke : k = cn := by omega
 refine W_exit ?_
 simp only [go_sem, hle]
 try simp only [go_sem, hle]
 refine ⟨.inl (by trivial), ?_⟩
 subst hke
 exact Fin_more (rs := []) (CleanSg_b hp.n34 hcl) (by simp [bSg_len]) (Nat.le_refl _) rfl rfl (Wk.of_clean (.tuple _ Clean.all_nil))
 try simp only [go_sem]
 all_goals
  skip
theorem try_pc (Y : YEnv) (i1 i2 i3 i4 i5 i6 : Nat) (s : School) (r : Rules) (hV : ShV s) : ∀ (m : Nat) (σ : Sg) (now : List Int) (b : Best), PlS σ i1 i2 i3 i4 i5 i6 s r → now.length + m = s.wings.length → (∀ i, i < now.length → 0 ≤ stW now i ∧ stW now i ≤ 20000) →
 PC Tryz.prog Y 46 [ints now, .ptr i1 0, .ptr i5 0, .ptr i6 0] (bSg σ i3 i4 b) (.tuple []) (bSg σ i3 i4 (tryW s r m now b)) := by
 intro m
 induction m with
 | zero => intro σ now b hp hl hs; exact try0_pc Y σ i1 i2 i3 i4 i5 i6 s r now b hp hV (by omega) hs
 | succ m ih =>
  intro σ now b hp hl hs
  refine tryS_pc Y σ i1 i2 i3 i4 i5 i6 m s r now b hp hV hl hs fun τ x c hp2 h1 h2 => ih τ (now ++ [x]) c hp2 (by simp; omega) fun i hi => ?_
  rw [stW_snoc]
  simp only [List.length_append, List.length_cons, List.length_nil] at hi
  split
  ·exact hs i (by assumption)
  rw [if_pos (by omega)]; exact ⟨h1, h2⟩
def planA (s : School) (r : Rules) : (List Int × Int) × Int :=
 if chkS s ≠ 0 then (([], 0), chkS s) else if (s.wings.length : Int) > 5 then (([], 0), 5) else if chkRu r ≠ 0 then (([], 0), chkRu r)
 else if (tryW s r s.wings.length [] ⟨[], 0⟩).starts = [] then (([], 0), 7)
 else (((tryW s r s.wings.length [] ⟨[], 0⟩).starts, (tryW s r s.wings.length [] ⟨[], 0⟩).gap), 0)
set_option maxHeartbeats 8000000 in
theorem Plan_pc (Y : YEnv) (σ : Sg) (s : School) (r : Rules) (hn : ∀ v, v ∈ s.wings → v.name.length ≤ 2 ^ 62) (hl : s.wings.length < 2 ^ 40) :
 PC Tryz.prog Y 8 [shPV s, ruPV r] σ (.tuple [ints (planA s r).1.1, I (planA s r).1.2, I (planA s r).2]) (σ) := by
 refine PC_of_W Tryz.func8 rfl (by kernel_rfl) Tryz.ntmps8 (by simp) fun hcl hca => ?_
 refine W_seq fun Z1 K1 => ?_
 refine W_regionA [2, 3, 4, 5] 2 fun R hR => ?_
 simp only [go_sem, GLa_succ]
 refine ⟨_, rfl, rfl, by decide, by kernel_rfl, ?_⟩
 simp only [go_sem]
 refine hR _ _ (K1 _ _ ?_); clear hR R; try clear K1 Z1
 try simp only [go_sem]
 refine W_seq fun Z2 K2 => ?_
 refine W_sr [2, 3, 4, 5, 7] fun R hR => ?_
 simp only [go_sem]
 refine GCall_of (Check_pc Y _ s hn hl) ?_
 simp only [go_sem]
 refine hR _ _ ?_; clear hR R
 try simp only [go_sem]
 refine W_sr [2, 3, 4, 5, 7, 14] fun R hR => ?_
 simp only [go_sem]
 refine hR _ _ ?_; clear hR R
 try simp only [go_sem]
 refine W_cond rfl (fun c1 => ?_) (fun c1 => ?_)
 ·
  try simp only [nrm] at c1
  refine W_sr [4, 5, 6] fun R hR => ?_
  simp only [go_sem]
  refine hR _ _ ?_; clear hR R
  try simp only [go_sem]
  refine W_ret ?_
  simp only [go_sem]
  refine ⟨.inr (by trivial), ?_⟩
  refine Fin_same hcl (by show resPV Tryz.prog _ _ [.cell 4 22, .cell 5 3, .tmp 6] = some _; simp only [resPV, go_sem]; rfl) (Wk.ro (by simp only [go_sem]) ?_)
  try simp only [go_sem]
  all_goals
   rw [show planA s r = (([], 0), chkS s) from by unfold planA; rw [if_pos (by omega)]]
   first | done | rfl
 try simp only [nrm] at c1
 refine W_skip (K2 _ _ ?_)
 refine W_seq fun Z6 K6 => ?_
 refine W_sr [2, 3, 4, 5, 19] fun R hR => ?_
 simp only [go_sem]
 refine hR _ _ ?_; clear hR R
 try simp only [go_sem]
 refine W_cond rfl (fun c2 => ?_) (fun c2 => ?_)
 ·
  try simp only [nrm] at c2
  refine W_sr [4, 5, 6] fun R hR => ?_
  simp only [go_sem]
  refine hR _ _ ?_; clear hR R
  try simp only [go_sem]
  refine W_ret ?_
  simp only [go_sem]
  refine ⟨.inr (by trivial), ?_⟩
  refine Fin_same hcl (by show resPV Tryz.prog _ _ [.cell 4 22, .cell 5 3, .tmp 6] = some _; simp only [resPV, go_sem]; rfl) (Wk.ro (by simp only [go_sem]) ?_)
  try simp only [go_sem]
  all_goals
   rw [show planA s r = (([], 0), 5) from by unfold planA; rw [if_neg (by omega), if_pos (by omega)]]
   first | done | rfl
 try simp only [nrm] at c2
 refine W_skip (K6 _ _ ?_)
 refine W_seq fun Z9 K9 => ?_
 refine W_sr [2, 3, 4, 5, 8] fun R hR => ?_
 simp only [go_sem]
 refine GCall_of (checkRules_pc Y _ r) ?_
 simp only [go_sem]
 refine hR _ _ ?_; clear hR R
 try simp only [go_sem]
 refine W_sr [2, 3, 4, 5, 8, 23] fun R hR => ?_
 simp only [go_sem]
 refine hR _ _ ?_; clear hR R
 try simp only [go_sem]
 refine W_cond rfl (fun c3 => ?_) (fun c3 => ?_)
 ·
  try simp only [nrm] at c3
  refine W_sr [4, 5, 6] fun R hR => ?_
  simp only [go_sem]
  refine hR _ _ ?_; clear hR R
  try simp only [go_sem]
  refine W_ret ?_
  simp only [go_sem]
  refine ⟨.inr (by trivial), ?_⟩
  refine Fin_same hcl (by show resPV Tryz.prog _ _ [.cell 4 22, .cell 5 3, .tmp 6] = some _; simp only [resPV, go_sem]; rfl) (Wk.ro (by simp only [go_sem]) ?_)
  try simp only [go_sem]
  all_goals
   rw [show planA s r = (([], 0), chkRu r) from by unfold planA; rw [if_neg (by omega), if_neg (by omega), if_pos (by omega)]]
   first | done | rfl
 try simp only [nrm] at c3
 have hV := shV_of (s := s) (by omega)
 obtain ⟨b, hb⟩ : ∃ z, tryW s r s.wings.length [] ⟨[], 0⟩ = z := ⟨_, rfl⟩
 have hT : PC Tryz.prog Y 46 [.isl [] .ro, .ptr σ.store.length 0, .ptr (σ.store.length + 4) 0, .ptr (σ.store.length + 5) 0] (σ.ext [some (shCells s), some (ruCells r), some [.nilsl], some [I 0], some [.func (.func 43) [] [.ptr σ.store.length 0, .ptr (σ.store.length + 1) 0, .ptr (σ.store.length + 2) 0, .ptr (σ.store.length + 3) 0]], some [.func (.func 46) [] [.ptr σ.store.length 0, .ptr (σ.store.length + 4) 0, .ptr (σ.store.length + 5) 0]]] []) (.tuple []) (σ.ext [some (shCells s), some (ruCells r), some [mkS b.starts], some [I b.gap], some [.func (.func 43) [] [.ptr σ.store.length 0, .ptr (σ.store.length + 1) 0, .ptr (σ.store.length + 2) 0, .ptr (σ.store.length + 3) 0]], some [.func (.func 46) [] [.ptr σ.store.length 0, .ptr (σ.store.length + 4) 0, .ptr (σ.store.length + 5) 0]]] []) := by
  have hp : PlS (σ.ext [some (shCells s), some (ruCells r), some [.nilsl], some [I 0], some [.func (.func 43) [] [.ptr σ.store.length 0, .ptr (σ.store.length + 1) 0, .ptr (σ.store.length + 2) 0, .ptr (σ.store.length + 3) 0]], some [.func (.func 46) [] [.ptr σ.store.length 0, .ptr (σ.store.length + 4) 0, .ptr (σ.store.length + 5) 0]]] []) σ.store.length (σ.store.length + 1) (σ.store.length + 2) (σ.store.length + 3) (σ.store.length + 4) (σ.store.length + 5) s r :=
   ⟨Sg.get_ext0 .., Sg.get_ext (k := 1) .., Sg.get_ext (k := 4) .., Sg.get_ext (k := 5) .., by simp [Sg.ext], by simp [Sg.ext], by omega, by omega, by omega, by omega, by omega⟩
  have h := try_pc Y _ _ _ _ _ _ s r hV s.wings.length _ [] ⟨[], 0⟩ hp (by simp) (fun i hi => by cases hi)
  rw [hb, bSg_same (b := ⟨[], 0⟩) (Sg.get_ext (k := 2) ..) (Sg.get_ext (k := 3) ..)] at h
  have e : bSg (σ.ext [some (shCells s), some (ruCells r), some [.nilsl], some [I 0], some [.func (.func 43) [] [.ptr σ.store.length 0, .ptr (σ.store.length + 1) 0, .ptr (σ.store.length + 2) 0, .ptr (σ.store.length + 3) 0]], some [.func (.func 46) [] [.ptr σ.store.length 0, .ptr (σ.store.length + 4) 0, .ptr (σ.store.length + 5) 0]]] []) (σ.store.length + 2) (σ.store.length + 3) b = σ.ext [some (shCells s), some (ruCells r), some [mkS b.starts], some [I b.gap], some [.func (.func 43) [] [.ptr σ.store.length 0, .ptr (σ.store.length + 1) 0, .ptr (σ.store.length + 2) 0, .ptr (σ.store.length + 3) 0]], some [.func (.func 46) [] [.ptr σ.store.length 0, .ptr (σ.store.length + 4) 0, .ptr (σ.store.length + 5) 0]]] [] := by
   unfold bSg
   rw [setVar_ext, setVar_ext]
   rfl
  rw [e] at h
  exact h
 refine W_skip (K9 _ _ ?_)
 refine W_sr [2, 4, 5, 9] fun R hR => ?_
 simp only [go_sem]
 refine hR _ _ ?_; clear hR R
 try simp only [go_sem]
 refine W_sr [2, 4, 5, 9, 10] fun R hR => ?_
 simp only [go_sem]
 refine hR _ _ ?_; clear hR R
 try simp only [go_sem]
 refine W_sr [4, 5, 10] fun R hR => ?_
 simp only [go_sem]
 refine hR _ _ ?_; clear hR R
 try simp only [go_sem]
 refine W_sr [4, 5] fun R hR => ?_
 simp only [go_sem]
 refine GCall_of (PC.ofRo (hT) (by simp only [go_sem] <;> rfl)) ?_
 simp only [go_sem]
 refine hR _ _ ?_; clear hR R
 try simp only [go_sem]
 refine W_seq fun Z17 K17 => ?_
 refine W_sr [4, 5, 30] fun R hR => ?_
 simp only [go_sem]
 refine hR _ _ ?_; clear hR R
 try simp only [go_sem]
 refine W_cond rfl (fun c4 => ?_) (fun c4 => ?_)
 ·
  try simp only [nrm] at c4
  have hne : b.starts = [] := by simpa using c4
  refine W_sr [4, 5, 6] fun R hR => ?_
  simp only [go_sem]
  refine hR _ _ ?_; clear hR R
  try simp only [go_sem]
  refine W_ret ?_
  simp only [go_sem]
  refine ⟨.inr (by trivial), ?_⟩
  refine Fin_same hcl (by show resPV Tryz.prog _ _ [.cell 4 22, .cell 5 3, .tmp 6] = some _; simp only [resPV, go_sem]; rfl) (Wk.ro (by simp only [go_sem]) ?_)
  try simp only [go_sem]
  all_goals
   rw [show planA s r = (([], 0), 7) from by unfold planA; rw [if_neg (by omega), if_neg (by omega), if_neg (by omega), hb, if_pos hne]]
   first | done | rfl
 try simp only [nrm] at c4
 have hne : b.starts ≠ [] := by intro h; rw [h] at c4; simp at c4
 have hm : mkS b.starts = .isl (b.starts.map I) .ro := (mkS_cons hne).symm
 refine W_skip (K17 _ _ ?_)
 refine W_seq fun Z20 K20 => ?_
 refine W_draw [4, 5, 6] [0, 1, 2, 3, 4] [(1, 3)] [[], [], [0], [0, 1, 2], [0, 1, 2, 3]] mixed (by kernel_rfl) fun R hR => ?_
 simp only [go_sem, hm]
 try refine And.intro (by repeat' (first | refine And.intro ?_ ?_ | exact trivial | exact GOr_right (fun _ => by simp only [go_sem, hm]))) ?_
 refine hR _ _ (K20 _ _ ?_); clear hR R; try clear K20 Z20
 try simp only [go_sem, hm]
 refine W_ret ?_
 simp only [go_sem, hm]
 refine ⟨.inr (by trivial), ?_⟩
 refine Fin_same hcl (by show resPV Tryz.prog _ _ [.cell 4 22, .cell 5 3, .tmp 6] = some _; simp only [resPV, go_sem]; rfl) (Wk.ro (by simp only [go_sem]) ?_)
 try simp only [go_sem]
 all_goals
  rw [show planA s r = ((b.starts, b.gap), 0) from by unfold planA; rw [if_neg (by omega), if_neg (by omega), if_neg (by omega), hb, if_neg hne]]
  first | done | rfl | (simp only [go_sem]; done)
theorem cdiv_le {d a b : Int} (hd : 0 ≤ d) (ha : 1 ≤ a) (hab : a ≤ b) : (d + b - 1).tdiv b ≤ (d + a - 1).tdiv a := by
 rw [Int.tdiv_eq_ediv_of_nonneg (by omega), Int.tdiv_eq_ediv_of_nonneg (by omega)]
 obtain ⟨q, hq⟩ : ∃ q, (d + a - 1) / a = q := ⟨_, rfl⟩
 rw [hq]
 have h1 : d + a - 1 < (q + 1) * a := by
  rw [← hq]; exact Int.lt_ediv_add_one_mul_self _ (by omega)
 have h0 : 0 ≤ q := by rw [← hq]; exact Int.ediv_nonneg (by omega) (by omega)
 have h2 : d ≤ q * a := by rw [Int.add_mul] at h1; omega
 have h3 : q * a ≤ q * b := Int.mul_le_mul_of_nonneg_left hab h0
 have h4 : (d + b - 1) / b < q + 1 := Int.ediv_lt_of_lt_mul (by omega) (by rw [Int.add_mul]; omega)
 omega
theorem passF_mono {ws : List Wing} {st : List Int} {place : Int} (h : ∀ w, w ∈ ws → WgV w) (hp : 0 ≤ place) : ∀ (l : List (Nat × Int)) (m1 m2 : Int), (∀ p, p ∈ l → 0 ≤ p.2) → m1 ≤ m2 → l.foldl (passOne ws st 1 place) m1 ≤ l.foldl (passOne ws st 0 place) m2 := by
 intro l
 induction l with
 | nil => intro m1 m2 _ hm; exact hm
 | cons p l ih =>
  intro m1 m2 hl hm
  rw [List.foldl_cons, List.foldl_cons]
  refine ih _ _ (fun q hq => hl q (List.mem_cons_of_mem _ hq)) ?_
  have h1 := hl p (List.mem_cons_self ..)
  have h2 := cdiv_le (d := place + p.2) (a := paceW ws 0 p.1) (b := paceW ws 1 p.1) (by omega) (paceW_bd h 0 p.1).1 (paceW_le h p.1)
  unfold passOne
  omega
theorem clear_mono {ws : List Wing} {st : List Int} {place : Int} (h : ∀ w, w ∈ ws → WgV w) (hp : 0 ≤ place) (i : Nat) : clearW ws st 1 i place ≤ clearW ws st 0 i place := by
 have := (lenW_bd h i).1
 exact passF_mono h (by omega) _ _ _ (fun p hpp => (aheadL_bd h i 0 (Int.le_refl _) p hpp).2.1) (Int.le_refl _)
theorem lasts_mono {s : School} (hV : ShV s) (st : List Int) : (lastsW s st).1 ≤ (lastsW s st).2 := by
 have := clear_mono (st := st) hV.wv (by have := hV.rt; omega : 0 ≤ s.route) (s.wings.length - 1)
 simp only [lastsW]
 omega
theorem foldl_cong {α : Type} {f g : Int → α → Int} : ∀ (l : List α) (m : Int), (∀ m p, p ∈ l → f m p = g m p) → l.foldl f m = l.foldl g m := by
 intro l
 induction l with
 | nil => intro m _; rfl
 | cons p l ih =>
  intro m h
  rw [List.foldl_cons, List.foldl_cons, h m p (List.mem_cons_self ..)]
  exact ih _ fun m q hq => h m q (List.mem_cons_of_mem _ hq)
theorem leastW_snoc {ws : List Wing} (hw : ∀ w, w ∈ ws → WgV w) {now : List Int} {x : Int} {i : Nat} (h : i ≤ now.length) : leastW ws (now ++ [x]) i = leastW ws now i := by
 cases i with
 | zero => rfl
 | succ k =>
  simp only [leastW, clearW, passW]
  rw [stW_snoc, if_pos (by omega)]
  refine foldl_cong _ _ fun m p hp => ?_
  have := (aheadL_bd hw k 0 (Int.le_refl _) p hp).1
  unfold passOne
  rw [stW_snoc, if_pos (by omega)]
/-- Starts that may be, as far as they are known. -/
structure OkN (s : School) (now : List Int) : Prop where
 le : now.length ≤ s.wings.length
 bd : ∀ i, i < now.length → 0 ≤ stW now i ∧ stW now i ≤ 20000
 ge : ∀ i, i < now.length → leastW s.wings now i ≤ stW now i
theorem OkN.nil (s : School) : OkN s [] := ⟨Nat.zero_le _, fun i h => absurd h (Nat.not_lt_zero i), fun i h => absurd h (Nat.not_lt_zero i)⟩
theorem OkN.snoc {s : School} (hV : ShV s) {now : List Int} {x : Int} (h : OkN s now) (hl : now.length < s.wings.length) (h0 : leastW s.wings now now.length ≤ x) (h1 : x ≤ 20000) : OkN s (now ++ [x]) := by
 have hg := least_ge (ws := s.wings) (st := now) (i := now.length) (fun k hk => (h.bd k hk).1)
 refine ⟨by simp; omega, fun i hi => ?_, fun i hi => ?_⟩
 ·simp only [List.length_append, List.length_cons, List.length_nil] at hi
  rw [stW_snoc]
  split
  ·exact h.bd i (by assumption)
  rw [if_pos (by omega)]; omega
 simp only [List.length_append, List.length_cons, List.length_nil] at hi
 rw [leastW_snoc hV.wv (by omega), stW_snoc]
 split
 ·exact h.ge i (by assumption)
 have : i = now.length := by omega
 subst this
 rw [if_pos rfl]; exact h0
theorem chkStF_ok {ws : List Wing} {st : List Int} : ∀ (l : List Int) (i : Nat), l = st.drop i → (∀ j, j < st.length → (0 ≤ stW st j ∧ stW st j ≤ 20000) ∧ leastW ws st j ≤ stW st j) → chkStF ws st i l = 0 := by
 intro l
 induction l with
 | nil => intro i _ _; rfl
 | cons x l ih =>
  intro i hl h
  have hx : st[i]? = some x := by
   have : (st.drop i)[0]? = some x := by rw [← hl]; rfl
   rwa [List.getElem?_drop, Nat.add_zero] at this
  have hlt := (List.getElem?_eq_some_iff.1 hx).1
  have hj := h i hlt
  rw [stW_at hx] at hj
  have hd : l = st.drop (i + 1) := by
   have : (st.drop i).drop 1 = l := by rw [← hl]; rfl
   rw [List.drop_drop] at this
   exact this.symm
  simp only [chkStF]
  rw [if_neg (by rw [inR_true.2 hj.1]; simp), if_neg (by omega)]
  exact ih _ hd h
theorem OkN.chk {s : School} {st : List Int} (hc : chkS s = 0) (h : OkN s st) (hl : st.length = s.wings.length) : chkSt s st = 0 := by
 unfold chkSt
 rw [if_neg (by omega), if_neg (by omega)]
 exact chkStF_ok _ _ (by simp) fun j hj => ⟨h.bd j hj, h.ge j hj⟩
/-- A plan that may be. -/
structure PlanV (s : School) (r : Rules) (st : List Int) : Prop where
 ok : OkN s st
 ln : st.length = s.wings.length
 lo : r.least ≤ (lastsW s st).1
 hi : (lastsW s st).2 ≤ r.most
def BestV (s : School) (r : Rules) (b : Best) : Prop := b.starts = [] ∨ PlanV s r b.starts
theorem tryC_v {s : School} {r : Rules} {now : List Int} {b : Best} (h : OkN s now) (hl : now.length = s.wings.length) (hb : BestV s r b) : BestV s r (tryC s r now b) := by
 unfold tryC
 split
 ·exact hb
 rename_i h1
 split
 ·have q1 : r.least ≤ (lastsW s now).1 := by omega
  have q2 : (lastsW s now).2 ≤ r.most := by omega
  exact .inr ⟨h, hl, q1, q2⟩
 exact hb
theorem foldl_v {α : Type} {Q : Best → Prop} {f : Best → α → Best} : ∀ (l : List α) (b : Best), Q b → (∀ c x, x ∈ l → Q c → Q (f c x)) → Q (l.foldl f b) := by
 intro l
 induction l with
 | nil => intro b h _; exact h
 | cons x l ih =>
  intro b h hf
  rw [List.foldl_cons]
  exact ih _ (hf b x (List.mem_cons_self ..) h) fun c y hy => hf c y (List.mem_cons_of_mem _ hy)
theorem tryW_v {s : School} {r : Rules} (hV : ShV s) : ∀ (m : Nat) (now : List Int) (b : Best), OkN s now → now.length + m = s.wings.length → BestV s r b → BestV s r (tryW s r m now b) := by
 intro m
 induction m with
 | zero => intro now b h hl hb; exact tryC_v h (by omega) hb
 | succ m ih =>
  intro now b h hl hb
  simp only [tryW]
  refine foldl_v _ _ hb fun c k hk hc => ih _ _ ?_ (by simp; omega) hc
  have hk2 := List.mem_range.1 hk
  unfold cntT at hk2
  exact h.snoc hV (by omega) (by omega) (by omega)
theorem plan_ok {s : School} {r : Rules} {st : List Int} {g : Int} (h : planA s r = ((st, g), 0)) : chkS s = 0 ∧ chkRu r = 0 ∧ PlanV s r st ∧ st ≠ [] ∧ s.wings.length ≤ 5 := by
 unfold planA at h
 split at h
 ·rename_i h1; simp only [Prod.mk.injEq] at h; exact absurd h.2 h1
 rename_i h1
 split at h
 ·simp only [Prod.mk.injEq] at h; exact absurd h.2 (by decide)
 rename_i h2
 split at h
 ·rename_i h3; simp only [Prod.mk.injEq] at h; exact absurd h.2 h3
 rename_i h3
 split at h
 ·simp only [Prod.mk.injEq] at h; exact absurd h.2 (by decide)
 rename_i h4
 simp only [Prod.mk.injEq] at h
 have hV := shV_of (s := s) (by omega)
 rcases tryW_v (r := r) hV s.wings.length [] ⟨[], 0⟩ (.nil s) (by simp) (.inl rfl) with h5 | h5
 ·exact absurd h5 h4
 rw [h.1.1] at h5 h4
 exact ⟨by omega, by omega, h5, h4, by omega⟩
theorem plan_lasts {s : School} {r : Rules} {st : List Int} {g : Int} (h : planA s r = ((st, g), 0)) : lastsA s st r = (1, lastsW s st, 0) := by
 obtain ⟨h1, h2, h3, h4, h5⟩ := plan_ok h
 have hV := shV_of h1
 have hm := lasts_mono hV st
 have hlo := h3.lo
 have hhi := h3.hi
 unfold lastsA
 rw [if_neg (by rw [h3.ok.chk h1 h3.ln]; simp), if_neg (by omega)]
 unfold verdict
 rw [inR_true.2 ⟨by omega, by omega⟩, inR_true.2 ⟨by omega, by omega⟩]
 rfl
end Go.Proofs.YtpkkegbiddcodaaGreatDoor.Pa
namespace Go.Proofs.YtpkkegbiddcodaaGreatDoor.Ni
open Go Go.RowKit Pa
set_option maxRecDepth 100000
/-- The first error of a list. -/
def firstE : List Int → Int
 | [] => 0
 | e :: l => if e ≠ 0 then e else firstE l
def unl (b : Bool) (e : Int) : Int := if b then 0 else e
def fnPV (p : FuncId × List PV) : PV := .func (.func p.1) [] p.2
attribute [go_sem] fnPV
/-- Functions that say errors: a later one is asked only if those before it say that all is well. -/
def AskAll (Y : YEnv) (σ : Sg) (fns : List (FuncId × List PV)) (es : List Int) : Prop :=
 fns.length = es.length ∧ ∀ (i : Nat) (p : FuncId × List PV) (e : Int), fns[i]? = some p → es[i]? = some e → (∀ j x, j < i → es[j]? = some x → x = 0) → PC Tryz.prog Y p.1 p.2 σ (I e) σ
theorem AskAll.nil {Y : YEnv} {σ : Sg} : AskAll Y σ [] [] := ⟨rfl, fun i p e h => by simp at h⟩
theorem AskAll.cons {Y : YEnv} {σ : Sg} {p : FuncId × List PV} {e : Int} {fns : List (FuncId × List PV)} {es : List Int} (h : PC Tryz.prog Y p.1 p.2 σ (I e) σ) (hr : e = 0 → AskAll Y σ fns es) (hl : fns.length = es.length) : AskAll Y σ (p :: fns) (e :: es) := by
 refine ⟨by simp [hl], fun i q x h1 h2 h3 => ?_⟩
 cases i with
 | zero => simp at h1 h2; subst h1 h2; exact h
 | succ i =>
  have h0 : e = 0 := h3 0 e (by omega) rfl
  exact (hr h0).2 i q x (by simpa using h1) (by simpa using h2) fun j y hj hy => h3 (j + 1) y (by omega) (by simpa using hy)
set_option maxHeartbeats 2000000 in
theorem in_pc (Y : YEnv) (σ : Sg) (n lo hi : Int) :
 PC Tryz.prog Y 171 [I n, I lo, I hi] σ (.bool (inR n lo hi)) (σ) := by
 refine PC_of_W Tryz.func171 rfl (by kernel_rfl) Tryz.ntmps171 (by simp) fun hcl hca => ?_
 refine W_sr [0, 1, 2] fun R hR => ?_
 simp only [go_sem]
 refine hR _ _ ?_; clear hR R
 try simp only [go_sem]
 refine W_sr [6] fun R hR => ?_
 simp only [go_sem]
 refine GWant_split (fun g1 => ?_) (fun g1 => ?_)
 ·try simp only [Bool.not_eq_true', Bool.not_eq_false'] at g1
  have n1 := g1; try simp only [nrm] at n1
  simp only [go_sem, g1]
  refine hR _ _ ?_; clear hR R
  try simp only [go_sem]
  refine W_ret ?_
  simp only [go_sem]
  refine ⟨.inr (by trivial), ?_⟩
  first | refine Fsa hcl rfl ?_ | refine Fse hcl rfl ?_
  try simp only [go_sem]
  all_goals
   simp [inR, *]
 try simp only [Bool.not_eq_true', Bool.not_eq_false'] at g1
 have n1 := g1; try simp only [nrm] at n1
 simp only [go_sem, g1]
 refine hR _ _ ?_; clear hR R
 try simp only [go_sem]
 refine W_ret ?_
 simp only [go_sem]
 refine ⟨.inr (by trivial), ?_⟩
 first | refine Fsa hcl rfl ?_ | refine Fse hcl rfl ?_
 try simp only [go_sem]
 all_goals
  simp [inR, *]
set_option maxHeartbeats 2000000 in
theorem unless_pc (Y : YEnv) (σ : Sg) (b : Bool) (e : Int) :
 PC Tryz.prog Y 110 [.bool b, I e] σ (I (unl b e)) (σ) := by
 refine PC_of_W Tryz.func110 rfl (by kernel_rfl) Tryz.ntmps110 (by simp) fun hcl hca => ?_
 refine W_sr [0, 1] fun R hR => ?_
 simp only [go_sem]
 refine hR _ _ ?_; clear hR R
 try simp only [go_sem]
 refine W_seq fun Z2 K2 => ?_
 refine W_sr [1, 5] fun R hR => ?_
 simp only [go_sem]
 refine hR _ _ ?_; clear hR R
 try simp only [go_sem]
 refine W_cond rfl (fun c1 => ?_) (fun c1 => ?_)
 ·
  try simp only [nrm] at c1
  refine W_sr [4] fun R hR => ?_
  simp only [go_sem]
  refine hR _ _ ?_; clear hR R
  try simp only [go_sem]
  refine W_ret ?_
  simp only [go_sem]
  refine ⟨.inr (by trivial), ?_⟩
  first | refine Fsa hcl rfl ?_ | refine Fse hcl rfl ?_
  try simp only [go_sem]
  all_goals
   simp [unl, *]
 try simp only [nrm] at c1
 refine W_skip (K2 _ _ ?_)
 refine W_sr [4] fun R hR => ?_
 simp only [go_sem]
 refine hR _ _ ?_; clear hR R
 try simp only [go_sem]
 refine W_ret ?_
 simp only [go_sem]
 refine ⟨.inr (by trivial), ?_⟩
 first | refine Fsa hcl rfl ?_ | refine Fse hcl rfl ?_
 try simp only [go_sem]
 all_goals
  simp [unl, *]
set_option maxHeartbeats 2000000 in
theorem first_pc (Y : YEnv) (σ : Sg) (fns : List (FuncId × List PV)) (es : List Int) (o : Own) (hall : AskAll Y σ fns es) (hl : fns.length < 2 ^ 30) :
 PC Tryz.prog Y 106 [.isl (fns.map fnPV) o] σ (I (firstE es)) (σ) := by
 refine PC_of_W Tryz.func106 rfl (by kernel_rfl) Tryz.ntmps106 (by simp) fun hcl hca => ?_
 have hle := hall.1
 have ho : OwnLt σ.rooms.length o := by
  have h := hca (.isl (fns.map fnPV) o) (by simp)
  cases h
  assumption
 obtain ⟨res, hres⟩ : ∃ r, firstE es = r := ⟨_, rfl⟩
 rw [hres]
 refine W_sr [0] fun R hR => ?_
 simp only [go_sem]
 refine hR _ _ ?_; clear hR R
 try simp only [go_sem]
 refine W_seq fun Z2 K2 => ?_
 refine W_sr [6, 7, 8] fun R hR => ?_
 simp only [go_sem]
 refine hR _ _ ?_; clear hR R
 try simp only [go_sem]
 refine W_block ?_
 refine W_loopS (α := Nat) (fun (i : Nat) => [(8, I i)]) (fun (i : Nat) => i ≤ fns.length ∧ res = firstE (es.drop i) ∧ ∀ j x, j < i → es[j]? = some x → x = 0) (fun (i : Nat) => fns.length - i) (0) rfl (⟨Nat.zero_le _, hres.symm, fun j x hj => absurd hj (Nat.not_lt_zero j)⟩) ?_
 rintro i ⟨hi, hinv, hz⟩
 refine W_sr [6, 7, 8, 9] fun R hR => ?_
 simp only [go_sem]
 refine hR _ _ ?_; clear hR R
 try simp only [go_sem]
 refine W_seq fun Z5 K5 => ?_
 refine W_cond rfl (fun c1 => ?_) (fun c1 => ?_)
 ·
  try simp only [nrm] at c1
  have hi' : i < fns.length := by first | assumption | omega
  obtain ⟨p, hx⟩ : ∃ p, fns[i]? = some p := ⟨fns[i], by simp [hi']⟩
  have hdrop : fns.drop i = p :: fns.drop (i + 1) := by
   rw [List.drop_eq_getElem_cons hi']; congr 1; exact (List.getElem?_eq_some_iff.1 hx).2
  obtain ⟨e, hxe⟩ : ∃ z, es[i]? = some z := ⟨es[i]'(by omega), by simp⟩
  have hdrop2 : es.drop i = e :: es.drop (i + 1) := by
   rw [List.drop_eq_getElem_cons (by omega)]; congr 1; exact (List.getElem?_eq_some_iff.1 hxe).2
  rw [hdrop2] at hinv
  simp only [firstE] at hinv
  refine W_skip (K5 _ _ ?_)
  refine W_seq fun Z6 K6 => ?_
  refine W_block ?_
  refine W_sr [4, 6, 7, 8] fun R hR => ?_
  simp only [go_sem, hx]
  refine hR _ _ ?_; clear hR R
  try simp only [go_sem, hx]
  refine W_sr [5, 6, 7, 8] fun R hR => ?_
  simp only [go_sem, hx]
  refine GCall_of (hall.2 i p e hx hxe hz) ?_
  simp only [go_sem, hx]
  refine hR _ _ ?_; clear hR R
  try simp only [go_sem, hx]
  refine W_sr [5, 6, 7, 8, 15] fun R hR => ?_
  simp only [go_sem, hx]
  refine hR _ _ ?_; clear hR R
  try simp only [go_sem, hx]
  refine W_cond rfl (fun c2 => ?_) (fun c2 => ?_)
  ·
   try simp only [nrm] at c2
   refine W_sr [2] fun R hR => ?_
   simp only [go_sem, hx]
   refine hR _ _ ?_; clear hR R
   try simp only [go_sem, hx]
   refine W_ret ?_
   simp only [go_sem, hx]
   refine ⟨.inr (by trivial), ?_⟩
   first | refine Fsa hcl rfl ?_ | refine Fse hcl rfl ?_
   try simp only [go_sem]
   all_goals
    rw [hinv, if_pos (by omega)]
  try simp only [nrm] at c2
  refine W_skip (K6 _ _ ?_)
  refine W_region [6, 7, 8] fun R hR => ?_
  simp only [go_sem, hx]
  try simp (disch := (first | omega | (simp only [go_sem, List.length_append] <;> omega))) only [wrapI, wrapU, strAdd, slT, slTa, slTb]
  refine hR _ _ ?_; clear hR R
  try simp only [go_sem, hx]
  refine ⟨i + 1, ?_, by (try simp only []); omega, ?_⟩
  ·first | exact Weak.refl | exact Wqq
  try dsimp only
  rw [if_neg (by omega)] at hinv
  refine ⟨by omega, hinv, fun j x hj hx2 => ?_⟩
  by_cases hji : j = i
  ·subst hji; rw [hxe] at hx2; injection hx2 with hx2; omega
  exact hz j x (by omega) hx2
 try simp only [nrm] at c1
 have hdrop2 : es.drop i = [] := List.drop_eq_nil_of_le (by omega)
 rw [hdrop2] at hinv
 simp only [firstE] at hinv
 refine W_exit ?_
 simp only [go_sem]
 refine K2 _ _ ?_
 refine W_sr [2] fun R hR => ?_
 simp only [go_sem]
 refine hR _ _ ?_; clear hR R
 try simp only [go_sem]
 refine W_ret ?_
 simp only [go_sem]
 refine ⟨.inr (by trivial), ?_⟩
 first | refine Fsa hcl rfl ?_ | refine Fse hcl rfl ?_
 try simp only [go_sem]
 all_goals
  rw [hinv]; first | done | rfl
set_option maxHeartbeats 2000000 in
theorem rules1_pc (Y : YEnv) (σ : Sg) (i1 : Nat) (r : Rules) (hd : σ.store[i1]? = some (some (ruCells r))) :
 PC Tryz.prog Y 223 [.ptr i1 0] σ (I (unl (inR r.least 0 100000 && inR r.most 0 100000 && inR r.gap 0 20000) 2)) (σ) := by
 refine PC_of_W Tryz.func223 rfl (by kernel_rfl) Tryz.ntmps223 (by simp) fun hcl hca => ?_
 refine W_sr [0] fun R hR => ?_
 simp only [go_sem, ldS_at hd]
 refine hR _ _ ?_; clear hR R
 try simp only [go_sem, ldS_at hd]
 refine W_sr [1] fun R hR => ?_
 simp only [go_sem, ldS_at hd]
 refine GCall_of (in_pc Y _ r.least 0 100000) ?_
 simp only [go_sem, ldS_at hd]
 refine GWant_split (fun g1 => ?_) (fun g1 => ?_)
 ·try simp only [Bool.not_eq_true', Bool.not_eq_false'] at g1
  have n1 := g1; try simp only [nrm] at n1
  simp only [go_sem, ldS_at hd, g1]
  refine GCall_of (in_pc Y _ r.most 0 100000) ?_
  simp only [go_sem, ldS_at hd, g1]
  refine GWant_split (fun g2 => ?_) (fun g2 => ?_)
  ·try simp only [Bool.not_eq_true', Bool.not_eq_false'] at g2
   have n2 := g2; try simp only [nrm] at n2
   simp only [go_sem, ldS_at hd, g1, g2]
   refine GCall_of (in_pc Y _ r.gap 0 20000) ?_
   simp only [go_sem, ldS_at hd, g1, g2]
   refine GCall_of (unless_pc Y _ _ 2) ?_
   simp only [go_sem, ldS_at hd, g1, g2]
   refine hR _ _ ?_; clear hR R
   try simp only [go_sem, ldS_at hd]
   refine W_ret ?_
   simp only [go_sem, ldS_at hd]
   refine ⟨.inr (by trivial), ?_⟩
   first | refine Fsa hcl rfl ?_ | refine Fse hcl rfl ?_
   try simp only [go_sem]
   all_goals
    first | rfl | (simp_all; done) | (simp_all; omega)
  try simp only [Bool.not_eq_true', Bool.not_eq_false'] at g2
  have n2 := g2; try simp only [nrm] at n2
  simp only [go_sem, ldS_at hd, g1, g2]
  refine GCall_of (unless_pc Y _ _ 2) ?_
  simp only [go_sem, ldS_at hd, g1, g2]
  refine hR _ _ ?_; clear hR R
  try simp only [go_sem, ldS_at hd]
  refine W_ret ?_
  simp only [go_sem, ldS_at hd]
  refine ⟨.inr (by trivial), ?_⟩
  first | refine Fsa hcl rfl ?_ | refine Fse hcl rfl ?_
  try simp only [go_sem]
  all_goals
   first | rfl | (simp_all; done) | (simp_all; omega)
 try simp only [Bool.not_eq_true', Bool.not_eq_false'] at g1
 have n1 := g1; try simp only [nrm] at n1
 simp only [go_sem, ldS_at hd, g1]
 refine GCall_of (unless_pc Y _ _ 2) ?_
 simp only [go_sem, ldS_at hd, g1]
 refine hR _ _ ?_; clear hR R
 try simp only [go_sem, ldS_at hd]
 refine W_ret ?_
 simp only [go_sem, ldS_at hd]
 refine ⟨.inr (by trivial), ?_⟩
 first | refine Fsa hcl rfl ?_ | refine Fse hcl rfl ?_
 try simp only [go_sem]
 all_goals
  first | rfl | (simp_all; done) | (simp_all; omega)
set_option maxHeartbeats 2000000 in
theorem rules2_pc (Y : YEnv) (σ : Sg) (i1 : Nat) (r : Rules) (hd : σ.store[i1]? = some (some (ruCells r))) :
 PC Tryz.prog Y 224 [.ptr i1 0] σ (I (unl (decide (r.least ≤ r.most)) 9)) (σ) := by
 refine PC_of_W Tryz.func224 rfl (by kernel_rfl) Tryz.ntmps224 (by simp) fun hcl hca => ?_
 refine W_sr [0] fun R hR => ?_
 simp only [go_sem, ldS_at hd]
 refine hR _ _ ?_; clear hR R
 try simp only [go_sem, ldS_at hd]
 refine W_sr [1] fun R hR => ?_
 simp only [go_sem, ldS_at hd]
 refine GCall_of (unless_pc Y _ _ 9) ?_
 simp only [go_sem, ldS_at hd]
 refine hR _ _ ?_; clear hR R
 try simp only [go_sem, ldS_at hd]
 refine W_ret ?_
 simp only [go_sem, ldS_at hd]
 refine ⟨.inr (by trivial), ?_⟩
 first | refine Fsa hcl rfl ?_ | refine Fse hcl rfl ?_
 try simp only [go_sem]
 all_goals
  first | rfl | (simp_all; done) | (simp_all; omega)
open Go Go.RowKit Pa
theorem firstE_ru (r : Rules) : firstE [unl (inR r.least 0 100000 && inR r.most 0 100000 && inR r.gap 0 20000) 2, unl (decide (r.least ≤ r.most)) 9] = chkRu r := by
 unfold chkRu
 by_cases h4 : r.least ≤ r.most
 ·have h5 : ¬ r.least > r.most := by omega
  cases h1 : inR r.least 0 100000 <;> cases h2 : inR r.most 0 100000 <;> cases h3 : inR r.gap 0 20000 <;> simp [firstE, unl, h4, h5]
 have h5 : r.least > r.most := by omega
 cases h1 : inR r.least 0 100000 <;> cases h2 : inR r.most 0 100000 <;> cases h3 : inR r.gap 0 20000 <;> simp [firstE, unl, h4, h5]
set_option maxHeartbeats 2000000 in
theorem checkRules_pc (Y : YEnv) (σ : Sg) (r : Rules) :
 PC Tryz.prog Y 166 [ruPV r] σ (I (chkRu r)) (σ) := by
 refine PC_of_W Tryz.func166 rfl (by kernel_rfl) Tryz.ntmps166 (by simp) fun hcl hca => ?_
 refine W_sr [1] fun R hR => ?_
 simp only [go_sem]
 refine hR _ _ ?_; clear hR R
 try simp only [go_sem]
 refine W_sr [2] fun R hR => ?_
 simp only [go_sem]
 refine GCall_of (PC.val (v' := I (chkRu r)) (first_pc Y _ [(223, [.ptr σ.store.length 0]), (224, [.ptr σ.store.length 0])] [_, _] .exact (.cons (rules1_pc Y _ _ r (Sg.get_ext0 ..)) (fun _ => .cons (rules2_pc Y _ _ r (Sg.get_ext0 ..)) (fun _ => .nil) rfl) rfl) (by simp)) (by rw [firstE_ru])) ?_
 simp only [go_sem]
 refine hR _ _ ?_; clear hR R
 try simp only [go_sem]
 refine W_ret ?_
 simp only [go_sem]
 refine ⟨.inr (by trivial), ?_⟩
 first | refine Fsa hcl rfl ?_ | refine Fse hcl rfl ?_
 try simp only [go_sem]
 all_goals
  first | rfl | (simp_all; done) | (simp_all; omega)
end Go.Proofs.YtpkkegbiddcodaaGreatDoor.Ni
namespace Go.Proofs.YtpkkegbiddcodaaGreatDoor.Co
open Go Go.RowKit
open Pa (inR inR_true inR_false intsO)
set_option maxRecDepth 100000
structure Fund where
 day : Int
 until' : Int
 amount : Int
 uses : List Int
 deriving DecidableEq
structure Bill where
 day : Int
 use : Int
 amount : Int
 deriving DecidableEq
structure Ledger where
 funds : List Fund
 bills : List Bill
def fdCells (f : Fund) : List PV := [I f.day, I f.until', I f.amount, ints f.uses]
def fdPV (f : Fund) : PV := .agg (fdCells f)
def blCells (b : Bill) : List PV := [I b.day, I b.use, I b.amount]
def blPV (b : Bill) : PV := .agg (blCells b)
def lgCells (l : Ledger) : List PV := [.isl (l.funds.map fdPV) .ro, .isl (l.bills.map blPV) .ro]
def lgPV (l : Ledger) : PV := .agg (lgCells l)
theorem clean_fd {a b c : Nat} (f : Fund) : Clean a b c (fdPV f) := .agg _ (Clean.all_cons (.int _ _) (Clean.all_cons (.int _ _) (Clean.all_cons (.int _ _) (Clean.all_cons (by simp only [go_sem]) Clean.all_nil))))
theorem clean_bl {a b c : Nat} (f : Bill) : Clean a b c (blPV f) := .agg _ (Clean.all_cons (.int _ _) (Clean.all_cons (.int _ _) (Clean.all_cons (.int _ _) Clean.all_nil)))
theorem okC_fd {xs : List Fund} : okC 4 (xs.map fdPV) = True := okC_map fun x => by simp [okC, fdPV, fdCells, PV.cells, PV.scalar]
theorem okC_bl {xs : List Bill} : okC 3 (xs.map blPV) = True := okC_map fun x => by simp [okC, blPV, blCells, PV.cells, PV.scalar]
theorem cA_fd {a b c : Nat} {xs : List Fund} : CleanAll a b c (xs.map fdPV) = True := CleanAll_map clean_fd
theorem cA_bl {a b c : Nat} {xs : List Bill} : CleanAll a b c (xs.map blPV) = True := CleanAll_map clean_bl
attribute [go_sem] okC_fd okC_bl cA_fd cA_bl fdPV fdCells blPV blCells lgPV lgCells
def allR (lo hi : Int) (l : List Int) : Bool := l.all fun n => inR n lo hi
/-- The first error of uses that grow: the one before is p. -/
def usesErr : Option Int → List Int → Int
 | _, [] => 0
 | p, u :: r => if !(inR u 0 7) then 2 else if (match p with | some q => decide (u ≤ q) | none => false) then 9 else usesErr (some u) r
def chkFd (f : Fund) : Int :=
 if !(allR 0 3650 [f.day, f.until']) then 2 else if f.day > f.until' then 9 else if !(allR 0 1000000000 [f.amount]) then 2 else if (f.uses.length : Int) > 8 then 5 else usesErr none f.uses
def chkFds : List Fund → Int
 | [] => 0
 | f :: r => if chkFd f ≠ 0 then chkFd f else chkFds r
def blBad (b : Bill) : Bool := !(allR 0 3650 [b.day]) || (!(allR 0 7 [b.use]) || !(allR 0 1000000000 [b.amount]))
def chkLg (l : Ledger) : Int :=
 if (l.funds.length : Int) > 8 then 5 else if chkFds l.funds ≠ 0 then chkFds l.funds else if (l.bills.length : Int) > 8 then 5 else if l.bills.any blBad then 2 else 0
set_option maxHeartbeats 2000000 in
theorem in_pc (Y : YEnv) (σ : Sg) (lo hi : Int) (l : List Int) (o : Own) (hl : l.length < 2 ^ 40) :
 PC Tryz.prog Y 129 [I lo, I hi, intsO o l] σ (.bool (allR lo hi l)) (σ) := by
 refine PC_of_W Tryz.func129 rfl (by kernel_rfl) Tryz.ntmps129 (by simp) fun hcl hca => ?_
 obtain ⟨res, hres⟩ : ∃ r, allR lo hi l = r := ⟨_, rfl⟩
 rw [hres]
 refine W_sr [0, 1, 2] fun R hR => ?_
 simp only [go_sem]
 refine hR _ _ ?_; clear hR R
 try simp only [go_sem]
 refine W_seq fun Z2 K2 => ?_
 refine W_sr [0, 1, 9, 10, 11] fun R hR => ?_
 simp only [go_sem]
 refine hR _ _ ?_; clear hR R
 try simp only [go_sem]
 refine W_block ?_
 refine W_loopS (α := Nat) (fun (i : Nat) => [(11, I i)]) (fun (i : Nat) => i ≤ l.length ∧ res = allR lo hi (l.drop i)) (fun (i : Nat) => l.length - i) (0) rfl (⟨Nat.zero_le _, hres.symm⟩) ?_
 rintro i ⟨hi0, hinv⟩
 refine W_sr [0, 1, 9, 10, 11, 12] fun R hR => ?_
 simp only [go_sem]
 refine hR _ _ ?_; clear hR R
 try simp only [go_sem]
 refine W_seq fun Z5 K5 => ?_
 refine W_cond rfl (fun c1 => ?_) (fun c1 => ?_)
 ·
  try simp only [nrm] at c1
  have hi' : i < l.length := by first | assumption | omega
  obtain ⟨x, hx⟩ : ∃ x, l[i]? = some x := ⟨l[i], by simp [hi']⟩
  have hdrop : l.drop i = x :: l.drop (i + 1) := by
   rw [List.drop_eq_getElem_cons hi']; congr 1; exact (List.getElem?_eq_some_iff.1 hx).2
  rw [hdrop] at hinv
  simp only [allR, List.all_cons] at hinv
  refine W_skip (K5 _ _ ?_)
  refine W_seq fun Z6 K6 => ?_
  refine W_block ?_
  refine W_sr [0, 1, 8, 9, 10, 11] fun R hR => ?_
  simp only [go_sem, hx]
  refine hR _ _ ?_; clear hR R
  try simp only [go_sem, hx]
  refine W_sr [0, 1, 9, 10, 11, 22] fun R hR => ?_
  simp only [go_sem, hx]
  refine GWant_split (fun g1 => ?_) (fun g1 => ?_)
  ·try simp only [Bool.not_eq_true', Bool.not_eq_false'] at g1
   have n1 := g1; try simp only [nrm] at n1
   simp only [go_sem, hx, g1]
   refine hR _ _ ?_; clear hR R
   try simp only [go_sem, hx]
   refine W_cond rfl (fun c2 => ?_) (fun c2 => ?_)
   ·
    try simp only [nrm] at c2
    refine W_sr [6] fun R hR => ?_
    simp only [go_sem, hx]
    refine hR _ _ ?_; clear hR R
    try simp only [go_sem, hx]
    refine W_ret ?_
    simp only [go_sem, hx]
    refine ⟨.inr (by trivial), ?_⟩
    first | refine Fsa hcl rfl ?_ | refine Fse hcl rfl ?_
    try simp only [go_sem]
    all_goals
     rw [hinv]; have : inR x lo hi = false := inR_false.2 (by first | omega | (simp_all; done) | (simp_all; omega)); rw [this]; rfl
   try simp only [nrm] at c2
   refine W_skip (K6 _ _ ?_)
   refine W_region [0, 1, 9, 10, 11] fun R hR => ?_
   simp only [go_sem, hx]
   try simp (disch := (first | omega | (simp only [go_sem, List.length_append] <;> omega))) only [wrapI, wrapU, strAdd, slT, slTa, slTb]
   refine hR _ _ ?_; clear hR R
   try simp only [go_sem, hx]
   refine ⟨i + 1, ?_, by (try simp only []); omega, ?_⟩
   ·first | exact Weak.refl | exact Wqq
   try dsimp only
   refine ⟨by omega, ?_⟩
   rw [hinv]; have : inR x lo hi = true := inR_true.2 (by first | omega | (simp_all; done) | (simp_all; omega)); rw [this, Bool.true_and]; rfl
  try simp only [Bool.not_eq_true', Bool.not_eq_false'] at g1
  have n1 := g1; try simp only [nrm] at n1
  simp only [go_sem, hx, g1]
  refine hR _ _ ?_; clear hR R
  try simp only [go_sem, hx]
  refine W_cond_true rfl ?_
  refine W_sr [6] fun R hR => ?_
  simp only [go_sem, hx]
  refine hR _ _ ?_; clear hR R
  try simp only [go_sem, hx]
  refine W_ret ?_
  simp only [go_sem, hx]
  refine ⟨.inr (by trivial), ?_⟩
  first | refine Fsa hcl rfl ?_ | refine Fse hcl rfl ?_
  try simp only [go_sem]
  all_goals
   rw [hinv]; have : inR x lo hi = false := inR_false.2 (by first | omega | (simp_all; done) | (simp_all; omega)); rw [this]; rfl
 try simp only [nrm] at c1
 have hdrop : l.drop i = [] := List.drop_eq_nil_of_le (by omega)
 rw [hdrop] at hinv
 simp only [allR, List.all_nil] at hinv
 refine W_exit ?_
 simp only [go_sem]
 refine K2 _ _ ?_
 refine W_sr [6] fun R hR => ?_
 simp only [go_sem]
 refine hR _ _ ?_; clear hR R
 try simp only [go_sem]
 refine W_ret ?_
 simp only [go_sem]
 refine ⟨.inr (by trivial), ?_⟩
 first | refine Fsa hcl rfl ?_ | refine Fse hcl rfl ?_
 try simp only [go_sem]
 all_goals
  rw [hinv]; first | done | rfl
set_option maxHeartbeats 4000000 in
theorem checkFund_pc (Y : YEnv) (σ : Sg) (f : Fund) (hu : f.uses.length < 2 ^ 40) :
 PC Tryz.prog Y 128 [fdPV f] σ (I (chkFd f)) (σ) := by
 refine PC_of_W Tryz.func128 rfl (by kernel_rfl) Tryz.ntmps128 (by simp) fun hcl hca => ?_
 obtain ⟨res, hres⟩ : ∃ r, chkFd f = r := ⟨_, rfl⟩
 rw [hres]
 refine W_sr [1] fun R hR => ?_
 simp only [go_sem]
 refine hR _ _ ?_; clear hR R
 try simp only [go_sem]
 refine W_seq fun Z2 K2 => ?_
 refine W_block ?_
 refine W_sr [1, 5] fun R hR => ?_
 simp only [go_sem]
 refine GCall_of (in_pc Y _ 0 3650 [f.day, f.until'] .exact (by simp)) ?_
 simp only [go_sem]
 refine hR _ _ ?_; clear hR R
 try simp only [go_sem]
 refine W_cond rfl (fun c1 => ?_) (fun c1 => ?_)
 ·
  try simp only [nrm] at c1
  refine W_sr [2] fun R hR => ?_
  simp only [go_sem]
  refine hR _ _ ?_; clear hR R
  try simp only [go_sem]
  refine W_ret ?_
  simp only [go_sem]
  refine ⟨.inr (by trivial), ?_⟩
  first | refine Fsa hcl rfl ?_ | refine Fse hcl rfl ?_
  try simp only [go_sem]
  all_goals
   first | rfl | (rw [hinv]; done) | (rw [← hres]; unfold chkFd; repeat' split) <;> first | rfl | omega | (simp_all; done) | (simp_all; omega)
 try simp only [nrm] at c1
 refine W_sr [1, 13] fun R hR => ?_
 simp only [go_sem]
 refine hR _ _ ?_; clear hR R
 try simp only [go_sem]
 refine W_cond rfl (fun c2 => ?_) (fun c2 => ?_)
 ·
  try simp only [nrm] at c2
  refine W_sr [2] fun R hR => ?_
  simp only [go_sem]
  refine hR _ _ ?_; clear hR R
  try simp only [go_sem]
  refine W_ret ?_
  simp only [go_sem]
  refine ⟨.inr (by trivial), ?_⟩
  first | refine Fsa hcl rfl ?_ | refine Fse hcl rfl ?_
  try simp only [go_sem]
  all_goals
   first | rfl | (rw [hinv]; done) | (rw [← hres]; unfold chkFd; repeat' split) <;> first | rfl | omega | (simp_all; done) | (simp_all; omega)
 try simp only [nrm] at c2
 refine W_sr [1, 19] fun R hR => ?_
 simp only [go_sem]
 refine GCall_of (in_pc Y _ 0 1000000000 [f.amount] .exact (by simp)) ?_
 simp only [go_sem]
 refine hR _ _ ?_; clear hR R
 try simp only [go_sem]
 refine W_cond rfl (fun c3 => ?_) (fun c3 => ?_)
 ·
  try simp only [nrm] at c3
  refine W_sr [2] fun R hR => ?_
  simp only [go_sem]
  refine hR _ _ ?_; clear hR R
  try simp only [go_sem]
  refine W_ret ?_
  simp only [go_sem]
  refine ⟨.inr (by trivial), ?_⟩
  first | refine Fsa hcl rfl ?_ | refine Fse hcl rfl ?_
  try simp only [go_sem]
  all_goals
   first | rfl | (rw [hinv]; done) | (rw [← hres]; unfold chkFd; repeat' split) <;> first | rfl | omega | (simp_all; done) | (simp_all; omega)
 try simp only [nrm] at c3
 refine W_sr [1, 25] fun R hR => ?_
 simp only [go_sem]
 refine hR _ _ ?_; clear hR R
 try simp only [go_sem]
 refine W_cond rfl (fun c4 => ?_) (fun c4 => ?_)
 ·
  try simp only [nrm] at c4
  refine W_sr [2] fun R hR => ?_
  simp only [go_sem]
  refine hR _ _ ?_; clear hR R
  try simp only [go_sem]
  refine W_ret ?_
  simp only [go_sem]
  refine ⟨.inr (by trivial), ?_⟩
  first | refine Fsa hcl rfl ?_ | refine Fse hcl rfl ?_
  try simp only [go_sem]
  all_goals
   first | rfl | (rw [hinv]; done) | (rw [← hres]; unfold chkFd; repeat' split) <;> first | rfl | omega | (simp_all; done) | (simp_all; omega)
 try simp only [nrm] at c4
 refine W_skip (K2 _ _ ?_)
 refine W_seq fun Z11 K11 => ?_
 refine W_sr [1, 31, 32, 33] fun R hR => ?_
 simp only [go_sem]
 refine hR _ _ ?_; clear hR R
 try simp only [go_sem]
 refine W_block ?_
 refine W_loopS (α := Nat) (fun (i : Nat) => [(33, I i)]) (fun (i : Nat) => i ≤ f.uses.length ∧ res = usesErr (if i = 0 then none else f.uses[i - 1]?) (f.uses.drop i)) (fun (i : Nat) => f.uses.length - i) (0) rfl (⟨Nat.zero_le _, by rw [← hres, List.drop_zero]; unfold chkFd; (repeat' split) <;> first | rfl | omega | (simp_all; done) | (simp_all; omega)⟩) ?_
 rintro i ⟨hi0, hinv⟩
 refine W_sr [1, 31, 32, 33, 34] fun R hR => ?_
 simp only [go_sem]
 refine hR _ _ ?_; clear hR R
 try simp only [go_sem]
 refine W_seq fun Z14 K14 => ?_
 refine W_cond rfl (fun c5 => ?_) (fun c5 => ?_)
 ·
  try simp only [nrm] at c5
  have hi' : i < f.uses.length := by first | assumption | omega
  obtain ⟨u, hxu⟩ : ∃ u, f.uses[i]? = some u := ⟨f.uses[i], by simp [hi']⟩
  have hdrop : f.uses.drop i = u :: f.uses.drop (i + 1) := by
   rw [List.drop_eq_getElem_cons hi']; congr 1; exact (List.getElem?_eq_some_iff.1 hxu).2
  rw [hdrop] at hinv
  simp only [usesErr] at hinv
  have hone : allR 0 7 [u] = inR u 0 7 := by simp [allR]
  refine W_skip (K14 _ _ ?_)
  refine W_seq fun Z15 K15 => ?_
  refine W_block ?_
  refine W_sr [1, 3, 4, 31, 32, 33] fun R hR => ?_
  simp only [go_sem, hxu]
  refine hR _ _ ?_; clear hR R
  try simp only [go_sem, hxu]
  refine W_block ?_
  refine W_sr [1, 3, 4, 31, 32, 33, 38] fun R hR => ?_
  simp only [go_sem, hxu]
  refine GCall_of (in_pc Y _ 0 7 [u] .exact (by simp)) ?_
  simp only [go_sem, hxu]
  refine hR _ _ ?_; clear hR R
  try simp only [go_sem, hxu]
  refine W_cond rfl (fun c6 => ?_) (fun c6 => ?_)
  ·
   try simp only [nrm] at c6
   refine W_sr [2] fun R hR => ?_
   simp only [go_sem, hxu]
   refine hR _ _ ?_; clear hR R
   try simp only [go_sem, hxu]
   refine W_ret ?_
   simp only [go_sem, hxu]
   refine ⟨.inr (by trivial), ?_⟩
   first | refine Fsa hcl rfl ?_ | refine Fse hcl rfl ?_
   try simp only [go_sem]
   all_goals
    rw [hinv, if_pos (by rw [← hone, c6]; rfl)]
  try simp only [nrm] at c6
  refine W_sr [1, 31, 32, 33, 43] fun R hR => ?_
  simp only [go_sem, hxu]
  refine GWant_split (fun g1 => ?_) (fun g1 => ?_)
  ·try simp only [Bool.not_eq_true', Bool.not_eq_false'] at g1
   have n1 := g1; try simp only [nrm] at n1
   obtain ⟨j, hij⟩ : ∃ j, i = j + 1 := ⟨i - 1, by omega⟩
   have hj : ((i : Int) - 1) = j := by omega
   have hjw : IntKind.i64.wrap (j : Int) = j := wrapI (by omega) (by omega)
   obtain ⟨q, hq⟩ : ∃ q, f.uses[j]? = some q := ⟨f.uses[j]'(by omega), by simp⟩
   have hpv : (if i = 0 then none else f.uses[i - 1]?) = some q := by rw [if_neg (by omega), show i - 1 = j by omega, hq]
   rw [hpv] at hinv
   simp only [go_sem, hxu, hj, hjw, hq, g1]
   try simp (disch := (first | omega | (simp only [go_sem, List.length_append] <;> omega))) only [wrapI, wrapU, strAdd, slT, slTa, slTb]
   refine hR _ _ ?_; clear hR R
   try simp only [go_sem, hxu, hj, hjw, hq]
   refine W_cond rfl (fun c7 => ?_) (fun c7 => ?_)
   ·
    try simp only [nrm] at c7
    refine W_sr [2] fun R hR => ?_
    simp only [go_sem, hxu, hj, hjw, hq]
    refine hR _ _ ?_; clear hR R
    try simp only [go_sem, hxu, hj, hjw, hq]
    refine W_ret ?_
    simp only [go_sem, hxu, hj, hjw, hq]
    refine ⟨.inr (by trivial), ?_⟩
    first | refine Fsa hcl rfl ?_ | refine Fse hcl rfl ?_
    try simp only [go_sem]
    all_goals
     rw [hinv, if_neg (by rw [← hone, c6]; simp), if_pos (by simpa using c7)]
   try simp only [nrm] at c7
   refine W_skip (K15 _ _ ?_)
   refine W_region [1, 31, 32, 33] fun R hR => ?_
   simp only [go_sem, hxu, hj, hjw, hq]
   try simp (disch := (first | omega | (simp only [go_sem, List.length_append] <;> omega))) only [wrapI, wrapU, strAdd, slT, slTa, slTb]
   refine hR _ _ ?_; clear hR R
   try simp only [go_sem, hxu, hj, hjw, hq]
   refine ⟨i + 1, ?_, by (try simp only []); omega, ?_⟩
   ·first | exact Weak.refl | exact Wqq
   try dsimp only
   refine ⟨by omega, ?_⟩
   rw [if_neg (by omega), Nat.add_sub_cancel, hxu, hinv, if_neg (by rw [← hone, c6]; simp), if_neg (by first | (simp; done) | (simpa using c7))]
  try simp only [Bool.not_eq_true', Bool.not_eq_false'] at g1
  have n1 := g1; try simp only [nrm] at n1
  have hpv : (if i = 0 then none else f.uses[i - 1]?) = none := by rw [if_pos (by omega)]
  rw [hpv] at hinv
  simp only [go_sem, hxu, g1]
  try simp (disch := (first | omega | (simp only [go_sem, List.length_append] <;> omega))) only [wrapI, wrapU, strAdd, slT, slTa, slTb]
  refine hR _ _ ?_; clear hR R
  try simp only [go_sem, hxu]
  refine W_cond_false rfl ?_
  refine W_skip (K15 _ _ ?_)
  refine W_region [1, 31, 32, 33] fun R hR => ?_
  simp only [go_sem, hxu]
  try simp (disch := (first | omega | (simp only [go_sem, List.length_append] <;> omega))) only [wrapI, wrapU, strAdd, slT, slTa, slTb]
  refine hR _ _ ?_; clear hR R
  try simp only [go_sem, hxu]
  refine ⟨i + 1, ?_, by (try simp only []); omega, ?_⟩
  ·first | exact Weak.refl | exact Wqq
  try dsimp only
  refine ⟨by omega, ?_⟩
  rw [if_neg (by omega), Nat.add_sub_cancel, hxu, hinv, if_neg (by rw [← hone, c6]; simp), if_neg (by first | (simp; done) | (simpa using c7))]
 try simp only [nrm] at c5
 have hdrop : f.uses.drop i = [] := List.drop_eq_nil_of_le (by omega)
 rw [hdrop] at hinv
 simp only [usesErr] at hinv
 refine W_exit ?_
 simp only [go_sem]
 refine K11 _ _ ?_
 refine W_sr [2] fun R hR => ?_
 simp only [go_sem]
 refine hR _ _ ?_; clear hR R
 try simp only [go_sem]
 refine W_ret ?_
 simp only [go_sem]
 refine ⟨.inr (by trivial), ?_⟩
 first | refine Fsa hcl rfl ?_ | refine Fse hcl rfl ?_
 try simp only [go_sem]
 all_goals
  first | rfl | (rw [hinv]; done) | (rw [← hres]; unfold chkFd; repeat' split) <;> first | rfl | omega | (simp_all; done) | (simp_all; omega)
open Pa (inR inR_true inR_false intsO)
theorem roL_fd {xs : List Fund} : PV.roL (xs.map fdPV) = xs.map fdPV := roL_enc fun x => by simp only [go_sem]
theorem roL_bl {xs : List Bill} : PV.roL (xs.map blPV) = xs.map blPV := roL_enc fun x => by simp only [go_sem]
attribute [go_sem] roL_fd roL_bl
set_option maxHeartbeats 8000000 in
theorem Check_pc (Y : YEnv) (σ : Sg) (l : Ledger) (hf : l.funds.length < 2 ^ 40) (hb : l.bills.length < 2 ^ 40) (hu : ∀ f, f ∈ l.funds → f.uses.length < 2 ^ 40) :
 PC Tryz.prog Y 74 [lgPV l] σ (I (chkLg l)) (σ) := by
 refine PC_of_W Tryz.func74 rfl (by kernel_rfl) Tryz.ntmps74 (by simp) fun hcl hca => ?_
 obtain ⟨res, hres⟩ : ∃ r, chkLg l = r := ⟨_, rfl⟩
 rw [hres]
 refine W_sr [1] fun R hR => ?_
 simp only [go_sem]
 refine hR _ _ ?_; clear hR R
 try simp only [go_sem]
 refine W_seq fun Z2 K2 => ?_
 refine W_sr [1, 11] fun R hR => ?_
 simp only [go_sem]
 refine hR _ _ ?_; clear hR R
 try simp only [go_sem]
 refine W_cond rfl (fun c1 => ?_) (fun c1 => ?_)
 ·
  try simp only [nrm] at c1
  refine W_sr [2] fun R hR => ?_
  simp only [go_sem]
  refine hR _ _ ?_; clear hR R
  try simp only [go_sem]
  refine W_ret ?_
  simp only [go_sem]
  refine ⟨.inr (by trivial), ?_⟩
  first | refine Fsa hcl rfl ?_ | refine Fse hcl rfl ?_
  try simp only [go_sem]
  all_goals
   congr 1; rw [← hres]; unfold chkLg; rw [if_pos (by omega)]
 try simp only [nrm] at c1
 refine W_skip (K2 _ _ ?_)
 refine W_seq fun Z5 K5 => ?_
 refine W_sr [1, 13, 14, 15] fun R hR => ?_
 simp only [go_sem]
 refine hR _ _ ?_; clear hR R
 try simp only [go_sem]
 refine W_block ?_
 refine W_loopS (α := Nat) (fun (i : Nat) => [(15, I i)]) (fun (i : Nat) => i ≤ l.funds.length ∧ chkFds l.funds = chkFds (l.funds.drop i)) (fun (i : Nat) => l.funds.length - i) (0) rfl (⟨Nat.zero_le _, rfl⟩) ?_
 rintro i ⟨hi0, hinv⟩
 refine W_sr [1, 13, 14, 15, 16] fun R hR => ?_
 simp only [go_sem]
 refine hR _ _ ?_; clear hR R
 try simp only [go_sem]
 refine W_seq fun Z8 K8 => ?_
 refine W_cond rfl (fun c2 => ?_) (fun c2 => ?_)
 ·
  try simp only [nrm] at c2
  have hi' : i < l.funds.length := by first | assumption | omega
  obtain ⟨f, hx⟩ : ∃ f, l.funds[i]? = some f := ⟨l.funds[i], by simp [hi']⟩
  have hdrop : l.funds.drop i = f :: l.funds.drop (i + 1) := by
   rw [List.drop_eq_getElem_cons hi']; congr 1; exact (List.getElem?_eq_some_iff.1 hx).2
  rw [hdrop] at hinv
  simp only [chkFds] at hinv
  refine W_skip (K8 _ _ ?_)
  refine W_seq fun Z9 K9 => ?_
  refine W_block ?_
  refine W_sr [1, 4, 13, 14, 15] fun R hR => ?_
  simp only [go_sem, hx]
  refine hR _ _ ?_; clear hR R
  try simp only [go_sem, hx]
  refine W_sr [1, 5, 13, 14, 15] fun R hR => ?_
  simp only [go_sem, hx]
  refine GCall_of (checkFund_pc Y _ f (hu f (List.mem_of_getElem? hx))) ?_
  simp only [go_sem, hx]
  refine hR _ _ ?_; clear hR R
  try simp only [go_sem, hx]
  refine W_sr [1, 5, 13, 14, 15, 22] fun R hR => ?_
  simp only [go_sem, hx]
  refine hR _ _ ?_; clear hR R
  try simp only [go_sem, hx]
  refine W_cond rfl (fun c3 => ?_) (fun c3 => ?_)
  ·
   try simp only [nrm] at c3
   refine W_sr [2] fun R hR => ?_
   simp only [go_sem, hx]
   refine hR _ _ ?_; clear hR R
   try simp only [go_sem, hx]
   refine W_ret ?_
   simp only [go_sem, hx]
   refine ⟨.inr (by trivial), ?_⟩
   first | refine Fsa hcl rfl ?_ | refine Fse hcl rfl ?_
   try simp only [go_sem]
   all_goals
    congr 1; rw [← hres]; unfold chkLg; rw [if_neg (by omega), if_pos (by rw [hinv, if_pos (by omega)]; omega), hinv, if_pos (by omega)]
  try simp only [nrm] at c3
  refine W_skip (K9 _ _ ?_)
  refine W_region [1, 13, 14, 15] fun R hR => ?_
  simp only [go_sem, hx]
  try simp (disch := (first | omega | (simp only [go_sem, List.length_append] <;> omega))) only [wrapI, wrapU, strAdd, slT, slTa, slTb]
  refine hR _ _ ?_; clear hR R
  try simp only [go_sem, hx]
  refine ⟨i + 1, ?_, by (try simp only []); omega, ?_⟩
  ·refine Weak.trans (Weak.cutX 1 0 (by omega) (by omega) hcl (by simp only [go_sem] <;> omega) (by simp only [go_sem] <;> omega)) ?_
   simp only [go_sem]
   first | exact Weak.refl | exact Weak.eq rfl rfl
  try dsimp only
  refine ⟨by omega, ?_⟩
  rw [hinv, if_neg (by omega)]
 try simp only [nrm] at c2
 have hdrop : l.funds.drop i = [] := List.drop_eq_nil_of_le (by omega)
 rw [hdrop] at hinv
 simp only [chkFds] at hinv
 refine W_exit ?_
 simp only [go_sem]
 refine K5 _ _ ?_
 refine W_seq fun Z14 K14 => ?_
 refine W_sr [1, 28] fun R hR => ?_
 simp only [go_sem]
 refine hR _ _ ?_; clear hR R
 try simp only [go_sem]
 refine W_cond rfl (fun c4 => ?_) (fun c4 => ?_)
 ·
  try simp only [nrm] at c4
  refine W_sr [2] fun R hR => ?_
  simp only [go_sem]
  refine hR _ _ ?_; clear hR R
  try simp only [go_sem]
  refine W_ret ?_
  simp only [go_sem]
  refine ⟨.inr (by trivial), ?_⟩
  first | refine Fsa hcl rfl ?_ | refine Fse hcl rfl ?_
  try simp only [go_sem]
  all_goals
   congr 1; rw [← hres]; unfold chkLg; rw [if_neg (by omega), if_neg (by omega), if_pos (by omega)]
 try simp only [nrm] at c4
 refine W_skip (K14 _ _ ?_)
 refine W_seq fun Z17 K17 => ?_
 refine W_sr [30, 31, 32] fun R hR => ?_
 simp only [go_sem]
 refine hR _ _ ?_; clear hR R
 try simp only [go_sem]
 refine W_block ?_
 refine W_loopS (α := Nat) (fun (i : Nat) => [(32, I i)]) (fun (i : Nat) => i ≤ l.bills.length ∧ l.bills.any blBad = (l.bills.drop i).any blBad) (fun (i : Nat) => l.bills.length - i) (0) rfl (⟨Nat.zero_le _, rfl⟩) ?_
 rintro i ⟨hi1, hinv2⟩
 refine W_sr [30, 31, 32, 33] fun R hR => ?_
 simp only [go_sem]
 refine hR _ _ ?_; clear hR R
 try simp only [go_sem]
 refine W_seq fun Z20 K20 => ?_
 refine W_cond rfl (fun c5 => ?_) (fun c5 => ?_)
 ·
  try simp only [nrm] at c5
  have hi' : i < l.bills.length := by first | assumption | omega
  obtain ⟨b, hx⟩ : ∃ b, l.bills[i]? = some b := ⟨l.bills[i], by simp [hi']⟩
  have hdrop : l.bills.drop i = b :: l.bills.drop (i + 1) := by
   rw [List.drop_eq_getElem_cons hi']; congr 1; exact (List.getElem?_eq_some_iff.1 hx).2
  rw [hdrop] at hinv2
  simp only [List.any_cons] at hinv2
  refine W_skip (K20 _ _ ?_)
  refine W_seq fun Z21 K21 => ?_
  refine W_block ?_
  refine W_sr [7, 30, 31, 32] fun R hR => ?_
  simp only [go_sem, hx]
  refine hR _ _ ?_; clear hR R
  try simp only [go_sem, hx]
  refine W_sr [30, 31, 32, 54] fun R hR => ?_
  simp only [go_sem, hx]
  refine GCall_of (in_pc Y _ 0 3650 [b.day] .exact (by simp)) ?_
  simp only [go_sem, hx]
  refine GWant_split (fun g1 => ?_) (fun g1 => ?_)
  ·try simp only [Bool.not_eq_true', Bool.not_eq_false'] at g1
   have n1 := g1; try simp only [nrm] at n1
   simp only [go_sem, hx, g1]
   refine GCall_of (in_pc Y _ 0 7 [b.use] .exact (by simp)) ?_
   simp only [go_sem, hx, g1]
   refine GWant_split (fun g2 => ?_) (fun g2 => ?_)
   ·try simp only [Bool.not_eq_true', Bool.not_eq_false'] at g2
    have n2 := g2; try simp only [nrm] at n2
    simp only [go_sem, hx, g1, g2]
    refine GCall_of (in_pc Y _ 0 1000000000 [b.amount] .exact (by simp)) ?_
    simp only [go_sem, hx, g1, g2]
    refine hR _ _ ?_; clear hR R
    try simp only [go_sem, hx]
    refine W_cond rfl (fun c6 => ?_) (fun c6 => ?_)
    ·
     try simp only [nrm] at c6
     refine W_sr [2] fun R hR => ?_
     simp only [go_sem, hx]
     refine hR _ _ ?_; clear hR R
     try simp only [go_sem, hx]
     refine W_ret ?_
     simp only [go_sem, hx]
     refine ⟨.inr (by trivial), ?_⟩
     first | refine Fsa hcl rfl ?_ | refine Fse hcl rfl ?_
     try simp only [go_sem]
     all_goals
      congr 1; rw [← hres]; unfold chkLg; rw [if_neg (by omega), if_neg (by omega), if_neg (by omega), hinv2, if_pos (by simp [blBad, *])]
    try simp only [nrm] at c6
    refine W_skip (K21 _ _ ?_)
    refine W_region [30, 31, 32] fun R hR => ?_
    simp only [go_sem, hx]
    try simp (disch := (first | omega | (simp only [go_sem, List.length_append] <;> omega))) only [wrapI, wrapU, strAdd, slT, slTa, slTb]
    refine hR _ _ ?_; clear hR R
    try simp only [go_sem, hx]
    refine ⟨i + 1, ?_, by (try simp only []); omega, ?_⟩
    ·refine Weak.trans (Weak.cutX 1 0 (by omega) (by omega) hcl (by simp only [go_sem] <;> omega) (by simp only [go_sem] <;> omega)) ?_
     simp only [go_sem]
     first | exact Weak.refl | exact Weak.eq rfl rfl
    try dsimp only
    refine ⟨by omega, ?_⟩
    rw [hinv2]; simp [blBad, *]
   try simp only [Bool.not_eq_true', Bool.not_eq_false'] at g2
   have n2 := g2; try simp only [nrm] at n2
   simp only [go_sem, hx, g1, g2]
   refine hR _ _ ?_; clear hR R
   try simp only [go_sem, hx]
   refine W_cond_true rfl ?_
   refine W_sr [2] fun R hR => ?_
   simp only [go_sem, hx]
   refine hR _ _ ?_; clear hR R
   try simp only [go_sem, hx]
   refine W_ret ?_
   simp only [go_sem, hx]
   refine ⟨.inr (by trivial), ?_⟩
   first | refine Fsa hcl rfl ?_ | refine Fse hcl rfl ?_
   try simp only [go_sem]
   all_goals
    congr 1; rw [← hres]; unfold chkLg; rw [if_neg (by omega), if_neg (by omega), if_neg (by omega), hinv2, if_pos (by simp [blBad, *])]
  try simp only [Bool.not_eq_true', Bool.not_eq_false'] at g1
  have n1 := g1; try simp only [nrm] at n1
  simp only [go_sem, hx, g1]
  refine hR _ _ ?_; clear hR R
  try simp only [go_sem, hx]
  refine W_cond_true rfl ?_
  refine W_sr [2] fun R hR => ?_
  simp only [go_sem, hx]
  refine hR _ _ ?_; clear hR R
  try simp only [go_sem, hx]
  refine W_ret ?_
  simp only [go_sem, hx]
  refine ⟨.inr (by trivial), ?_⟩
  first | refine Fsa hcl rfl ?_ | refine Fse hcl rfl ?_
  try simp only [go_sem]
  all_goals
   congr 1; rw [← hres]; unfold chkLg; rw [if_neg (by omega), if_neg (by omega), if_neg (by omega), hinv2, if_pos (by simp [blBad, *])]
 try simp only [nrm] at c5
 have hdrop : l.bills.drop i = [] := List.drop_eq_nil_of_le (by omega)
 rw [hdrop] at hinv2
 simp only [List.any_nil] at hinv2
 refine W_exit ?_
 simp only [go_sem]
 refine K17 _ _ ?_
 refine W_sr [2] fun R hR => ?_
 simp only [go_sem]
 refine hR _ _ ?_; clear hR R
 try simp only [go_sem]
 refine W_ret ?_
 simp only [go_sem]
 refine ⟨.inr (by trivial), ?_⟩
 first | refine Fsa hcl rfl ?_ | refine Fse hcl rfl ?_
 try simp only [go_sem]
 all_goals
  congr 1; rw [← hres]; unfold chkLg; rw [if_neg (by omega), if_neg (by omega), if_neg (by omega), hinv2]; rfl
end Go.Proofs.YtpkkegbiddcodaaGreatDoor.Co
namespace Go.Proofs.YtpkkegbiddcodaaGreatDoor.Mk
open Go Go.RowKit
structure Scale where
 schools : Int
 matters : Int
 judges : Int
 drop : Int
 low : Int
 high : Int
 order : List Int
 deriving DecidableEq
structure Envl where
 matter : Int
 judge : Int
 marks : List Int
 sl : Int
 deriving DecidableEq
structure Night where
 opened : List Envl
 absent : List (Int × Int)
 fines : List (Int × Int)
 deriving DecidableEq
structure Stand where
 school : Int
 total : Int
 points : List Int
 deriving DecidableEq
abbrev intsO (o : Own) (xs : List Int) : PV := .isl (xs.map I) o
def stPV (s : Int × Int) : PV := .agg [I s.1, I s.2]
def scCells (s : Scale) : List PV := [I s.schools, I s.matters, I s.judges, I s.drop, I s.low, I s.high, ints s.order]
def scPV (s : Scale) : PV := .agg (scCells s)
def evCells (e : Envl) : List PV := [I e.matter, I e.judge, ints e.marks, I e.sl]
def evPV (e : Envl) : PV := .agg (evCells e)
abbrev sts (l : List (Int × Int)) : PV := .isl (l.map stPV) .ro
abbrev evs (l : List Envl) : PV := .isl (l.map evPV) .ro
def ngCells (n : Night) : List PV := [evs n.opened, sts n.absent, sts n.fines]
def ngPV (n : Night) : PV := .agg (ngCells n)
def sdCells (x : Stand) : List PV := [I x.school, I x.total, ints x.points]
def sdPV (x : Stand) : PV := .agg (sdCells x)
def llPV (xs : List Int) : PV := ints xs
section
variable {α : Type} {f : α → PV} {xs : List α} {i : Nat} {x : α} {c k off : Nat}
theorem iaX_map (h : xs[i]? = some x) (hc : (f x).cells.length = c) : iaX c (xs.map f) (i : Int) = some (.eptr c (xs.map f) i 0) := by
 have hlt : i < xs.length := (List.getElem?_eq_some_iff.1 h).1
 have hx : xs[i] = x := (List.getElem?_eq_some_iff.1 h).2
 unfold iaX
 rw [if_pos ⟨Int.natCast_nonneg _, by simpa using hlt⟩]
 simp [hlt, hx, hc]
theorem elS_map (h : xs[i]? = some x) : elS (xs.map f) i off = (f x).cells[off]? := by simp [elS, h]
end
theorem noTok {b : Nat} : ∀ r n es, Own.ro = .tok r n es → r < b := fun r n es e => by cases e
theorem clean_ints {a b c : Nat} (xs : List Int) : Clean a b c (ints xs) := Clean.ints xs .ro noTok
theorem clean_ll {a b c : Nat} (xs : List Int) : Clean a b c (llPV xs) := Clean.ints xs .ro noTok
theorem clean_st {a b c : Nat} (s : Int × Int) : Clean a b c (stPV s) := .agg _ (Clean.all_cons (.int _ _) (Clean.all_cons (.int _ _) Clean.all_nil))
theorem cleans_ev {a b c : Nat} (x : Envl) : ∀ p, p ∈ evCells x → Clean a b c p :=
 Clean.all_cons (.int _ _) (Clean.all_cons (.int _ _) (Clean.all_cons (clean_ints _) (Clean.all_cons (.int _ _) Clean.all_nil)))
theorem clean_ev {a b c : Nat} (x : Envl) : Clean a b c (evPV x) := .agg _ (cleans_ev x)
theorem cleans_sd {a b c : Nat} (x : Stand) : ∀ p, p ∈ sdCells x → Clean a b c p :=
 Clean.all_cons (.int _ _) (Clean.all_cons (.int _ _) (Clean.all_cons (clean_ints _) Clean.all_nil))
theorem clean_sd {a b c : Nat} (x : Stand) : Clean a b c (sdPV x) := .agg _ (cleans_sd x)
def inR (n lo hi : Int) : Bool := decide (lo ≤ n) && decide (n ≤ hi)
theorem okC_st {xs : List (Int × Int)} : okC 2 (xs.map stPV) = True := okC_map fun x => by simp [okC, stPV, PV.cells, PV.scalar]
theorem okC_ev {xs : List Envl} : okC 4 (xs.map evPV) = True := okC_map fun x => by simp [okC, evPV, evCells, PV.cells, PV.scalar]
theorem okC_sd {xs : List Stand} : okC 3 (xs.map sdPV) = True := okC_map fun x => by simp [okC, sdPV, sdCells, PV.cells, PV.scalar]
theorem okC_ll {xs : List (List Int)} : okC 1 (xs.map llPV) = True := okC_map fun x => by simp [okC, llPV, PV.cells, PV.scalar]
theorem roL_st {xs : List (Int × Int)} : PV.roL (xs.map stPV) = xs.map stPV := roL_enc fun x => by simp only [stPV, ro_agg, roL_cons, roL_nil, ro_int]
theorem roL_ev {xs : List Envl} : PV.roL (xs.map evPV) = xs.map evPV := roL_enc fun x => by simp only [evPV, evCells, ro_agg, roL_cons, roL_nil, ro_int, ro_isl, roL_ints]
theorem roL_sd {xs : List Stand} : PV.roL (xs.map sdPV) = xs.map sdPV := roL_enc fun x => by simp only [sdPV, sdCells, ro_agg, roL_cons, roL_nil, ro_int, ro_isl, roL_ints]
theorem roL_ll {xs : List (List Int)} : PV.roL (xs.map llPV) = xs.map llPV := roL_enc fun x => by simp only [llPV, ro_isl, roL_ints]
theorem cA_st {a b c : Nat} {xs : List (Int × Int)} : CleanAll a b c (xs.map stPV) = True := CleanAll_map clean_st
theorem cA_ev {a b c : Nat} {xs : List Envl} : CleanAll a b c (xs.map evPV) = True := CleanAll_map clean_ev
theorem cA_sd {a b c : Nat} {xs : List Stand} : CleanAll a b c (xs.map sdPV) = True := CleanAll_map clean_sd
theorem cA_ll {a b c : Nat} {xs : List (List Int)} : CleanAll a b c (xs.map llPV) = True := CleanAll_map clean_ll
attribute [go_sem] okC_st okC_ev okC_sd okC_ll roL_st roL_ev roL_sd roL_ll cA_st cA_ev cA_sd cA_ll stPV scPV scCells evPV evCells ngPV ngCells sdPV sdCells
theorem mixed : Tryz.prog.follows .mixedOrders = true := by kernel_rfl
abbrev Kn := List ((Int × Int) × List Int)
def mkPV : List Int → PV
 | [] => .nilsl
 | x :: l => ints (x :: l)
def knE (k : Kn) : List PV := mapE stPV mkPV k
theorem clean_mk {a b c : Nat} (l : List Int) : Clean a b c (mkPV l) := by
 cases l with
 | nil => exact .nilsl
 | cons x l => exact clean_ints _
theorem cA_kn {a b c : Nat} {k : Kn} : CleanAll a b c (knE k) = True := CleanAll_mapE clean_st clean_mk
attribute [go_sem] cA_kn
def has (l : List Int) (v : Int) : Bool := l.any fun x => decide (x = v)
theorem has_iff {l : List Int} {v : Int} : has l v = true ↔ v ∈ l := by simp [has]
def chkOrd (m : Int) : List Int → List Int → Int
 | _, [] => 0
 | p, n :: r => if !(inR n 0 (m - 1)) then 7 else if has p n then 8 else chkOrd m (p ++ [n]) r
def scRange (s : Scale) : Bool := inR s.schools 1 8 && (inR s.matters 1 6 && (inR s.judges 1 5 && (inR s.drop 0 (s.judges - 1) && (inR s.low 0 100 && inR s.high 0 100))))
def chkSc (s : Scale) : Int := if !scRange s then 2 else if s.low > s.high then 9 else if (s.order.length : Int) ≠ s.matters then 1 else chkOrd s.matters [] s.order
theorem keyInt : KeyOK Tryz.prog 3 I := fun a b => by
 simp only [I, keyEq, if_true]
 congr 1
theorem intsEq2 {a b c d : Int} : intsEq [.int .i64 a, .int .i64 b] [.int .i64 c, .int .i64 d] = some ((a == c) && ((b == d) && true)) := rfl
theorem eqF241 {a b c d : Int} : eqFieldsPV Tryz.prog [.int .i64 a, .int .i64 b] [.int .i64 c, .int .i64 d] (Tryz.prog.fieldsOf 241).toList = some ((a == c) && ((b == d) && true)) := by kernel_rfl
theorem keySt : KeyOK Tryz.prog 241 stPV := fun x y => by
 obtain ⟨a, b⟩ := x
 obtain ⟨c, d⟩ := y
 have hf : ∃ fs, Tryz.prog.underlying 241 = some (.struct fs) := ⟨_, Tryz.underlying241⟩
 obtain ⟨fs, hf⟩ := hf
 have e : Tryz.prog.fieldsOf 241 = fs := by simp [Program.fieldsOf, hf]
 have := eqF241 (a := a) (b := b) (c := c) (d := d)
 rw [e] at this
 simp only [stPV, I, keyEq, hf, intsEq2, this]
 rw [if_pos ⟨by kernel_rfl, trivial⟩]
 refine congrArg some ?_
 rw [Bool.and_true]
 by_cases h1 : a = c
 ·by_cases h2 : b = d
  ·subst h1 h2; simp only [beq_self_eq_true, Bool.and_true, decide_true]
  rw [beq_eq_false_iff_ne.2 h2, Bool.and_false, decide_eq_false (fun h => h2 (Prod.mk.inj h).2)]
 rw [beq_eq_false_iff_ne.2 h1, Bool.false_and, decide_eq_false (fun h => h1 (Prod.mk.inj h).1)]
theorem lk173 {σ : Sg} {id : Nat} {a b : Int} {ok : Bool} : lookupPV Tryz.prog σ 173 (.map id) (.agg [.int .i64 a, .int .i64 b]) ok = lkX Tryz.prog 241 .nilsl σ id (.agg [.int .i64 a, .int .i64 b]) ok := lk_of Tryz.underlying173 Tryz.underlying241 (by kernel_rfl) (by kernel_rfl) σ id ok
theorem up173 {σ : Sg} {id : Nat} {a b : Int} {v : PV} : updatePV Tryz.prog σ 173 (.map id) (.agg [.int .i64 a, .int .i64 b]) v = upX Tryz.prog 241 σ id (.agg [.int .i64 a, .int .i64 b]) v := up_of Tryz.underlying173 Tryz.underlying241 (by kernel_rfl) v σ id
theorem lkK {k : Kn} {a b : Int} {ok : Bool} : lkM Tryz.prog 241 .nilsl (some (some (.mark :: knE k))) (.agg [.int .i64 a, .int .i64 b]) ok = some (packPV ok (mkPV ((aget (a, b) k).getD [])) (aget (a, b) k).isSome) := by
 have := lkM_map (z := .nilsl) keySt mkPV k (a, b) ok
 simp only [stPV, knE] at this ⊢
 rw [this]
 cases aget (a, b) k <;> rfl
theorem upKn {k : Kn} {a b : Int} : upM Tryz.prog 241 (some (some (.mark :: knE k))) (.agg [.int .i64 a, .int .i64 b]) .nilsl = some (.mark :: knE (aput (a, b) [] k)) := upM_map keySt mkPV k (a, b) []
theorem upKs {k : Kn} {a b x : Int} {l : List Int} : upM Tryz.prog 241 (some (some (.mark :: knE k))) (.agg [.int .i64 a, .int .i64 b]) (.isl (.int .i64 x :: l.map I) .ro) = some (.mark :: knE (aput (a, b) (x :: l) k)) := upM_map keySt mkPV k (a, b) (x :: l)
theorem upKs0 {a b x : Int} {l : List Int} : upM Tryz.prog 241 (some (some [.mark])) (.agg [.int .i64 a, .int .i64 b]) (.isl (.int .i64 x :: l.map I) .ro) = some (.mark :: knE (aput (a, b) (x :: l) [])) := upM_map keySt mkPV [] (a, b) (x :: l)
theorem mkPV_nil : mkPV [] = .nilsl := rfl
theorem nilmk {l : List Int} : nilPV Tryz.prog 22 (mkPV l) = some l.isEmpty := by
 cases l with
 | nil => simp only [nilPV, Tryz.underlying22, mkPV, List.isEmpty_nil]
 | cons x l => simp only [nilPV, Tryz.underlying22, mkPV]; rfl
theorem lkB {m : List (Int × Bool)} {k : Int} {ok : Bool} : lkM Tryz.prog 3 (.bool false) (some (some (.mark :: mapE I PV.bool m))) (.int .i64 k) ok = some (packPV ok (.bool ((aget k m).getD false)) (aget k m).isSome) := by
 have := lkM_map (z := .bool false) keyInt PV.bool m k ok
 simp only [I] at this ⊢
 rw [this]
 cases aget k m <;> rfl
theorem upB {m : List (Int × Bool)} {k : Int} {v : Bool} : upM Tryz.prog 3 (some (some (.mark :: mapE I PV.bool m))) (.int .i64 k) (.bool v) = some (.mark :: mapE I PV.bool (aput k v m)) := upM_map keyInt PV.bool m k v
theorem CleanAll_mapB {a b c : Nat} {l : List (Int × Bool)} : CleanAll a b c (mapE I PV.bool l) = True := CleanAll_mapE (fun _ => .int _ _) (fun _ => .bool _)
theorem packT {v : PV} {b : Bool} : packPV true v b = .tuple [v, .bool b] := rfl
theorem packF {v : PV} {b : Bool} : packPV false v b = v := rfl
theorem evN_tmp {E : Env} {t : Nat} : evN E (.tmp t) = E.get t := rfl
theorem evN_int {E : Env} {k : IntKind} {n : Int} : evN E (.const (.int k n)) = .int k n := rfl
theorem evN_bool {E : Env} {b : Bool} : evN E (.const (.bool b)) = .bool b := rfl
theorem evN_nil {E : Env} : evN E (.const (.slice none 0 0)) = .nilsl := rfl
theorem sll22 {xs : List Int} {own : Own} {k : IntKind} {n : Int} : slicePV Tryz.prog 22 (.isl (xs.map I) own) (some (.int k n)) none none = if 0 ≤ n then if n.toNat ≤ xs.length then some (.isl ((xs.drop n.toNat).map I) own) else none else none := slLo_of Tryz.underlying22 Tryz.underlying3 cells3 (fun _ => rfl) xs own k n
theorem slb22 {xs : List Int} {own : Own} {k k' : IntKind} {n m : Int} : slicePV Tryz.prog 22 (.isl (xs.map I) own) (some (.int k n)) (some (.int k' m)) none = if 0 ≤ n then if 0 ≤ m then if n.toNat ≤ m.toNat ∧ m.toNat ≤ xs.length then some (.isl (((xs.drop n.toNat).take (m.toNat - n.toNat)).map I) (sliceOwn own n.toNat m.toNat xs.length)) else none else none else none := slBoth_of Tryz.underlying22 Tryz.underlying3 cells3 (fun _ => rfl) xs own k k' n m
attribute [go_sem] sll22 slb22 lk173 up173 lkK upKn upKs upKs0 nilmk lkB upB CleanAll_mapB packT packF evN_tmp evN_int evN_bool evN_nil lkX_ext lkX_ext0 upX_ext upX_ext0 lkX_svx Cl_map Cl_nilmap Cl_mark Cl_gsl Cl_gnil setI setB mkPV_nil
end Go.Proofs.YtpkkegbiddcodaaGreatDoor.Mk
