/-
  Sorting, as the library does it.
  Walks: rows sorted; the points of a school in a matter (marks).
  Walks: the points of a school in a matter (marks).
  Walks: standings, and which of two is ahead (marks).
  Walks: the judges of whom nothing is known (marks).
  Walks: totals, places, who wins, who is missing (marks).
  Walks: standings sorted, as the library does it with few of them (marks).
  Walks: places, who wins, the table (marks).
  Standings sorted: each school once, nobody behind one that it is ahead of. The plain law.
  A night of one matter, of whom all judges came and no mark is dropped, plainly: the totals of the schools.
  Regions in which what is known may be weakened after some operations.
  A variable to which a pointer points, and that is never written again.
  A variable that nobody asks for any more.
  A region that steps an iterator over a map: whichever entry comes next.
  The data of the laws, read: contests, ballots, results, standings; rows of things.
  What the functions of song compute, in plain Lean.
  Facts of this seat's types for maps and made slices.
  Walks: numbers in bounds, numbers in lists, lists compared (song, bateriaref04, bateriakit, slices).
  Walks: lists copied and compared (bateriakit).
  Walks: contests checked (song).
  Walks: the rules of a ballot (song).
  Walks: a ballot checked (song).
  Walks: ballots checked (song).
-/
import Derived.Test.YtpkkegbiddcodaaGreatPd
import Derived.CallsIn
import Derived.RangeFuncLeaves
import Derived.RangeFuncRecord
import Derived.OrdersIn
import Derived.Below
import Derived.Laws.World
import Derived.Laws.StructEq
import Derived.Laws.BytesString
import Derived.Laws.Append
import Derived.MapKept
import Derived.ProofKit
import Derived.Carry
import Derived.Handed
import Derived.ChangeCalls
import Derived.Stop.Joined
import Derived.Lib.LaidTab
import Derived.Shelf.Strconv.Itoa3
import Derived.RangeFuncIn
import Derived.RangeFuncNested
import Derived.Test.YtpkkegbiddcodaaGreatProg
import Derived.KernelRfl
import Derived.IntWalk
import Derived.Test.YtpkkegbiddcodaaGreatRows
import Derived.Sort.OwnSortedInts
import Derived.Lib.SlicesCompact
import Derived.Shelf.Sort.Plain
import Derived.Shelf.Slices.In.SortNone
import Derived.Shelf.Small.Bits
import Derived.JoinedOf
set_option linter.unusedSimpArgs false
set_option linter.unusedVariables false
namespace Go.Proofs.YtpkkegbiddcodaaGreat
open Go Go.RowKit
set_option maxRecDepth 100000
def lays189_ren : Go.Shelf.Ren := ⟨fun | 189 => 53 | 125 => 45 | 257 => 87 | 128 => 74 | 129 => 75 | 294 => 100 | 295 => 101 | 296 => 102 | 297 => 103 | 298 => 104 | 299 => 105 | 216 => 106 | 300 => 107 | 301 => 108 | 328 => 120 | 329 => 94 | 330 => 95 | 331 => 121 | 332 => 122 | 215 => 99 | 343 => 126 | n => n, fun | 28 => 22 | 3 => 3 | 46 => 94 | 0 => 0 | 51 => 152 | 53 => 60 | 4 => 4 | 183 => 145 | 182 => 144 | 131 => 149 | 5 => 5 | 9 => 9 | 218 => 166 | 222 => 169 | 228 => 180 | 229 => 181 | n => n, fun n => n⟩
theorem lays189 : Lays.n189 Tryz.prog lays189_ren where
 mixed := by kernel_rfl
 f125 := Tryz.func45.trans (congrArg some (by kernel_rfl))
 f128 := Tryz.func74.trans (congrArg some (by kernel_rfl))
 f129 := Tryz.func75.trans (congrArg some (by kernel_rfl))
 f189 := Tryz.func53.trans (congrArg some (by kernel_rfl))
 f215 := Tryz.func99.trans (congrArg some (by kernel_rfl))
 f216 := Tryz.func106.trans (congrArg some (by kernel_rfl))
 f257 := Tryz.func87.trans (congrArg some (by kernel_rfl))
 f294 := Tryz.func100.trans (congrArg some (by kernel_rfl))
 f295 := Tryz.func101.trans (congrArg some (by kernel_rfl))
 f296 := Tryz.func102.trans (congrArg some (by kernel_rfl))
 f297 := Tryz.func103.trans (congrArg some (by kernel_rfl))
 f298 := Tryz.func104.trans (congrArg some (by kernel_rfl))
 f299 := Tryz.func105.trans (congrArg some (by kernel_rfl))
 f300 := Tryz.func107.trans (congrArg some (by kernel_rfl))
 f301 := Tryz.func108.trans (congrArg some (by kernel_rfl))
 f328 := Tryz.func120.trans (congrArg some (by kernel_rfl))
 f329 := Tryz.func94.trans (congrArg some (by kernel_rfl))
 f330 := Tryz.func95.trans (congrArg some (by kernel_rfl))
 f331 := Tryz.func121.trans (congrArg some (by kernel_rfl))
 f332 := Tryz.func122.trans (congrArg some (by kernel_rfl))
 f343 := Tryz.func126.trans (congrArg some (by kernel_rfl))
 t0 := Tryz.underlying0
 a0 := Tryz.isAgg0
 z0 := Tryz.sizeOf0
 v0 := Tryz.zeroValue0
 t3 := Tryz.underlying3
 a3 := Tryz.isAgg3
 z3 := Tryz.sizeOf3
 v3 := Tryz.zeroValue3
 t4 := Tryz.underlying4
 a4 := Tryz.isAgg4
 z4 := Tryz.sizeOf4
 v4 := Tryz.zeroValue4
 t5 := Tryz.underlying5
 a5 := Tryz.isAgg5
 z5 := Tryz.sizeOf5
 v5 := Tryz.zeroValue5
 t9 := Tryz.underlying9
 a9 := Tryz.isAgg9
 z9 := Tryz.sizeOf9
 v9 := Tryz.zeroValue9
 t28 := Tryz.underlying22
 a28 := Tryz.isAgg22
 z28 := Tryz.sizeOf22
 v28 := Tryz.zeroValue22
 t46 := Tryz.underlying94
 a46 := Tryz.isAgg94
 z46 := Tryz.sizeOf94
 v46 := Tryz.zeroValue94
 t51 := Tryz.underlying152
 a51 := Tryz.isAgg152
 z51 := Tryz.sizeOf152
 v51 := Tryz.zeroValue152
 t53 := Tryz.underlying60
 a53 := Tryz.isAgg60
 z53 := Tryz.sizeOf60
 v53 := Tryz.zeroValue60
 t131 := Tryz.underlying149
 a131 := Tryz.isAgg149
 z131 := Tryz.sizeOf149
 v131 := Tryz.zeroValue149
 t182 := Tryz.underlying144
 a182 := Tryz.isAgg144
 z182 := Tryz.sizeOf144
 v182 := Tryz.zeroValue144
 t183 := Tryz.underlying145
 a183 := Tryz.isAgg145
 z183 := Tryz.sizeOf145
 v183 := Tryz.zeroValue145
 t218 := Tryz.underlying166
 a218 := Tryz.isAgg166
 z218 := Tryz.sizeOf166
 v218 := Tryz.zeroValue166
 t222 := Tryz.underlying169
 a222 := Tryz.isAgg169
 z222 := Tryz.sizeOf169
 v222 := Tryz.zeroValue169
 t228 := Tryz.underlying180
 a228 := Tryz.isAgg180
 z228 := Tryz.sizeOf180
 v228 := Tryz.zeroValue180
 t229 := Tryz.underlying181
 a229 := Tryz.isAgg181
 z229 := Tryz.sizeOf181
 v229 := Tryz.zeroValue181
def lays125_ren : Go.Shelf.Ren := ⟨fun | 125 => 45 | 128 => 74 | 129 => 75 | n => n, fun | 46 => 94 | 3 => 3 | 51 => 152 | 53 => 60 | 4 => 4 | 5 => 5 | 9 => 9 | n => n, fun n => n⟩
theorem lays125 : Lays.n125 Tryz.prog lays125_ren where
 mixed := by kernel_rfl
 f125 := Tryz.func45.trans (congrArg some (by kernel_rfl))
 f128 := Tryz.func74.trans (congrArg some (by kernel_rfl))
 f129 := Tryz.func75.trans (congrArg some (by kernel_rfl))
 t3 := Tryz.underlying3
 a3 := Tryz.isAgg3
 z3 := Tryz.sizeOf3
 v3 := Tryz.zeroValue3
 t4 := Tryz.underlying4
 a4 := Tryz.isAgg4
 z4 := Tryz.sizeOf4
 v4 := Tryz.zeroValue4
 t5 := Tryz.underlying5
 a5 := Tryz.isAgg5
 z5 := Tryz.sizeOf5
 v5 := Tryz.zeroValue5
 t9 := Tryz.underlying9
 a9 := Tryz.isAgg9
 z9 := Tryz.sizeOf9
 v9 := Tryz.zeroValue9
 t46 := Tryz.underlying94
 a46 := Tryz.isAgg94
 z46 := Tryz.sizeOf94
 v46 := Tryz.zeroValue94
 t51 := Tryz.underlying152
 a51 := Tryz.isAgg152
 z51 := Tryz.sizeOf152
 v51 := Tryz.zeroValue152
 t53 := Tryz.underlying60
 a53 := Tryz.isAgg60
 z53 := Tryz.sizeOf60
 v53 := Tryz.zeroValue60
theorem sortsI : SortsI Tryz.prog 53 := ⟨by kernel_rfl, Any.slices_Sort_int_none lays189, Any.slices_Sort_int lays189⟩
theorem bitsLen_pc (Y : YEnv) (σ : Sg) (x : Int) (h0 : 0 ≤ x) (h1 : x ≤ 18446744073709551615) : PC Tryz.prog Y 45 [.int .u64 x] σ (.int .i64 (Lib.bitLen x.toNat)) σ := by
 refine PC_of_calls (by kernel_rfl) fun Ψ vals w hs ha => ?_
 obtain ⟨v, rfl⟩ : ∃ v, vals = #[v] := by
  have := ha.1
  match vals, this with
  | ⟨[v]⟩, _ => exact ⟨v, rfl⟩
 have hx := (ha.2 0 _ _ rfl rfl).int_inv
 subst hx
 refine (Any.bits_Len lays125 x w h0 h1).mono ?_
 rintro e w' ⟨rfl, rfl⟩
 exact ⟨_, Ψ, rfl, Ty.le.refl _, hs, .int _ _, Below.refl _ _⟩
end Go.Proofs.YtpkkegbiddcodaaGreat
namespace Go.Proofs.YtpkkegbiddcodaaGreat.Mk
open Go Go.RowKit
set_option maxRecDepth 100000
theorem Fin_more {P : Program} {fn : Func} {σ σ' : Sg} {E : Env} {rs : List PV} {v : PV} (hcl : CleanSg σ') (h1 : σ.store.length ≤ σ'.store.length) (h2 : σ.rooms.length ≤ σ'.rooms.length) (h3 : σ'.ys.length = σ.ys.length)
 (hr : resPV P σ' E fn.results.toList = some rs) (hv : Wk σ'.store.length σ'.rooms.length σ.ys.length (oneOr rs) v) : Fin P fn σ v σ' E σ' := by
 refine ⟨rs, _, _, hr, h1, h2, hv, ?_, ?_, h3⟩
 ·rw [← h3]; simp [Sg.cut]
 unfold CleanSg at hcl; rw [h3] at hcl; exact hcl
theorem stX_glI0 {σ : Sg} {l : List (Option (List PV))} {rm : List Nat} {ys : List LState} {off n : Nat} {out : List Int} : stX 1 (σ.ext l rm ys) σ.store.length off (glI n out) = match l[0]? with
 | some (some cs) => if off + 1 ≤ cs.length then some (σ.ext (l.set 0 (some (putCells cs off [glI n out]))) rm ys) else none
 | _ => none := by
 have := stX_glI (σ := σ) (l := l) (rm := rm) (ys := ys) (j := 0) (off := off) (n := n) (out := out)
 exact this
attribute [go_sem high] stX_glI0
theorem take_snoc {l : List Int} {i : Nat} {x : Int} (h : l[i]? = some x) : l.take i ++ [x] = l.take (i + 1) := by rw [List.take_add_one, h]; rfl
set_option maxHeartbeats 2000000 in
theorem values_pc (Y : YEnv) (σ : Sg) (pid n : Nat) :
 PC Tryz.prog Y 65 [.msl pid 0 n] σ (.func (.func 92) [] [.ptr σ.store.length 0]) (σ.ext [some [.msl pid 0 n]] []) := by
 refine PC_of_W Tryz.func65 rfl (by kernel_rfl) Tryz.ntmps65 (by simp) fun hcl hca => ?_
 have hp : pid < σ.store.length := by
  have := hca (.msl pid 0 n) (by simp)
  cases this; assumption
 refine W_sr [1] fun R hR => ?_
 simp only [go_sem]
 refine hR _ _ ?_; clear hR R
 try simp only [go_sem]
 refine W_sr [2] fun R hR => ?_
 simp only [go_sem]
 refine hR _ _ ?_; clear hR R
 try simp only [go_sem]
 refine W_ret ?_
 simp only [go_sem]
 refine ⟨.inr (by trivial), ?_⟩
 refine Fin_ext 1 0 hcl rfl (Wk_eq rfl ?_) ?_
 ·simp only [go_sem] <;> omega
 ·show CleanLs _ _ _ _
  simp only [go_sem] <;> omega
 try simp only [go_sem]
 all_goals
  skip
set_option maxHeartbeats 2000000 in
theorem values1_pc (Y : YEnv) (σ : Sg) (y id pid n : Nat) (xs : List Int) (τ : Nat → Sg) (hn : n ≤ xs.length) (hnb : n < 2 ^ 40)
 (hst : ∀ t, t ≤ n → (τ t).store[id]? = some (some [.msl pid 0 n])) (hst2 : ∀ t, t ≤ n → (τ t).store[pid]? = some (some (xs.map I)))
 (hY : ∀ t x, t < n → xs[t]? = some x → Y y [I x] (τ t) true (τ (t + 1)))
 (hlen : (τ 0).store.length ≤ (τ n).store.length) (hr : (τ 0).rooms.length ≤ (τ n).rooms.length) (hy : (τ n).ys.length = (τ 0).ys.length) (hcl' : CleanSg (τ 0) → CleanSg (τ n)) :
 PC Tryz.prog Y 92 [.yield y, .ptr id 0] (τ 0) (.tuple []) (τ n) := by
 refine PC_of_W Tryz.func92 rfl (by kernel_rfl) Tryz.ntmps92 (by simp) fun hcl hca => ?_
 have hs00 := hst 0 (Nat.zero_le _)
 refine W_sr [0, 5, 6, 7] fun R hR => ?_
 simp only [go_sem, ldS_at hs00]
 refine hR _ _ ?_; clear hR R
 try simp only [go_sem]
 refine W_block ?_
 refine W_loopT (α := Nat) (fun (i : Nat) => [(7, I i)]) (fun (i : Nat) => τ i) (fun (i : Nat) => i ≤ n) (fun (i : Nat) => n - i) (0) rfl (by first | rfl | (simp only [go_sem]; done) | (simp only [go_sem]; rfl)) (Nat.zero_le _) ?_
 rintro i hi
 refine W_sr [0, 5, 6, 7, 8] fun R hR => ?_
 simp only [go_sem]
 refine hR _ _ ?_; clear hR R
 try simp only [go_sem]
 refine W_seq fun Z3 K3 => ?_
 refine W_cond rfl (fun c1 => ?_) (fun c1 => ?_)
 ·
  try simp only [nrm] at c1
  have hin0 : i < n := by first | omega | (simp at c1; omega)
  have hin : (i : Int) < (n : Int) := by omega
  have hs2 := hst2 i (by omega)
  obtain ⟨x, hx⟩ : ∃ z, xs[i]? = some z := ⟨xs[i]'(by omega), by simp⟩
  refine W_skip (K3 _ _ ?_)
  refine W_seq fun Z4 K4 => ?_
  refine W_block ?_
  refine W_sr [0, 4, 5, 6, 7] fun R hR => ?_
  simp only [go_sem, hx, hin, iaM_nat hin0, Nat.mul_one, Nat.zero_add, ldS_at hs2, List.getElem?_map]
  refine hR _ _ ?_; clear hR R
  try simp only [go_sem, hx]
  refine W_sr [0, 5, 6, 7, 14] fun R hR => ?_
  simp only [go_sem, hx]
  refine GYield_of (hY i x hin0 hx) ?_
  simp only [go_sem, hx]
  refine hR _ _ ?_; clear hR R
  try simp only [go_sem, hx]
  refine W_cond_false rfl ?_
  refine W_skip (K4 _ _ ?_)
  refine W_region [0, 5, 6, 7] fun R hR => ?_
  simp only [go_sem, hx]
  try simp (disch := omega) only [wrapI, wrapU]
  refine hR _ _ ?_; clear hR R
  try simp only [go_sem, hx]
  refine ⟨i + 1, ?_, by (try simp only []); omega, ?_⟩
  ·first | exact Weak.refl | exact Wqq
  try dsimp only
  omega
 try simp only [nrm] at c1
 have hie : i = n := by first | omega | (simp at c1; omega)
 subst hie
 refine W_exit ?_
 simp only [go_sem]
 try simp only [go_sem]
 refine ⟨.inl (by trivial), ?_⟩
 exact Fin_more (rs := []) (hcl' hcl) hlen hr hy rfl (Wk.of_clean (.tuple _ Clean.all_nil))
 try simp only [go_sem]
 all_goals
  skip
set_option maxHeartbeats 2000000 in
theorem appendSeq_pc (Y : YEnv) (σ : Sg) (id pid n : Nat) (xs : List Int) (hid : σ.store[id]? = some (some [.msl pid 0 n])) (hpid : σ.store[pid]? = some (some (xs.map I))) (hn : n ≤ xs.length) (hnb : n < 2 ^ 40) :
 PC Tryz.prog Y 110 [.isl [] .exact, .func (.func 92) [] [.ptr id 0]] σ (glI (σ.store.length + 1) (xs.take n)) (σ.ext ([some [glI (σ.store.length + 1) (xs.take n)]] ++ gsI (xs.take n)) []) := by
 refine PC_of_W Tryz.func110 rfl (by kernel_rfl) Tryz.ntmps110 (by simp) fun hcl hca => ?_
 have hxl : (xs.take n).length = n := by simp; omega
 obtain ⟨xn, hxn⟩ : ∃ z, xs.take n = z := ⟨_, rfl⟩
 rw [hxn] at hxl ⊢
 refine W_sr [1, 2] fun R hR => ?_
 simp only [go_sem]
 refine hR _ _ ?_; clear hR R
 try simp only [go_sem]
 refine W_seq fun Z2 K2 => ?_
 refine W_sr [2, 6] fun R hR => ?_
 simp only [go_sem]
 refine hR _ _ ?_; clear hR R
 try simp only [go_sem]
 refine W_block ?_
 let L : List Int → List (Option (List PV)) := fun p => [some [glI (σ.store.length + 1) p]] ++ gsI p
 let so : Nat → Sg := fun t => σ.ext (L (xs.take t)) [] [.ready]
 have hLc : ∀ p (n r y : Nat), σ.store.length + 1 + p.length ≤ n → CleanLs n r y (L p) := fun p n r y h1 => by
  refine CleanLs_append ?_ (gsI_clean _)
  have := glI_clean (a := n) (b := r) (c := y) h1
  simp only [go_sem, this]
 refine W_weak (Weak.gnilX (j := 0) (off := 0) rfl rfl) ?_
 simp only [go_sem]
 refine W_rangeFunc (gf := 92) (v := .tuple []) (s := .ready) (σ5 := so n) rfl (by simp) (fun args τ b' τ' => ∃ t x, t < n ∧ xs[t]? = some x ∧ args = [I x] ∧ b' = true ∧ τ = so t ∧ τ' = so (t + 1)) ?_ ?_ ?_ ?_ ?_
 ·rintro args τ b τ' ⟨t, x, ht, hx, rfl, rfl, rfl, rfl⟩
  refine ⟨rfl, ?_, ?_⟩
  ·simp only [so, go_sem]
  simp only [so, L, go_sem]
  refine W_region [2, 5] fun R hR => ?_
  simp only [go_sem, putAll]
  refine hR _ _ ?_; clear hR R
  try simp only [go_sem, putAll]
  have hsn := take_snoc hx
  obtain ⟨out, hout⟩ : ∃ z, xs.take t = z := ⟨_, rfl⟩
  have hol : out.length ≤ t := by rw [← hout]; simp; omega
  rw [hout] at hsn
  try simp only [← hsn, hout]
  have happ := appG_gl (σ := σ) (A := [some [glI (σ.store.length + 1) out]]) (rm := []) (ys := [.busy]) (out := out) x (by omega)
  simp only [go_sem, List.length_cons, List.length_nil] at happ
  refine W_post_weak ?_
  refine W_block ?_
  refine W_region [] fun R hR => ?_
  simp only [go_sem, putAll, happ]
  try simp (disch := first | omega | (simp only [go_sem] <;> omega)) only [wrapI, wrapU, appX_exact, appX_tok]
  try simp only [go_sem, putAll, happ]
  refine hR _ _ ?_; clear hR R
  try simp only [go_sem, putAll]
  refine ⟨[], _, Weak.keep [], ?_⟩
  simp only [RoundEnd, go_sem]
 ·have hst := values1_pc (Y.at σ.ys.length (fun args τ b' τ' => ∃ t x, t < n ∧ xs[t]? = some x ∧ args = [I x] ∧ b' = true ∧ τ = so t ∧ τ' = so (t + 1))) σ σ.ys.length id pid n xs so hn hnb
   (fun t _ => by simp only [so]; exact get_extx hid) (fun t _ => by simp only [so]; exact get_extx hpid)
   (fun t x h1 h2 => by rw [YEnv.at_self]; exact ⟨t, x, h1, h2, rfl, rfl, rfl, rfl⟩) (by simp only [so, L, List.take_zero, gsI, go_sem] <;> omega) (by simp only [so, L, go_sem] <;> omega) (by simp only [so, L, go_sem])
   (fun _ => CleanSg_ext hcl (by refine hLc _ _ _ _ ?_; simp only [L, gsI_len, go_sem] <;> omega))
  have e0 : so 0 = σ.ext (L []) [] [.ready] := rfl
  rw [e0] at hst
  simp only [L, glI, gsI, go_sem] at hst ⊢
  exact hst
 ·simp only [so, L, go_sem]
 ·simp only [go_sem]
  exact CleanCut_ext hcl (by simp only [so, L, go_sem] <;> omega) (by simp only [so, L, go_sem, Nat.le_add_right]) (by omega) (by refine hLc _ _ _ _ ?_; simp only [so, L, gsI_len, go_sem] <;> omega)
 simp only [AfterLoop, so, L, go_sem]
 simp only [hxn]
 refine K2 _ _ ?_
 refine W_sr [4] fun R hR => ?_
 simp only [go_sem]
 refine hR _ _ ?_; clear hR R
 try simp only [go_sem]
 refine W_ret ?_
 simp only [go_sem]
 refine ⟨.inr (by trivial), ?_⟩
 have hcl2 : CleanSg (σ.ext ([some [glI (σ.store.length + 1) xn]] ++ gsI xn) []) := CleanSg_ext hcl (by refine hLc _ _ _ _ ?_; simp only [L, gsI_len, go_sem] <;> omega)
 refine Fin_more (σ := σ) hcl2 (by simp only [go_sem] <;> omega) (by simp only [go_sem] <;> omega) (by simp only [go_sem]) rfl (Wk.of_clean ?_)
 simp only [go_sem]
 refine glI_clean ?_
 simp only [gsI_len, go_sem] <;> omega
 try simp only [go_sem]
 all_goals
  skip
set_option maxHeartbeats 2000000 in
theorem collect_pc (Y : YEnv) (σ : Sg) (id pid n : Nat) (xs : List Int) (hid : σ.store[id]? = some (some [.msl pid 0 n])) (hpid : σ.store[pid]? = some (some (xs.map I))) (hn : n ≤ xs.length) (hnb : n < 2 ^ 40) :
 PC Tryz.prog Y 91 [.func (.func 92) [] [.ptr id 0]] σ (glI (σ.store.length + 1) (xs.take n)) (σ.ext ([some [glI (σ.store.length + 1) (xs.take n)]] ++ gsI (xs.take n)) []) := by
 refine PC_of_W Tryz.func91 rfl (by kernel_rfl) Tryz.ntmps91 (by simp) fun hcl hca => ?_
 refine W_sr [0] fun R hR => ?_
 simp only [go_sem]
 refine hR _ _ ?_; clear hR R
 try simp only [go_sem]
 refine W_sr [2] fun R hR => ?_
 simp only [go_sem]
 refine GCall_of (appendSeq_pc Y _ id pid n xs hid hpid hn hnb) ?_
 simp only [go_sem]
 refine hR _ _ ?_; clear hR R
 try simp only [go_sem]
 refine W_ret ?_
 simp only [go_sem]
 refine ⟨.inr (by trivial), ?_⟩
 have hol : (xs.take n).length = n := by simp; omega
 generalize xs.take n = out at hol ⊢
 have hcl2 : CleanSg (σ.ext ([some [glI (σ.store.length + 1) out]] ++ gsI out) []) := CleanSg_ext hcl (by
  refine CleanLs_append ?_ (gsI_clean _)
  have := glI_clean (a := σ.store.length + ([some [glI (σ.store.length + 1) out]] ++ gsI out).length) (b := σ.rooms.length + ([] : List Nat).length) (c := σ.ys.length) (n := σ.store.length + 1) (out := out) (by simp only [gsI_len, go_sem] <;> omega)
  simp only [go_sem] at this ⊢
  simp only [this])
 refine Fin_more (σ := σ) hcl2 (by simp only [go_sem] <;> omega) (by simp only [go_sem] <;> omega) (by simp only [go_sem]) rfl (Wk.of_clean ?_)
 simp only [go_sem]
 refine glI_clean ?_
 simp only [gsI_len, go_sem] <;> omega
 try simp only [go_sem]
 all_goals
  skip
set_option maxHeartbeats 2000000 in
theorem sorted_pc (Y : YEnv) (σ : Sg) (id pid n : Nat) (xs : List Int) (hid : σ.store[id]? = some (some [.msl pid 0 n])) (hpid : σ.store[pid]? = some (some (xs.map I))) (hn : n ≤ xs.length) (hnb : n < 2 ^ 40) (hn0 : 0 < n) :
 PC Tryz.prog Y 64 [.func (.func 92) [] [.ptr id 0]] σ (ints (sortI (xs.take n))) (σ) := by
 refine PC_of_W Tryz.func64 rfl (by kernel_rfl) Tryz.ntmps64 (by simp) fun hcl hca => ?_
 have hol : (xs.take n).length = n := by simp; omega
 obtain ⟨out, hout⟩ : ∃ z, xs.take n = z := ⟨_, rfl⟩
 have hcoll := collect_pc Y σ id pid n xs hid hpid hn hnb
 rw [hout] at hcoll hol ⊢
 refine W_sr [0] fun R hR => ?_
 simp only [go_sem]
 refine hR _ _ ?_; clear hR R
 try simp only [go_sem]
 refine W_sr [3] fun R hR => ?_
 simp only [go_sem]
 refine GCall_of (hcoll) ?_
 simp only [go_sem]
 refine hR _ _ ?_; clear hR R
 try simp only [go_sem]
 refine W_sr [3] fun R hR => ?_
 simp only [go_sem]
 refine GCall_of (sort_gl (A := [_]) sortsI (by omega)) ?_
 simp only [go_sem]
 refine hR _ _ ?_; clear hR R
 try simp only [go_sem]
 refine W_seq fun Z4 K4 => ?_
 have hsl := sortI_len out
 obtain ⟨z, zs, hz⟩ : ∃ z zs, sortI out = z :: zs := by cases h : sortI out with
  | nil => rw [h] at hsl; simp at hsl; omega
  | cons z zs => exact ⟨z, zs, rfl⟩
 refine W_weak (Weak.keep [3]) ?_
 have hE3 : glI (σ.store.length + 1) out = .gsl (σ.store.length + (1 + zs.length)) (zs.length + 1) 1 := by rw [← glI_sort, hz]; simp only [glI, Nat.add_assoc]
 simp only [go_sem, hE3, hz]
 refine W_weak (Weak.freeze (t := 3) (id := σ.store.length + (1 + zs.length)) (len := zs.length + 1) (es := 1) (l := (z :: zs).map I) rfl (by rw [Sg.get_ext, rowC_ints]; exact gsI_get (A := [_])) (by simp) (fun q hq => by obtain ⟨x, _, rfl⟩ := List.mem_map.1 hq; rfl)) ?_
 simp only [go_sem]
 refine W_region [2] fun R hR => ?_
 simp only [go_sem]
 refine hR _ _ (K4 _ _ ?_); clear hR R; try clear K4 Z4
 try simp only [go_sem]
 refine W_ret ?_
 simp only [go_sem]
 refine ⟨.inr (by trivial), ?_⟩
 rw [hz]; refine Fin_same hcl rfl (Wk_eq rfl ?_)
 try simp only [go_sem]
 all_goals
  simp only [go_sem]
theorem mem_sortI {x : Int} {l : List Int} : x ∈ sortI l ↔ x ∈ l := (List.mergeSort_perm l _).mem_iff
def presL (k : Kn) (m : Int) (i : Nat) : List Int := ((List.range i).map fun (n : Nat) => (n : Int)).filter fun n => !(absentK k (m, n))
theorem presL_succ (k : Kn) (m : Int) (i : Nat) : presL k m (i + 1) = if absentK k (m, (i : Int)) then presL k m i else presL k m i ++ [(i : Int)] := by
 unfold presL
 rw [List.range_succ, List.map_append, List.filter_append]
 cases h : absentK k (m, (i : Int)) <;> simp [h]
theorem presL_J {s : Scale} {J : Nat} (hJ : s.judges = J) (k : Kn) (m : Int) : presJ s k m = presL k m J := by simp only [presJ, toI, presL, hJ, Int.toNat_natCast]
theorem sumI_append (l r : List Int) : sumI (l ++ r) = sumI l + sumI r := by
 induction l with
 | nil => simp [sumI]
 | cons x l ih => simp only [List.cons_append, sumI, ih]; omega
theorem sumI_bd {b : Int} : ∀ {l : List Int}, (∀ x, x ∈ l → 0 ≤ x ∧ x ≤ b) → 0 ≤ sumI l ∧ sumI l ≤ l.length * b := by
 intro l
 induction l with
 | nil => intro _; simp [sumI]
 | cons x l ih =>
  intro h
  have h1 := ih fun y hy => h y (by simp [hy])
  have h2 := h x (by simp)
  simp only [sumI, List.length_cons]
  have : ((l.length + 1 : Nat) : Int) * b = l.length * b + b := by rw [show ((l.length + 1 : Nat) : Int) = (l.length : Int) + 1 by omega, Int.add_mul, Int.one_mul]
  omega
/-- What is known of a night that may be. -/
def KnOk (s : Scale) (k : Kn) : Prop := ∀ e, e ∈ k → e.2 = [] ∨ ((e.2.length : Int) = s.schools ∧ ∀ x, x ∈ e.2 → s.low ≤ x ∧ x ≤ s.high)
theorem mkAt_bd {s : Scale} {k : Kn} (hv : s.V) (hk : KnOk s k) {u : Int} (hu : 0 ≤ u ∧ u ≤ 100) (sc m n : Int) : 0 ≤ mkAt k sc m u n ∧ mkAt k sc m u n ≤ 100 := by
 unfold mkAt
 cases h : aget (m, n) k with
 | none => exact hu
 | some l =>
  cases l with
  | nil => exact hu
  | cons x l =>
   simp only
   rcases hk _ (aget_mem h) with e | ⟨_, e⟩
   ·cases e
   cases hq : (x :: l)[sc.toNat]? with
   | none => simp
   | some y =>
    have := e y (List.mem_of_getElem? hq)
    have q4 := hv.lo
    have q5 := hv.hi
    simp only [Option.getD_some]
    omega
theorem mkAt_none {k : Kn} {sc m u n : Int} (h : (aget (m, n) k).getD [] = []) : mkAt k sc m u n = u := by
 unfold mkAt
 cases h2 : aget (m, n) k with
 | none => rfl
 | some l => rw [h2] at h; simp only [Option.getD_some] at h; subst h; rfl
theorem mkAt_some {k : Kn} {m u n x : Int} {sc : Nat} {l : List Int} (h : (aget (m, n) k).getD [] = l) (hl : l ≠ []) (hx : l[sc]? = some x) : mkAt k sc m u n = x := by
 unfold mkAt
 cases h2 : aget (m, n) k with
 | none => rw [h2] at h; exact absurd h.symm hl
 | some l2 =>
  rw [h2] at h
  simp only [Option.getD_some] at h
  subst h
  cases l2 with
  | nil => exact absurd rfl hl
  | cons y l => simp only [Int.toNat_natCast, hx, Option.getD_some]
theorem kn_len {s : Scale} {k : Kn} (hk : KnOk s k) {j : Int × Int} (h : (aget j k).getD [] ≠ []) : (((aget j k).getD []).length : Int) = s.schools := by
 cases h2 : aget j k with
 | none => rw [h2] at h; exact absurd rfl h
 | some l =>
  rw [h2] at h
  rcases hk _ (aget_mem h2) with e | ⟨e, _⟩
  ·exact absurd e h
  exact e
theorem meanM_bd {s : Scale} {k : Kn} (hv : s.V) (hk : KnOk s k) {u : Int} (hu : 0 ≤ u ∧ u ≤ 100) (sc m : Int) : 0 ≤ meanM s k sc m u ∧ meanM s k sc m u ≤ 100 := by
 unfold meanM
 have hb := sumI_bd (b := 100) (l := (presJ s k m).map (mkAt k sc m u)) fun x hx => by
  obtain ⟨n, _, rfl⟩ := List.mem_map.1 hx
  exact mkAt_bd hv hk hu sc m n
 simp only [List.length_map] at hb
 rw [Int.tdiv_eq_ediv_of_nonneg hb.1]
 rcases Nat.eq_zero_or_pos (presJ s k m).length with h | h
 ·rw [h]; simp
 exact ⟨Int.ediv_nonneg hb.1 (by omega), Int.ediv_le_of_le_mul (by omega) (by rw [Int.mul_comm]; exact hb.2)⟩
theorem panelM_bd {s : Scale} {k : Kn} (hv : s.V) (hk : KnOk s k) {u : Int} (hu : 0 ≤ u ∧ u ≤ 100) (sc m : Int) : ∀ x, x ∈ panelM s k sc m u → 0 ≤ x ∧ x ≤ 100 := by
 intro x hx
 obtain ⟨n, _, rfl⟩ := List.mem_map.1 hx
 split
 ·exact meanM_bd hv hk hu sc m
 exact mkAt_bd hv hk hu sc m n
theorem panelM_len {s : Scale} {J : Nat} (hJ : s.judges = J) (k : Kn) (sc m u : Int) : (panelM s k sc m u).length = J := by simp [panelM, toI, hJ]
theorem panelM_eq {s : Scale} {J : Nat} (hJ : s.judges = J) (k : Kn) (sc m u : Int) {pp : List Int} (hl : J ≤ pp.length)
 (h1 : ∀ q : Nat, q < J → absentK k (m, (q : Int)) = false → pp[q]? = some (mkAt k sc m u q)) (h2 : ∀ q : Nat, q < J → absentK k (m, (q : Int)) = true → pp[q]? = some (meanM s k sc m u)) : pp.take J = panelM s k sc m u := by
 refine List.ext_getElem? fun q => ?_
 by_cases hq : q < J
 ·rw [List.getElem?_take_of_lt hq]
  simp only [panelM, toI, hJ, Int.toNat_natCast, List.getElem?_map, List.getElem?_range hq, Option.map_some]
  cases h : absentK k (m, (q : Int)) with
  | true => rw [h2 q hq h]; rfl
  | false => rw [h1 q hq h]; rfl
 rw [List.getElem?_eq_none (by simp; omega), List.getElem?_eq_none (by rw [panelM_len hJ]; omega)]
theorem points_bd {s : Scale} {k : Kn} (hv : s.V) (hk : KnOk s k) {u : Int} (hu : 0 ≤ u ∧ u ≤ 100) (sc m : Int) : 0 ≤ pointsK s k sc m u ∧ pointsK s k sc m u ≤ 500 := by
 have h := sumI_bd (b := 100) (l := (sortI (panelM s k sc m u)).drop s.drop.toNat) fun x hx => panelM_bd hv hk hu sc m x (mem_sortI.1 (List.mem_of_mem_drop hx))
 have q2 := hv.jd
 have hl : ((sortI (panelM s k sc m u)).drop s.drop.toNat).length ≤ 5 := by
  simp only [List.length_drop, sortI_len, panelM, toI, List.length_map, List.length_range]
  omega
 unfold pointsK
 omega
set_option maxHeartbeats 4000000 in
theorem points_pc (Y : YEnv) (σ : Sg) (id : Nat) (k : Kn) (hd : σ.store[id]? = some (some (.mark :: knE k))) (s : Scale) (hv : s.V) (hk : KnOk s k) (sc : Nat) (hsc : (sc : Int) < s.schools) (m : Int) (hp : presJ s k m ≠ []) (u : Int) (hu : 0 ≤ u ∧ u ≤ 100) :
    PC Tryz.prog Y 40 [.map id, scPV s, I sc, I m, I u] σ (I (pointsK s k sc m u)) (σ) := by
  refine PC_of_W Tryz.func40 rfl (by kernel_rfl) Tryz.ntmps40 (by simp) fun hcl hca => ?_
  have hlt := lt_of_get hd
  have q2 := hv.jd
  have q3 := hv.sc
  have q6 := hv.dr
  obtain ⟨J, hJ⟩ : ∃ z : Nat, s.judges = z := ⟨s.judges.toNat, by omega⟩
  obtain ⟨d, hdr⟩ : ∃ z : Nat, s.drop = z := ⟨s.drop.toNat, by omega⟩
  have hpJ := presL_J hJ k m
  have hbd := mkAt_bd hv hk hu sc m
  have hme := meanM_bd hv hk hu sc m
  obtain ⟨mean, hmean⟩ : ∃ z, meanM s k sc m u = z := ⟨_, rfl⟩
  rw [hmean] at hme
  refine W_sr [0, 2, 3, 4, 6] fun R hR => ?_
  simp only [go_sem, lkX_old hlt, lkX_at hd, hJ, hdr]
  refine hR _ _ ?_; clear hR R
  try simp only [go_sem, lkX_old hlt, lkX_at hd, hJ, hdr]
  refine W_sr [0, 2, 3, 4, 6, 11] fun R hR => ?_
  simp only [go_sem, lkX_old hlt, lkX_at hd, hJ, hdr]
  refine hR _ _ ?_; clear hR R
  try simp only [go_sem, lkX_old hlt, lkX_at hd, hJ, hdr]
  refine W_sr [0, 2, 3, 4, 6, 11, 12, 13] fun R hR => ?_
  simp only [go_sem, lkX_old hlt, lkX_at hd, hJ, hdr]
  refine hR _ _ ?_; clear hR R
  try simp only [go_sem, lkX_old hlt, lkX_at hd, hJ, hdr]
  refine W_seq fun Z4 K4 => ?_
  refine W_sr [0, 2, 3, 4, 6, 11, 12, 13, 23, 24] fun R hR => ?_
  simp only [go_sem, lkX_old hlt, lkX_at hd, hJ, hdr]
  refine hR _ _ ?_; clear hR R
  try simp only [go_sem, lkX_old hlt, lkX_at hd, hJ, hdr]
  refine W_block ?_
  refine W_loopT (α := Nat × (List Int) × Int × Nat) (fun ⟨i, pp, sm, mn⟩ => [(12, I sm), (13, I mn), (24, I i)]) (fun ⟨i, pp, sm, mn⟩ => σ.ext [some [I s.schools, I s.matters, I (J : Int), I (d : Int), I s.low, I s.high, ints s.order], some (pp.map I)] []) (fun ⟨i, pp, sm, mn⟩ => i ≤ J ∧ pp.length = 5 ∧ (∀ q : Nat, q < i → absentK k (m, (q : Int)) = false → pp[q]? = some (mkAt k sc m u q)) ∧ sm = sumI ((presL k m i).map (mkAt k sc m u)) ∧ mn = (presL k m i).length ∧ 0 ≤ sm ∧ sm ≤ 100 * (i : Int) ∧ mn ≤ i) (fun ⟨i, pp, sm, mn⟩ => J - i) ((0, [0, 0, 0, 0, 0], 0, 0)) rfl (by first | rfl | (simp only [go_sem]; done) | (simp only [go_sem]; rfl)) (⟨Nat.zero_le _, rfl, fun q hq => absurd hq (Nat.not_lt_zero _), rfl, rfl, Int.le_refl _, Int.le_refl _, Nat.le_refl _⟩) ?_
  rintro ⟨i, pp, sm, mn⟩ ⟨hi, hpl, hpv, hsm, hmn, hs1, hs2, hm1⟩
  refine W_sr [0, 2, 3, 4, 6, 11, 12, 13, 23, 24, 25] fun R hR => ?_
  simp only [go_sem, lkX_old hlt, lkX_at hd, hJ, hdr]
  refine hR _ _ ?_; clear hR R
  try simp only [go_sem, lkX_old hlt, lkX_at hd, hJ, hdr]
  refine W_seq fun Z7 K7 => ?_
  refine W_cond rfl (fun c1 => ?_) (fun c1 => ?_)
  ·
    try simp only [nrm] at c1
    have hiJ : i < J := by first | omega | (simp at c1; omega)
    have hi5 : i < 5 := by omega
    have hI5 : (i : Int) < 5 := by omega
    have hi1 : i + 1 ≤ pp.length := by omega
    have hset : ∀ v : Int, (pp.set i v)[i]? = some v := fun v => by rw [List.getElem?_set_self (by omega)]
    have hps := presL_succ k m i
    have hbi := hbd i
    refine W_skip (K7 _ _ ?_)
    refine W_seq fun Z8 K8 => ?_
    refine W_block ?_
    refine W_sr [0, 2, 3, 4, 6, 11, 12, 13, 14, 23, 24] fun R hR => ?_
    simp only [go_sem, lkX_old hlt, lkX_at hd, hJ, hdr]
    refine hR _ _ ?_; clear hR R
    try simp only [go_sem, lkX_old hlt, lkX_at hd, hJ, hdr]
    refine W_sr [0, 2, 3, 4, 6, 11, 12, 13, 14, 15, 23, 24] fun R hR => ?_
    simp only [go_sem, lkX_old hlt, lkX_at hd, hJ, hdr]
    refine hR _ _ ?_; clear hR R
    try simp only [go_sem, lkX_old hlt, lkX_at hd, hJ, hdr]
    refine W_seq fun Z11 K11 => ?_
    refine W_sr [0, 2, 3, 4, 6, 11, 12, 13, 14, 15, 23, 24, 32] fun R hR => ?_
    simp only [go_sem, lkX_old hlt, lkX_at hd, hJ, hdr]
    refine GCall_of (absent_pc Y _ id k (get_extx hd) (m, (i : Int))) ?_
    simp only [go_sem, lkX_old hlt, lkX_at hd, hJ, hdr]
    refine hR _ _ ?_; clear hR R
    try simp only [go_sem, lkX_old hlt, lkX_at hd, hJ, hdr]
    refine W_cond rfl (fun c2 => ?_) (fun c2 => ?_)
    ·
      try simp only [nrm] at c2
      have ha : absentK k (m, (i : Int)) = true := c2
      refine W_exit ?_
      simp only [go_sem, lkX_old hlt, lkX_at hd, hJ, hdr]
      refine K8 _ _ ?_
      refine W_region [0, 2, 3, 4, 6, 11, 12, 13, 23, 24] fun R hR => ?_
      simp only [go_sem, lkX_old hlt, lkX_at hd, hJ, hdr]
      try simp (disch := omega) only [wrapI, wrapU]
      refine hR _ _ ?_; clear hR R
      try simp only [go_sem, lkX_old hlt, lkX_at hd, hJ, hdr]
      refine ⟨(i + 1, pp, sm, mn), ?_, by (try simp only []); omega, ?_⟩
      · refine Weak.trans (Weak.cutX 2 0 (by omega) (by omega) hcl (by simp only [go_sem] <;> omega) (by simp only [go_sem] <;> omega)) ?_
        simp only [go_sem]
        exact Weak.eq (by first | rfl | (simp only [go_sem]; done) | (simp only [go_sem]; rfl) | (simp [go_sem]; done) | (simp [go_sem]; omega)) (by first | rfl | (simp only [go_sem]; done) | (simp [go_sem]; done))
      · try dsimp only
        first
        | (rw [ha, if_pos rfl] at hps
           rw [hps]
           refine ⟨hiJ, hpl, fun q hq ha2 => ?_, hsm, hmn, hs1, by omega, by omega⟩
           rcases Nat.lt_succ_iff_lt_or_eq.1 hq with h | h
           · exact hpv q h ha2
           · subst h; rw [ha] at ha2; cases ha2)
        | (rw [ha, if_neg (by simp)] at hps
           rw [hps, List.map_append, sumI_append, List.length_append, ← hsm, ← hmn]
           rw [hmk] at hbi
           refine ⟨hiJ, by rw [List.length_set]; exact hpl, fun q hq ha2 => ?_, by simp only [List.map_cons, List.map_nil, sumI, hmk]; omega, rfl, by omega, by omega, by omega⟩
           rcases Nat.lt_succ_iff_lt_or_eq.1 hq with h | h
           · rw [List.getElem?_set_ne (by omega)]; exact hpv q h ha2
           · subst h; rw [hset, hmk])
    ·
      try simp only [nrm] at c2
      have ha : absentK k (m, (i : Int)) = false := by simpa using c2
      refine W_skip (K11 _ _ ?_)
      refine W_sr [0, 2, 3, 4, 6, 11, 12, 13, 14, 15, 23, 24] fun R hR => ?_
      simp only [go_sem, lkX_old hlt, lkX_at hd, hJ, hdr, hI5, iaM_nat hi5, Nat.mul_one, Nat.zero_add, hi1]
      refine hR _ _ ?_; clear hR R
      try simp only [go_sem, lkX_old hlt, lkX_at hd, hJ, hdr]
      refine W_seq fun Z14 K14 => ?_
      refine W_sr [0, 2, 3, 4, 6, 11, 12, 13, 14, 16, 23, 24] fun R hR => ?_
      simp only [go_sem, lkX_old hlt, lkX_at hd, hJ, hdr]
      refine hR _ _ ?_; clear hR R
      try simp only [go_sem, lkX_old hlt, lkX_at hd, hJ, hdr]
      refine W_sr [0, 2, 3, 4, 6, 11, 12, 13, 14, 16, 23, 24, 40] fun R hR => ?_
      simp only [go_sem, lkX_old hlt, lkX_at hd, hJ, hdr]
      refine hR _ _ ?_; clear hR R
      try simp only [go_sem, lkX_old hlt, lkX_at hd, hJ, hdr]
      refine W_cond rfl (fun c3 => ?_) (fun c3 => ?_)
      ·
        try simp only [nrm] at c3
        obtain ⟨lx, hlx0⟩ : ∃ z, (aget (m, (i : Int)) k).getD [] = z := ⟨_, rfl⟩
        have hne : lx ≠ [] := by rw [hlx0] at c3; intro e; rw [e] at c3; simp at c3
        have hll := kn_len hk (j := (m, (i : Int))) (by rw [hlx0]; exact hne)
        rw [hlx0] at hll
        obtain ⟨x, hlx⟩ : ∃ z, lx[sc]? = some z := ⟨lx[sc]'(by omega), by simp⟩
        have hmk : mkAt k sc m u i = x := mkAt_some hlx0 hne hlx
        simp only [hlx0, mkPV_ne hne]
        refine W_region [0, 2, 3, 4, 6, 11, 12, 13, 14, 23, 24] fun R hR => ?_
        simp only [go_sem, lkX_old hlt, lkX_at hd, hJ, hdr, hI5, iaM_nat hi5, Nat.mul_one, Nat.zero_add, hi1, hset, hlx, List.set_set, List.length_set]
        refine hR _ _ (K14 _ _ ?_); clear hR R; try clear K14 Z14
        try simp only [go_sem, lkX_old hlt, lkX_at hd, hJ, hdr]
        refine W_sr [0, 2, 3, 4, 6, 11, 12, 13, 23, 24] fun R hR => ?_
        simp only [go_sem, lkX_old hlt, lkX_at hd, hJ, hdr, hI5, iaM_nat hi5, Nat.mul_one, Nat.zero_add, List.getElem?_map, hset]
        try simp (disch := omega) only [wrapI, wrapU]
        refine hR _ _ ?_; clear hR R
        try simp only [go_sem, lkX_old hlt, lkX_at hd, hJ, hdr]
        refine W_region [0, 2, 3, 4, 6, 11, 12, 13, 23, 24] fun R hR => ?_
        simp only [go_sem, lkX_old hlt, lkX_at hd, hJ, hdr]
        try simp (disch := omega) only [wrapI, wrapU]
        refine hR _ _ (K8 _ _ ?_); clear hR R; try clear K8 Z8
        try simp only [go_sem, lkX_old hlt, lkX_at hd, hJ, hdr]
        refine W_region [0, 2, 3, 4, 6, 11, 12, 13, 23, 24] fun R hR => ?_
        simp only [go_sem, lkX_old hlt, lkX_at hd, hJ, hdr]
        try simp (disch := omega) only [wrapI, wrapU]
        refine hR _ _ ?_; clear hR R
        try simp only [go_sem, lkX_old hlt, lkX_at hd, hJ, hdr]
        refine ⟨(i + 1, pp.set i x, sm + x, mn + 1), ?_, by (try simp only []); omega, ?_⟩
        · refine Weak.trans (Weak.cutX 2 0 (by omega) (by omega) hcl (by simp only [go_sem] <;> omega) (by simp only [go_sem] <;> omega)) ?_
          simp only [go_sem]
          exact Weak.eq (by first | rfl | (simp only [go_sem]; done) | (simp only [go_sem]; rfl) | (simp [go_sem]; done) | (simp [go_sem]; omega)) (by first | rfl | (simp only [go_sem]; done) | (simp [go_sem]; done))
        · try dsimp only
          first
          | (rw [ha, if_pos rfl] at hps
             rw [hps]
             refine ⟨hiJ, hpl, fun q hq ha2 => ?_, hsm, hmn, hs1, by omega, by omega⟩
             rcases Nat.lt_succ_iff_lt_or_eq.1 hq with h | h
             · exact hpv q h ha2
             · subst h; rw [ha] at ha2; cases ha2)
          | (rw [ha, if_neg (by simp)] at hps
             rw [hps, List.map_append, sumI_append, List.length_append, ← hsm, ← hmn]
             rw [hmk] at hbi
             refine ⟨hiJ, by rw [List.length_set]; exact hpl, fun q hq ha2 => ?_, by simp only [List.map_cons, List.map_nil, sumI, hmk]; omega, rfl, by omega, by omega, by omega⟩
             rcases Nat.lt_succ_iff_lt_or_eq.1 hq with h | h
             · rw [List.getElem?_set_ne (by omega)]; exact hpv q h ha2
             · subst h; rw [hset, hmk])
      ·
        try simp only [nrm] at c3
        have hmk : mkAt k sc m u i = u := mkAt_none (by simpa using c3)
        refine W_skip (K14 _ _ ?_)
        refine W_sr [0, 2, 3, 4, 6, 11, 12, 13, 23, 24] fun R hR => ?_
        simp only [go_sem, lkX_old hlt, lkX_at hd, hJ, hdr, hI5, iaM_nat hi5, Nat.mul_one, Nat.zero_add, List.getElem?_map, hset]
        try simp (disch := omega) only [wrapI, wrapU]
        refine hR _ _ ?_; clear hR R
        try simp only [go_sem, lkX_old hlt, lkX_at hd, hJ, hdr]
        refine W_region [0, 2, 3, 4, 6, 11, 12, 13, 23, 24] fun R hR => ?_
        simp only [go_sem, lkX_old hlt, lkX_at hd, hJ, hdr]
        try simp (disch := omega) only [wrapI, wrapU]
        refine hR _ _ (K8 _ _ ?_); clear hR R; try clear K8 Z8
        try simp only [go_sem, lkX_old hlt, lkX_at hd, hJ, hdr]
        refine W_region [0, 2, 3, 4, 6, 11, 12, 13, 23, 24] fun R hR => ?_
        simp only [go_sem, lkX_old hlt, lkX_at hd, hJ, hdr]
        try simp (disch := omega) only [wrapI, wrapU]
        refine hR _ _ ?_; clear hR R
        try simp only [go_sem, lkX_old hlt, lkX_at hd, hJ, hdr]
        refine ⟨(i + 1, pp.set i u, sm + u, mn + 1), ?_, by (try simp only []); omega, ?_⟩
        · refine Weak.trans (Weak.cutX 2 0 (by omega) (by omega) hcl (by simp only [go_sem] <;> omega) (by simp only [go_sem] <;> omega)) ?_
          simp only [go_sem]
          exact Weak.eq (by first | rfl | (simp only [go_sem]; done) | (simp only [go_sem]; rfl) | (simp [go_sem]; done) | (simp [go_sem]; omega)) (by first | rfl | (simp only [go_sem]; done) | (simp [go_sem]; done))
        · try dsimp only
          first
          | (rw [ha, if_pos rfl] at hps
             rw [hps]
             refine ⟨hiJ, hpl, fun q hq ha2 => ?_, hsm, hmn, hs1, by omega, by omega⟩
             rcases Nat.lt_succ_iff_lt_or_eq.1 hq with h | h
             · exact hpv q h ha2
             · subst h; rw [ha] at ha2; cases ha2)
          | (rw [ha, if_neg (by simp)] at hps
             rw [hps, List.map_append, sumI_append, List.length_append, ← hsm, ← hmn]
             rw [hmk] at hbi
             refine ⟨hiJ, by rw [List.length_set]; exact hpl, fun q hq ha2 => ?_, by simp only [List.map_cons, List.map_nil, sumI, hmk]; omega, rfl, by omega, by omega, by omega⟩
             rcases Nat.lt_succ_iff_lt_or_eq.1 hq with h | h
             · rw [List.getElem?_set_ne (by omega)]; exact hpv q h ha2
             · subst h; rw [hset, hmk])
  ·
    try simp only [nrm] at c1
    have hie : J = i := by first | omega | (simp at c1; omega)
    subst hie
    refine W_exit ?_
    simp only [go_sem, lkX_old hlt, lkX_at hd, hJ, hdr]
    refine K4 _ _ ?_
    refine W_seq fun Z19 K19 => ?_
    refine W_sr [0, 3, 6, 11, 12, 13, 56, 57] fun R hR => ?_
    simp only [go_sem, lkX_old hlt, lkX_at hd, hJ, hdr]
    refine hR _ _ ?_; clear hR R
    try simp only [go_sem, lkX_old hlt, lkX_at hd, hJ, hdr]
    refine W_block ?_
    rw [← hpJ] at hsm hmn
    have hmn0 : ¬ ((mn : Int) = 0) := fun e => hp (List.eq_nil_of_length_eq_zero (by omega))
    have htd0 : sm.tdiv mn = mean := by rw [← hmean, meanM, ← hsm, ← hmn]
    have htd : IntKind.i64.wrap (sm.tdiv mn) = mean := by rw [htd0]; exact wrapI (by omega) (by omega)
    refine W_loopT (α := Nat × (List Int)) (fun ⟨j, pp⟩ => [(57, I j)]) (fun ⟨j, pp⟩ => σ.ext [some [I s.schools, I s.matters, I (J : Int), I (d : Int), I s.low, I s.high, ints s.order], some (pp.map I)] []) (fun ⟨j, pp⟩ => j ≤ J ∧ pp.length = 5 ∧ (∀ q : Nat, q < J → absentK k (m, (q : Int)) = false → pp[q]? = some (mkAt k sc m u q)) ∧ (∀ q : Nat, q < j → absentK k (m, (q : Int)) = true → pp[q]? = some mean)) (fun ⟨j, pp⟩ => J - j) ((0, pp)) rfl (by first | rfl | (simp only [go_sem]; done) | (simp only [go_sem]; rfl)) (⟨Nat.zero_le _, hpl, hpv, fun q hq => absurd hq (Nat.not_lt_zero _)⟩) ?_
    rintro ⟨j, pp⟩ ⟨hj, hpl2, hpv2, hpm⟩
    refine W_sr [0, 3, 6, 11, 12, 13, 56, 57, 58] fun R hR => ?_
    simp only [go_sem, lkX_old hlt, lkX_at hd, hJ, hdr]
    refine hR _ _ ?_; clear hR R
    try simp only [go_sem, lkX_old hlt, lkX_at hd, hJ, hdr]
    refine W_seq fun Z22 K22 => ?_
    refine W_cond rfl (fun c4 => ?_) (fun c4 => ?_)
    ·
      try simp only [nrm] at c4
      have hjJ : j < J := by first | omega | (simp at c4; omega)
      have hi5 : j < 5 := by omega
      have hI5 : (j : Int) < 5 := by omega
      have hi1 : j + 1 ≤ pp.length := by omega
      have hset : ∀ v : Int, (pp.set j v)[j]? = some v := fun v => by rw [List.getElem?_set_self (by omega)]
      refine W_skip (K22 _ _ ?_)
      refine W_seq fun Z23 K23 => ?_
      refine W_block ?_
      refine W_sr [0, 3, 6, 11, 12, 13, 17, 56, 57] fun R hR => ?_
      simp only [go_sem, lkX_old hlt, lkX_at hd, hJ, hdr]
      refine hR _ _ ?_; clear hR R
      try simp only [go_sem, lkX_old hlt, lkX_at hd, hJ, hdr]
      refine W_sr [0, 3, 6, 11, 12, 13, 17, 56, 57, 64] fun R hR => ?_
      simp only [go_sem, lkX_old hlt, lkX_at hd, hJ, hdr]
      refine GCall_of (absent_pc Y _ id k (get_extx hd) (m, (j : Int))) ?_
      simp only [go_sem, lkX_old hlt, lkX_at hd, hJ, hdr]
      refine hR _ _ ?_; clear hR R
      try simp only [go_sem, lkX_old hlt, lkX_at hd, hJ, hdr]
      refine W_cond rfl (fun c5 => ?_) (fun c5 => ?_)
      ·
        try simp only [nrm] at c5
        have ha : absentK k (m, (j : Int)) = true := c5
        refine W_region [0, 3, 6, 11, 12, 13, 56, 57] fun R hR => ?_
        simp only [go_sem, lkX_old hlt, lkX_at hd, hJ, hdr, hI5, iaM_nat hi5, Nat.mul_one, Nat.zero_add, hi1, hmn0, htd]
        try simp (disch := omega) only [wrapI, wrapU]
        refine hR _ _ (K23 _ _ ?_); clear hR R; try clear K23 Z23
        try simp only [go_sem, lkX_old hlt, lkX_at hd, hJ, hdr]
        refine W_region [0, 3, 6, 11, 12, 13, 56, 57] fun R hR => ?_
        simp only [go_sem, lkX_old hlt, lkX_at hd, hJ, hdr]
        try simp (disch := omega) only [wrapI, wrapU]
        refine hR _ _ ?_; clear hR R
        try simp only [go_sem, lkX_old hlt, lkX_at hd, hJ, hdr]
        refine ⟨(j + 1, pp.set j mean), ?_, by (try simp only []); omega, ?_⟩
        · first | exact Weak.refl | exact Wqq
        · try dsimp only
          first
          | (refine ⟨hjJ, by rw [List.length_set]; exact hpl2, fun q hq ha2 => ?_, fun q hq ha2 => ?_⟩
             · rw [List.getElem?_set_ne (by rintro rfl; rw [ha] at ha2; cases ha2)]; exact hpv2 q hq ha2
             · rcases Nat.lt_succ_iff_lt_or_eq.1 hq with h | h
               · rw [List.getElem?_set_ne (by omega)]; exact hpm q h ha2
               · subst h; exact hset mean)
          | (refine ⟨hjJ, hpl2, hpv2, fun q hq ha2 => ?_⟩
             rcases Nat.lt_succ_iff_lt_or_eq.1 hq with h | h
             · exact hpm q h ha2
             · subst h; rw [ha] at ha2; cases ha2)
      ·
        try simp only [nrm] at c5
        have ha : absentK k (m, (j : Int)) = false := by simpa using c5
        refine W_skip (K23 _ _ ?_)
        refine W_region [0, 3, 6, 11, 12, 13, 56, 57] fun R hR => ?_
        simp only [go_sem, lkX_old hlt, lkX_at hd, hJ, hdr]
        try simp (disch := omega) only [wrapI, wrapU]
        refine hR _ _ ?_; clear hR R
        try simp only [go_sem, lkX_old hlt, lkX_at hd, hJ, hdr]
        refine ⟨(j + 1, pp), ?_, by (try simp only []); omega, ?_⟩
        · first | exact Weak.refl | exact Wqq
        · try dsimp only
          first
          | (refine ⟨hjJ, by rw [List.length_set]; exact hpl2, fun q hq ha2 => ?_, fun q hq ha2 => ?_⟩
             · rw [List.getElem?_set_ne (by rintro rfl; rw [ha] at ha2; cases ha2)]; exact hpv2 q hq ha2
             · rcases Nat.lt_succ_iff_lt_or_eq.1 hq with h | h
               · rw [List.getElem?_set_ne (by omega)]; exact hpm q h ha2
               · subst h; exact hset mean)
          | (refine ⟨hjJ, hpl2, hpv2, fun q hq ha2 => ?_⟩
             rcases Nat.lt_succ_iff_lt_or_eq.1 hq with h | h
             · exact hpm q h ha2
             · subst h; rw [ha] at ha2; cases ha2)
    ·
      try simp only [nrm] at c4
      have hje : J = j := by first | omega | (simp at c4; omega)
      subst hje
      refine W_exit ?_
      simp only [go_sem, lkX_old hlt, lkX_at hd, hJ, hdr]
      refine K19 _ _ ?_
      refine W_seq fun Z26 K26 => ?_
      have hJ5 : J ≤ 5 := by omega
      have hJ1 : ¬ (0 = J) := by omega
      have hJ0 : (0 : Int) ≤ (J : Int) := by omega
      refine W_region [6, 18] fun R hR => ?_
      simp only [go_sem, lkX_old hlt, lkX_at hd, hJ, hdr, sl138, Int.toNat_natCast, hJ5, hJ0, hJ1]
      refine GCall_of (values_pc Y _ (σ.store.length + 1) J) ?_
      simp only [go_sem, lkX_old hlt, lkX_at hd, hJ, hdr, sl138, Int.toNat_natCast, hJ5, hJ0, hJ1]
      refine GCall_of (sorted_pc Y _ (σ.store.length + 2) (σ.store.length + 1) J pp (Sg.get_ext ..) (Sg.get_ext ..) (by omega) (by omega) (by omega)) ?_
      simp only [go_sem, lkX_old hlt, lkX_at hd, hJ, hdr, sl138, Int.toNat_natCast, hJ5, hJ0, hJ1]
      refine hR _ _ (K26 _ _ ?_); clear hR R; try clear K26 Z26
      try simp only [go_sem, lkX_old hlt, lkX_at hd, hJ, hdr]
      refine W_sr [6, 18, 19] fun R hR => ?_
      simp only [go_sem, lkX_old hlt, lkX_at hd, hJ, hdr]
      refine hR _ _ ?_; clear hR R
      try simp only [go_sem, lkX_old hlt, lkX_at hd, hJ, hdr]
      refine W_seq fun Z28 K28 => ?_
      refine W_seq fun Z29 K29 => ?_
      have hd0 : (0 : Int) ≤ (d : Int) := by omega
      have hdl : d ≤ (sortI (pp.take J)).length := by rw [sortI_len, List.length_take]; omega
      refine W_region [19, 79, 80, 81] fun R hR => ?_
      simp only [go_sem, lkX_old hlt, lkX_at hd, hJ, hdr, hd0, hdl]
      refine hR _ _ (K29 _ _ ?_); clear hR R; try clear K29 Z29
      try simp only [go_sem, lkX_old hlt, lkX_at hd, hJ, hdr]
      refine W_block ?_
      have hpan : pp.take J = panelM s k sc m u := panelM_eq hJ k sc m u (by omega) hpv2 (fun q hq ha2 => by rw [hmean]; exact hpm q hq ha2)
      simp only [hpan]
      obtain ⟨dl, hdl0⟩ : ∃ z, (sortI (panelM s k sc m u)).drop d = z := ⟨_, rfl⟩
      have hdb : ∀ x, x ∈ dl → 0 ≤ x ∧ x ≤ 100 := fun x hx => panelM_bd hv hk hu sc m x (mem_sortI.1 (List.mem_of_mem_drop (by rw [hdl0]; exact hx)))
      have hdl5 : dl.length ≤ 5 := by rw [← hdl0, List.length_drop, sortI_len, panelM_len hJ]; omega
      have hfin : pointsK s k sc m u = sumI dl := by unfold pointsK; rw [hdr, Int.toNat_natCast, hdl0]
      simp only [hdl0]
      refine W_loopS (α := Nat × Int) (fun ⟨e, t⟩ => [(19, I t), (81, I e)]) (fun ⟨e, t⟩ => e ≤ dl.length ∧ sumI dl = t + sumI (dl.drop e) ∧ 0 ≤ t ∧ t ≤ 100 * (e : Int)) (fun ⟨e, t⟩ => dl.length - e) ((0, 0)) rfl (⟨Nat.zero_le _, by simp, Int.le_refl _, Int.le_refl _⟩) ?_
      rintro ⟨e, t⟩ ⟨he, hinv, ht1, ht2⟩
      refine W_sr [19, 79, 80, 81, 82] fun R hR => ?_
      simp only [go_sem, lkX_old hlt, lkX_at hd, hJ, hdr]
      refine hR _ _ ?_; clear hR R
      try simp only [go_sem, lkX_old hlt, lkX_at hd, hJ, hdr]
      refine W_seq fun Z31 K31 => ?_
      refine W_cond rfl (fun c6 => ?_) (fun c6 => ?_)
      ·
        try simp only [nrm] at c6
        have he' : e < dl.length := by first | assumption | omega
        obtain ⟨x, hx⟩ : ∃ x, dl[e]? = some x := ⟨dl[e], by simp [he']⟩
        have hdrop : dl.drop e = x :: dl.drop (e + 1) := by
          rw [List.drop_eq_getElem_cons he']; congr 1; exact (List.getElem?_eq_some_iff.1 hx).2
        have hxb := hdb x (List.mem_of_getElem? hx)
        rw [hdrop] at hinv
        simp only [sumI] at hinv
        refine W_skip (K31 _ _ ?_)
        refine W_seq fun Z32 K32 => ?_
        refine W_block ?_
        refine W_sr [19, 21, 79, 80, 81] fun R hR => ?_
        simp only [go_sem, lkX_old hlt, lkX_at hd, hJ, hdr, hx]
        refine hR _ _ ?_; clear hR R
        try simp only [go_sem, lkX_old hlt, lkX_at hd, hJ, hdr, hx]
        refine W_region [19, 79, 80, 81] fun R hR => ?_
        simp only [go_sem, lkX_old hlt, lkX_at hd, hJ, hdr, hx]
        try simp (disch := omega) only [wrapI, wrapU]
        refine hR _ _ (K32 _ _ ?_); clear hR R; try clear K32 Z32
        try simp only [go_sem, lkX_old hlt, lkX_at hd, hJ, hdr, hx]
        refine W_region [19, 79, 80, 81] fun R hR => ?_
        simp only [go_sem, lkX_old hlt, lkX_at hd, hJ, hdr, hx]
        try simp (disch := omega) only [wrapI, wrapU]
        refine hR _ _ ?_; clear hR R
        try simp only [go_sem, lkX_old hlt, lkX_at hd, hJ, hdr, hx]
        refine ⟨(e + 1, t + x), ?_, by (try simp only []); omega, ?_⟩
        · first | exact Weak.refl | exact Wqq
        · try dsimp only
          exact ⟨he', by omega, by omega, by omega⟩
      ·
        try simp only [nrm] at c6
        have hdrop : dl.drop e = [] := List.drop_eq_nil_of_le (by omega)
        rw [hdrop] at hinv
        simp only [sumI] at hinv
        refine W_exit ?_
        simp only [go_sem, lkX_old hlt, lkX_at hd, hJ, hdr]
        refine K28 _ _ ?_
        refine W_sr [10] fun R hR => ?_
        simp only [go_sem, lkX_old hlt, lkX_at hd, hJ, hdr]
        refine hR _ _ ?_; clear hR R
        try simp only [go_sem, lkX_old hlt, lkX_at hd, hJ, hdr]
        refine W_ret ?_
        simp only [go_sem, lkX_old hlt, lkX_at hd, hJ, hdr]
        refine ⟨.inr (by trivial), ?_⟩
        first | refine Fsa hcl rfl ?_ | refine Fse hcl rfl ?_
        try simp only [go_sem]
        all_goals
          rw [hfin, hinv, Int.add_zero]
attribute [go_sem] List.length_range
theorem short_pres {s : Scale} {k : Kn} (h : shortK s k = false) {M m : Nat} (hM : s.matters = M) (hm : m < M) : presJ s k m ≠ [] := by
 intro e
 have hall : ∀ n, n ∈ toI s.judges → absentK k ((m : Int), n) = true := fun n hn => by
  have : n ∉ presJ s k m := by rw [e]; simp
  simp only [presJ, List.mem_filter, not_and, Bool.not_eq_true', Bool.not_eq_false] at this
  exact this hn
 have : shortK s k = true := by
  simp only [shortK, List.any_eq_true, List.all_eq_true]
  exact ⟨(m : Int), by rw [toI, hM, Int.toNat_natCast]; exact List.mem_map.2 ⟨m, List.mem_range.2 hm, rfl⟩, hall⟩
 rw [h] at this
 cases this
/-- What standings are made of. -/
structure KnV (s : Scale) (k : Kn) (g : Night) : Prop where
 v : s.V
 ok : KnOk s k
 sh : shortK s k = false
 fl : g.fines.length ≤ 10
 fi : ∀ f, f ∈ g.fines → (0 ≤ f.1 ∧ f.1 ≤ s.schools - 1) ∧ 0 ≤ f.2 ∧ f.2 ≤ 1000
def ptsUp (s : Scale) (k : Kn) (sc u : Int) (i : Nat) : List Int := (List.range i).map fun (m : Nat) => pointsK s k sc m u
theorem ptsUp_succ (s : Scale) (k : Kn) (sc u : Int) (i : Nat) : ptsUp s k sc u (i + 1) = ptsUp s k sc u i ++ [pointsK s k sc i u] := by simp [ptsUp, List.range_succ]
theorem ptsUp_all {s : Scale} {M : Nat} (hM : s.matters = M) (k : Kn) (sc u : Int) : ptsUp s k sc u M = pointsL s k sc u := by
 simp only [ptsUp, pointsL, toI, hM, Int.toNat_natCast, List.map_map]
 rfl
theorem finesOf_cons (f : Int × Int) (l : List (Int × Int)) (sc : Int) : finesOf (f :: l) sc = (if f.1 = sc then f.2 else 0) + finesOf l sc := rfl
def rulesL (f63 f64 f65 : Nat) (L n : Nat) : List PV := .func (.func f63) [] [.ptr (L + 2) 0, .ptr (L + 1) 0] :: ((List.range n).map (fun j => PV.func (.func f64) [] [.ptr (L + 2) 0, .ptr (L + (j + 1 + 1 + 1)) 0, .ptr (L + 1) 0]) ++ [.func (.func f65) [] [.ptr (L + 1) 0, .ptr (L + 2) 0]])
theorem firstNZ_drop {l : List Int} {i : Nat} {x : Int} (hx : l[i]? = some x) : firstNZ (l.drop i) = if x ≠ 0 then x else firstNZ (l.drop (i + 1)) := by
 have hi := (List.getElem?_eq_some_iff.1 hx).1
 rw [List.drop_eq_getElem_cons hi, (List.getElem?_eq_some_iff.1 hx).2]
 rfl
set_option maxHeartbeats 4000000 in
theorem standing_pc (Y : YEnv) (σ : Sg) (id : Nat) (k : Kn) (hd : σ.store[id]? = some (some (.mark :: knE k))) (s : Scale) (g : Night) (hV : KnV s k g) (sc : Nat) (hsc : (sc : Int) < s.schools) (u : Int) (hu : 0 ≤ u ∧ u ≤ 100) :
 PC Tryz.prog Y 19 [.map id, scPV s, ngPV g, I sc, I u] σ (sdPV (standK s k g sc u)) (σ) := by
 refine PC_of_W Tryz.func19 rfl (by kernel_rfl) Tryz.ntmps19 (by simp) fun hcl hca => ?_
 have hv := hV.v
 have q1 := hv.mt
 obtain ⟨M, hM⟩ : ∃ z : Nat, s.matters = z := ⟨s.matters.toNat, by omega⟩
 have hfl := hV.fl
 have hfi := hV.fi
 have hMi : (s.matters : Int) = (M : Int) := hM
 refine W_sr [0, 3, 4, 6, 7, 10] fun R hR => ?_
 simp only [go_sem]
 refine hR _ _ ?_; clear hR R
 try simp only [go_sem]
 refine W_sr [0, 3, 4, 6, 7, 10, 11] fun R hR => ?_
 simp only [go_sem]
 refine hR _ _ ?_; clear hR R
 try simp only [go_sem]
 refine W_seq fun Z3 K3 => ?_
 refine W_sr [0, 3, 4, 6, 7, 10, 11, 19, 20] fun R hR => ?_
 simp only [go_sem]
 refine hR _ _ ?_; clear hR R
 try simp only [go_sem]
 refine W_block ?_
 refine W_weak (Weak.roomX (j := 3) (off := 2) (es := 1) rfl rfl (by simp)) ?_
 simp only [go_sem]
 refine W_loopT (α := Nat × Int) (fun ⟨i, tot⟩ => [(20, I i)]) (fun ⟨i, tot⟩ => σ.ext [some (scCells s), some (ngCells g), some [I 0, I 0, .isl [] .exact], some [I sc, I tot, .isl ((ptsUp s k sc u i).map I) (.tok σ.rooms.length i 1)]] [i]) (fun ⟨i, tot⟩ => i ≤ M ∧ tot = sumI (ptsUp s k sc u i) ∧ 0 ≤ tot ∧ tot ≤ 500 * (i : Int)) (fun ⟨i, tot⟩ => M - i) ((0, 0)) rfl (by first | rfl | (simp only [go_sem]; done) | (simp only [go_sem]; rfl)) (⟨Nat.zero_le _, rfl, Int.le_refl _, Int.le_refl _⟩) ?_
 rintro ⟨i, tot⟩ ⟨hi, ht, ht1, ht2⟩
 have hpl : (ptsUp s k sc u i).length = i := by simp [ptsUp]
 refine W_sr [0, 3, 4, 6, 7, 10, 11, 19, 20, 21] fun R hR => ?_
 simp only [go_sem]
 refine hR _ _ ?_; clear hR R
 try simp only [go_sem]
 refine W_seq fun Z6 K6 => ?_
 refine W_cond rfl (fun c1 => ?_) (fun c1 => ?_)
 ·
  try simp only [nrm] at c1
  have hiM : i < M := by first | omega | (simp at c1; omega)
  have hpb := points_bd hv hV.ok hu sc i
  have hsu := ptsUp_succ s k sc u i
  have hpok : okC 1 ((ptsUp s k sc u i).map I) = True := by simp only [go_sem]
  refine W_skip (K6 _ _ ?_)
  refine W_seq fun Z7 K7 => ?_
  refine W_block ?_
  refine W_sr [0, 3, 4, 6, 7, 10, 11, 12, 19, 20] fun R hR => ?_
  simp only [go_sem]
  refine hR _ _ ?_; clear hR R
  try simp only [go_sem]
  refine W_sr [0, 3, 4, 6, 7, 10, 11, 13, 19, 20] fun R hR => ?_
  simp only [go_sem]
  refine GCall_of (points_pc Y _ id k (get_extx hd) s hv hV.ok sc hsc (i : Int) (short_pres hV.sh hM hiM) u hu) ?_
  simp only [go_sem]
  refine hR _ _ ?_; clear hR R
  try simp only [go_sem]
  refine W_sr [0, 3, 4, 6, 7, 10, 11, 13, 19, 20] fun R hR => ?_
  simp only [go_sem]
  try simp (disch := first | omega | (simp only [go_sem] <;> omega)) only [wrapI, wrapU, appX_exact, appX_tok]
  try simp only [go_sem]
  refine hR _ _ ?_; clear hR R
  try simp only [go_sem]
  refine W_region [0, 3, 4, 6, 7, 10, 11, 19, 20] fun R hR => ?_
  simp only [go_sem]
  try simp (disch := omega) only [wrapI, wrapU]
  refine hR _ _ (K7 _ _ ?_); clear hR R; try clear K7 Z7
  try simp only [go_sem]
  refine W_region [0, 3, 4, 6, 7, 10, 11, 19, 20] fun R hR => ?_
  simp only [go_sem]
  try simp (disch := omega) only [wrapI, wrapU]
  refine hR _ _ ?_; clear hR R
  try simp only [go_sem]
  refine ⟨(i + 1, tot + pointsK s k sc i u), ?_, by (try simp only []); omega, ?_⟩
  ·refine Weak.eq (by first | rfl | (simp only [go_sem]; done) | (simp [go_sem]; done)) ?_
   simp only [go_sem, hsu, List.map_append]
  try dsimp only
  rw [hsu, sumI_append, ← ht]
  exact ⟨hiM, by simp [sumI], by omega, by omega⟩
 try simp only [nrm] at c1
 have hie : M = i := by first | omega | (simp at c1; omega)
 subst hie
 rw [ptsUp_all hM] at ht
 refine W_exit ?_
 simp only [go_sem]
 refine K3 _ _ ?_
 refine W_seq fun Z11 K11 => ?_
 refine W_sr [3, 10, 11, 42, 43, 44] fun R hR => ?_
 simp only [go_sem]
 refine hR _ _ ?_; clear hR R
 try simp only [go_sem]
 refine W_block ?_
 simp only [ptsUp_all hM]
 refine W_loopT (α := Nat × Int) (fun ⟨j, t2⟩ => [(44, I j)]) (fun ⟨j, t2⟩ => σ.ext [some (scCells s), some (ngCells g), some [I 0, I 0, .isl [] .exact], some [I sc, I t2, .isl ((pointsL s k sc u).map I) (.tok σ.rooms.length M 1)]] [M]) (fun ⟨j, t2⟩ => j ≤ g.fines.length ∧ tot - finesOf g.fines sc = t2 - finesOf (g.fines.drop j) sc ∧ -1000 * (j : Int) ≤ t2 ∧ t2 ≤ 3000) (fun ⟨j, t2⟩ => g.fines.length - j) ((0, tot)) rfl (by first | rfl | (simp only [go_sem]; done) | (simp only [go_sem]; rfl)) (⟨Nat.zero_le _, rfl, by omega, by omega⟩) ?_
 rintro ⟨j, t2⟩ ⟨hj, hinv, ht3, ht4⟩
 refine W_sr [3, 10, 11, 42, 43, 44, 45] fun R hR => ?_
 simp only [go_sem]
 refine hR _ _ ?_; clear hR R
 try simp only [go_sem]
 refine W_seq fun Z14 K14 => ?_
 refine W_cond rfl (fun c2 => ?_) (fun c2 => ?_)
 ·
  try simp only [nrm] at c2
  have hj' : j < g.fines.length := by first | assumption | omega
  obtain ⟨f, hx⟩ : ∃ f, g.fines[j]? = some f := ⟨g.fines[j], by simp [hj']⟩
  have hdrop : g.fines.drop j = f :: g.fines.drop (j + 1) := by
   rw [List.drop_eq_getElem_cons hj']; congr 1; exact (List.getElem?_eq_some_iff.1 hx).2
  have hfb := hfi f (List.mem_of_getElem? hx)
  rw [hdrop, finesOf_cons] at hinv
  refine W_skip (K14 _ _ ?_)
  refine W_seq fun Z15 K15 => ?_
  refine W_block ?_
  refine W_sr [3, 10, 11, 15, 42, 43, 44] fun R hR => ?_
  simp only [go_sem, hx]
  refine hR _ _ ?_; clear hR R
  try simp only [go_sem, hx]
  refine W_sr [3, 10, 11, 15, 42, 43, 44, 51] fun R hR => ?_
  simp only [go_sem, hx]
  refine hR _ _ ?_; clear hR R
  try simp only [go_sem, hx]
  refine W_cond rfl (fun c3 => ?_) (fun c3 => ?_)
  ·
   try simp only [nrm] at c3
   refine W_region [3, 10, 11, 42, 43, 44] fun R hR => ?_
   simp only [go_sem, hx]
   try simp (disch := omega) only [wrapI, wrapU]
   refine hR _ _ (K15 _ _ ?_); clear hR R; try clear K15 Z15
   try simp only [go_sem, hx]
   refine W_region [3, 10, 11, 42, 43, 44] fun R hR => ?_
   simp only [go_sem, hx]
   try simp (disch := omega) only [wrapI, wrapU]
   refine hR _ _ ?_; clear hR R
   try simp only [go_sem, hx]
   refine ⟨(j + 1, t2 - f.2), ?_, by (try simp only []); omega, ?_⟩
   ·refine Weak.trans (Weak.cutX 4 1 (by omega) (by omega) hcl (by simp only [go_sem] <;> omega) (by simp only [go_sem] <;> omega)) ?_
    simp only [go_sem]
    exact Weak.eq (by first | rfl | (simp only [go_sem]; done) | (simp only [go_sem]; rfl) | (simp [go_sem]; done) | (simp [go_sem]; omega)) (by first | rfl | (simp only [go_sem]; done) | (simp [go_sem]; done))
   try dsimp only
   first
   | (rw [if_pos c3] at hinv; exact ⟨hj', by omega, by omega, by omega⟩)
   | (rw [if_neg c3] at hinv; exact ⟨hj', by omega, by omega, by omega⟩)
  try simp only [nrm] at c3
  refine W_skip (K15 _ _ ?_)
  refine W_region [3, 10, 11, 42, 43, 44] fun R hR => ?_
  simp only [go_sem, hx]
  try simp (disch := omega) only [wrapI, wrapU]
  refine hR _ _ ?_; clear hR R
  try simp only [go_sem, hx]
  refine ⟨(j + 1, t2), ?_, by (try simp only []); omega, ?_⟩
  ·refine Weak.trans (Weak.cutX 4 1 (by omega) (by omega) hcl (by simp only [go_sem] <;> omega) (by simp only [go_sem] <;> omega)) ?_
   simp only [go_sem]
   exact Weak.eq (by first | rfl | (simp only [go_sem]; done) | (simp only [go_sem]; rfl) | (simp [go_sem]; done) | (simp [go_sem]; omega)) (by first | rfl | (simp only [go_sem]; done) | (simp [go_sem]; done))
  try dsimp only
  first
  | (rw [if_pos c3] at hinv; exact ⟨hj', by omega, by omega, by omega⟩)
  | (rw [if_neg c3] at hinv; exact ⟨hj', by omega, by omega, by omega⟩)
 try simp only [nrm] at c2
 have hdrop : g.fines.drop j = [] := List.drop_eq_nil_of_le (by omega)
 rw [hdrop] at hinv
 have hst : standK s k g sc u = ⟨sc, t2, pointsL s k sc u⟩ := by
  simp only [standK, ← ht, hinv]
  simp [finesOf, sumI]
 refine W_exit ?_
 simp only [go_sem]
 refine K11 _ _ ?_
 refine W_sr [10] fun R hR => ?_
 simp only [go_sem]
 refine hR _ _ ?_; clear hR R
 try simp only [go_sem]
 refine W_ret ?_
 simp only [go_sem]
 refine ⟨.inr (by trivial), ?_⟩
 rw [hst]; refine Fin_same hcl (by show resPV Tryz.prog _ _ [.cell 10 57] = some _; simp only [resPV, go_sem]; rfl) (Wk.ro (by simp only [go_sem]) ?_)
 try simp only [go_sem]
 all_goals
  simp only [go_sem]
set_option maxHeartbeats 2000000 in
theorem cmp1_pc (Y : YEnv) (σ : Sg) (ia ib : Nat) (a b : Stand) (ha : σ.store[ia]? = some (some (sdCells a))) (hb : σ.store[ib]? = some (some (sdCells b))) (h1 : -2 ^ 40 ≤ a.total ∧ a.total ≤ 2 ^ 40) (h2 : -2 ^ 40 ≤ b.total ∧ b.total ≤ 2 ^ 40) :
 PC Tryz.prog Y 41 [.ptr ib 0, .ptr ia 0] σ (I (b.total - a.total)) (σ) := by
 refine PC_of_W Tryz.func41 rfl (by kernel_rfl) Tryz.ntmps41 (by simp) fun hcl hca => ?_
 refine W_sr [0, 1] fun R hR => ?_
 simp only [go_sem, ldS_at ha, ldS_at hb]
 refine hR _ _ ?_; clear hR R
 try simp only [go_sem, ldS_at ha, ldS_at hb]
 refine W_sr [2] fun R hR => ?_
 simp only [go_sem, ldS_at ha, ldS_at hb]
 try simp (disch := omega) only [wrapI, wrapU]
 refine hR _ _ ?_; clear hR R
 try simp only [go_sem, ldS_at ha, ldS_at hb]
 refine W_ret ?_
 simp only [go_sem, ldS_at ha, ldS_at hb]
 refine ⟨.inr (by trivial), ?_⟩
 first | refine Fsa hcl rfl ?_ | refine Fse hcl rfl ?_
 try simp only [go_sem]
 all_goals
  first | rfl | (simp_all; done) | (simp_all; omega)
set_option maxHeartbeats 2000000 in
theorem cmp2_pc (Y : YEnv) (σ : Sg) (ia ib : Nat) (a b : Stand) (ha : σ.store[ia]? = some (some (sdCells a))) (hb : σ.store[ib]? = some (some (sdCells b))) (im m : Nat) (hm : σ.store[im]? = some (some [I m])) (pa pb : Int) (hpa : a.points[m]? = some pa) (hpb : b.points[m]? = some pb) (h1 : -2 ^ 40 ≤ pa ∧ pa ≤ 2 ^ 40) (h2 : -2 ^ 40 ≤ pb ∧ pb ≤ 2 ^ 40) :
 PC Tryz.prog Y 42 [.ptr ib 0, .ptr im 0, .ptr ia 0] σ (I (pb - pa)) (σ) := by
 refine PC_of_W Tryz.func42 rfl (by kernel_rfl) Tryz.ntmps42 (by simp) fun hcl hca => ?_
 refine W_sr [0, 1, 2] fun R hR => ?_
 simp only [go_sem, ldS_at ha, ldS_at hb, ldS_at hm, hpa, hpb]
 refine hR _ _ ?_; clear hR R
 try simp only [go_sem, ldS_at ha, ldS_at hb, ldS_at hm, hpa, hpb]
 refine W_seq fun Z2 K2 => ?_
 refine W_draw [3] [0, 1, 2, 3, 4, 5, 6, 7, 8, 9, 10, 11] [] [[], [0], [], [0, 1, 2], [0, 1, 2, 3], [], [5], [], [5, 6, 7], [5, 6, 7, 8], [0, 1, 2, 3, 4, 5, 6, 7, 8, 9], [0, 1, 2, 3, 4, 5, 6, 7, 8, 9, 10]] mixed (by kernel_rfl) fun R hR => ?_
 simp only [go_sem, ldS_at ha, ldS_at hb, ldS_at hm, hpa, hpb]
 try simp (disch := omega) only [wrapI, wrapU]
 try refine And.intro (by repeat' (first | refine And.intro ?_ ?_ | exact GOr_right (fun _ => by simp only [go_sem, ldS_at ha, ldS_at hb, ldS_at hm, hpa, hpb]))) ?_
 refine hR _ _ (K2 _ _ ?_); clear hR R; try clear K2 Z2
 try simp only [go_sem, ldS_at ha, ldS_at hb, ldS_at hm, hpa, hpb]
 refine W_ret ?_
 simp only [go_sem, ldS_at ha, ldS_at hb, ldS_at hm, hpa, hpb]
 refine ⟨.inr (by trivial), ?_⟩
 first | refine Fsa hcl rfl ?_ | refine Fse hcl rfl ?_
 try simp only [go_sem]
 all_goals
  first | rfl | (simp_all; done) | (simp_all; omega)
set_option maxHeartbeats 2000000 in
theorem cmp3_pc (Y : YEnv) (σ : Sg) (ia ib : Nat) (a b : Stand) (ha : σ.store[ia]? = some (some (sdCells a))) (hb : σ.store[ib]? = some (some (sdCells b))) (h1 : -2 ^ 40 ≤ a.school ∧ a.school ≤ 2 ^ 40) (h2 : -2 ^ 40 ≤ b.school ∧ b.school ≤ 2 ^ 40) :
 PC Tryz.prog Y 43 [.ptr ia 0, .ptr ib 0] σ (I (a.school - b.school)) (σ) := by
 refine PC_of_W Tryz.func43 rfl (by kernel_rfl) Tryz.ntmps43 (by simp) fun hcl hca => ?_
 refine W_sr [0, 1] fun R hR => ?_
 simp only [go_sem, ldS_at ha, ldS_at hb]
 refine hR _ _ ?_; clear hR R
 try simp only [go_sem, ldS_at ha, ldS_at hb]
 refine W_sr [2] fun R hR => ?_
 simp only [go_sem, ldS_at ha, ldS_at hb]
 try simp (disch := omega) only [wrapI, wrapU]
 refine hR _ _ ?_; clear hR R
 try simp only [go_sem, ldS_at ha, ldS_at hb]
 refine W_ret ?_
 simp only [go_sem, ldS_at ha, ldS_at hb]
 refine ⟨.inr (by trivial), ?_⟩
 first | refine Fsa hcl rfl ?_ | refine Fse hcl rfl ?_
 try simp only [go_sem]
 all_goals
  first | rfl | (simp_all; done) | (simp_all; omega)
/-- Standings that can be compared. -/
structure CmpOk (ord : List Int) (a b : Stand) : Prop where
 ta : -2 ^ 40 ≤ a.total ∧ a.total ≤ 2 ^ 40
 tb : -2 ^ 40 ≤ b.total ∧ b.total ≤ 2 ^ 40
 sa : -2 ^ 40 ≤ a.school ∧ a.school ≤ 2 ^ 40
 sb : -2 ^ 40 ≤ b.school ∧ b.school ≤ 2 ^ 40
 pt : ∀ m, m ∈ ord → ∃ (i : Nat) (pa pb : Int), m = i ∧ a.points[i]? = some pa ∧ b.points[i]? = some pb ∧ (-2 ^ 40 ≤ pa ∧ pa ≤ 2 ^ 40) ∧ (-2 ^ 40 ≤ pb ∧ pb ≤ 2 ^ 40)
theorem rulesL_pc (Y : YEnv) (σ : Sg) (ord : List Int) (a b : Stand) (h : CmpOk ord a b) (i : Nat) (p : PV) (hp : (rulesL 41 42 43 σ.store.length ord.length)[i]? = some p) :
 ∃ f cs v, p = .func (.func f) [] cs ∧ (cmpRules ord a b)[i]? = some v ∧ PC Tryz.prog Y f cs (σ.ext (some [ints ord] :: some (sdCells a) :: some (sdCells b) :: ord.map fun m => some [I m]) [ord.length + 2]) (I v) (σ.ext (some [ints ord] :: some (sdCells a) :: some (sdCells b) :: ord.map fun m => some [I m]) [ord.length + 2]) := by
 have ga : (σ.ext (some [ints ord] :: some (sdCells a) :: some (sdCells b) :: ord.map fun m => some [I m]) [ord.length + 2]).store[σ.store.length + 1]? = some (some (sdCells a)) := by rw [Sg.get_ext]; rfl
 have gb : (σ.ext (some [ints ord] :: some (sdCells a) :: some (sdCells b) :: ord.map fun m => some [I m]) [ord.length + 2]).store[σ.store.length + 2]? = some (some (sdCells b)) := by rw [Sg.get_ext]; rfl
 unfold rulesL at hp
 cases i with
 | zero =>
  simp only [List.getElem?_cons_zero, Option.some.injEq] at hp
  exact ⟨_, _, _, hp.symm, rfl, cmp1_pc Y _ _ _ a b ga gb h.ta h.tb⟩
 | succ i =>
  simp only [List.getElem?_cons_succ] at hp
  by_cases hi : i < ord.length
  ·rw [List.getElem?_append_left (by simpa using hi)] at hp
   simp only [List.getElem?_map, List.getElem?_range hi, Option.map_some, Option.some.injEq] at hp
   obtain ⟨m, pa, pb, e, e1, e2, e3, e4⟩ := h.pt ord[i] (List.getElem_mem hi)
   have gm : (σ.ext (some [ints ord] :: some (sdCells a) :: some (sdCells b) :: ord.map fun m => some [I m]) [ord.length + 2]).store[σ.store.length + (i + 1 + 1 + 1)]? = some (some [I (m : Int)]) := by
    rw [Sg.get_ext]; simp [hi, e]
   refine ⟨_, _, pb - pa, hp.symm, ?_, cmp2_pc Y _ _ _ a b ga gb _ m gm pa pb e1 e2 e3 e4⟩
   have : (ord.map (fun m => ptAt b m - ptAt a m) ++ [a.school - b.school])[i]? = some (pb - pa) := by
    rw [List.getElem?_append_left (by simpa using hi)]
    simp [hi, e, ptAt, e1, e2]
   simp only [cmpRules, List.getElem?_cons_succ]
   exact this
  have hlen := (List.getElem?_eq_some_iff.1 hp).1
  simp at hlen
  have hie : i = ord.length := by omega
  subst hie
  rw [List.getElem?_append_right (by simp)] at hp
  simp at hp
  refine ⟨_, _, a.school - b.school, hp.symm, ?_, cmp3_pc Y _ _ _ a b ga gb h.sa h.sb⟩
  simp only [cmpRules, List.getElem?_cons_succ]
  rw [List.getElem?_append_right (by simp)]
  simp
set_option maxHeartbeats 4000000 in
theorem compare_pc (Y : YEnv) (σ : Sg) (ord : List Int) (a b : Stand) (h : CmpOk ord a b) (hl : ord.length < 2 ^ 40) :
 PC Tryz.prog Y 20 [.agg [ints ord], sdPV a, sdPV b] σ (I (cmpSt ord a b)) (σ) := by
 refine PC_of_W Tryz.func20 rfl (by kernel_rfl) Tryz.ntmps20 (by simp) fun hcl hca => ?_
 have hrp := rulesL_pc Y σ ord a b h
 refine W_sr [3, 4, 5] fun R hR => ?_
 simp only [go_sem, List.length_range]
 refine hR _ _ ?_; clear hR R
 try simp only [go_sem, List.length_range]
 refine W_sr [3, 4, 5, 7] fun R hR => ?_
 simp only [go_sem, List.length_range]
 refine hR _ _ ?_; clear hR R
 try simp only [go_sem, List.length_range]
 refine W_seq fun Z3 K3 => ?_
 refine W_sr [4, 5, 7, 16, 17, 18] fun R hR => ?_
 simp only [go_sem, List.length_range]
 refine hR _ _ ?_; clear hR R
 try simp only [go_sem, List.length_range]
 refine W_block ?_
 refine W_weak (Weak.room (t := 7) (es := 1) rfl (by simp)) ?_
 refine W_weak (Weak.keep [4, 5, 7, 16, 17, 18]) ?_
 simp only [go_sem, List.length_range]
 refine W_loopT (α := Nat) (fun (i : Nat) => [(7, .isl (.func (.func 41) [] [.ptr (σ.store.length + 2) 0, .ptr (σ.store.length + 1) 0] :: (List.range i).map (fun j => PV.func (.func 42) [] [.ptr (σ.store.length + 2) 0, .ptr (σ.store.length + (j + 1 + 1 + 1)) 0, .ptr (σ.store.length + 1) 0])) (.tok σ.rooms.length (i + 1) 1)), (18, I i)]) (fun (i : Nat) => σ.ext (some [ints ord] :: some (sdCells a) :: some (sdCells b) :: (ord.take i).map fun m => some [I m]) [i + 1]) (fun (i : Nat) => i ≤ ord.length) (fun (i : Nat) => ord.length - i) (0) rfl (by first | rfl | (simp only [go_sem]; done) | (simp only [go_sem]; rfl)) (Nat.zero_le _) ?_
 rintro i hi
 have htl : (ord.take i).length = i := by simp; omega
 have hsub0 : i - ((ord.take i).map (fun m => some [I m])).length = 0 := by simp; omega
 have hget : ∀ x : Option (List PV), ((ord.take i).map (fun m => some [I m]) ++ [x])[i]? = some x := fun x => by rw [List.getElem?_append_right (by simp; omega), hsub0]; rfl
 have hset2 : ∀ x y : Option (List PV), ((ord.take i).map (fun m => some [I m]) ++ [x]).set i y = (ord.take i).map (fun m => some [I m]) ++ [y] := fun x y => by rw [List.set_append_right _ _ (by simp; omega), hsub0]; rfl
 refine W_sr [4, 5, 7, 16, 17, 18, 19] fun R hR => ?_
 simp only [go_sem, List.length_range]
 refine hR _ _ ?_; clear hR R
 try simp only [go_sem, List.length_range]
 refine W_seq fun Z6 K6 => ?_
 refine W_cond rfl (fun c1 => ?_) (fun c1 => ?_)
 ·
  try simp only [nrm] at c1
  have hi' : i < ord.length := by first | assumption | omega
  obtain ⟨m, hx⟩ : ∃ m, ord[i]? = some m := ⟨ord[i], by simp [hi']⟩
  have hdrop : ord.drop i = m :: ord.drop (i + 1) := by
   rw [List.drop_eq_getElem_cons hi']; congr 1; exact (List.getElem?_eq_some_iff.1 hx).2
  have hsn := take_snoc hx
  have hrs : (List.range (i + 1)) = List.range i ++ [i] := List.range_succ
  refine W_skip (K6 _ _ ?_)
  refine W_seq fun Z7 K7 => ?_
  refine W_block ?_
  refine W_sr [4, 5, 7, 9, 16, 17, 18] fun R hR => ?_
  simp only [go_sem, List.length_range, hx, htl, hget, hset2]
  refine hR _ _ ?_; clear hR R
  try simp only [go_sem, List.length_range, hx, htl]
  refine W_region [4, 5, 7, 16, 17, 18] fun R hR => ?_
  simp only [go_sem, List.length_range, hx, htl]
  try simp (disch := first | omega | (simp only [go_sem] <;> omega)) only [wrapI, wrapU, appX_exact, appX_tok]
  try simp only [go_sem, List.length_range, hx, htl]
  refine hR _ _ (K7 _ _ ?_); clear hR R; try clear K7 Z7
  try simp only [go_sem, List.length_range, hx, htl]
  refine W_region [4, 5, 7, 16, 17, 18] fun R hR => ?_
  simp only [go_sem, List.length_range, hx, htl]
  try simp (disch := omega) only [wrapI, wrapU]
  refine hR _ _ ?_; clear hR R
  try simp only [go_sem, List.length_range, hx, htl]
  refine ⟨i + 1, ?_, by (try simp only []); omega, ?_⟩
  ·refine Weak.eq ?_ ?_
   ·simp [go_sem, hrs]
   simp [go_sem, ← hsn]
  try dsimp only
  exact hi'
 try simp only [nrm] at c1
 have hie : ord.length = i := by first | omega | (simp at c1; omega)
 subst hie
 rw [List.take_length]
 refine W_exit ?_
 simp only [go_sem, List.length_range]
 refine K3 _ _ ?_
 refine W_sr [7] fun R hR => ?_
 simp only [go_sem, List.length_range]
 try simp (disch := first | omega | (simp only [go_sem] <;> omega)) only [wrapI, wrapU, appX_exact, appX_tok]
 try simp only [go_sem, List.length_range]
 refine hR _ _ ?_; clear hR R
 try simp only [go_sem, List.length_range]
 refine W_seq fun Z10 K10 => ?_
 refine W_sr [31, 32, 33] fun R hR => ?_
 simp only [go_sem, List.length_range]
 refine hR _ _ ?_; clear hR R
 try simp only [go_sem, List.length_range]
 refine W_block ?_
 obtain ⟨rl, hrl⟩ : ∃ z, rulesL 41 42 43 σ.store.length ord.length = z := ⟨_, rfl⟩
 have hrl0 := hrl
 unfold rulesL at hrl0
 have hrll : rl.length = ord.length + 2 := by rw [← hrl]; simp [rulesL]
 simp only [hrl0]
 rw [hrl] at hrp
 refine W_loopS (α := Nat) (fun (q : Nat) => [(33, I q)]) (fun (q : Nat) => q ≤ rl.length ∧ cmpSt ord a b = firstNZ ((cmpRules ord a b).drop q)) (fun (q : Nat) => rl.length - q) (0) rfl (⟨Nat.zero_le _, rfl⟩) ?_
 rintro q ⟨hq, hinv⟩
 refine W_sr [31, 32, 33, 34] fun R hR => ?_
 simp only [go_sem, List.length_range]
 refine hR _ _ ?_; clear hR R
 try simp only [go_sem, List.length_range]
 refine W_seq fun Z13 K13 => ?_
 refine W_cond rfl (fun c2 => ?_) (fun c2 => ?_)
 ·
  try simp only [nrm] at c2
  have hq' : q < rl.length := by first | omega | (simp at c2; omega)
  obtain ⟨p, hp⟩ : ∃ z, rl[q]? = some z := ⟨rl[q], by simp⟩
  obtain ⟨f, cs, v, rfl, hv, hpc⟩ := hrp q p hp
  rw [firstNZ_drop hv] at hinv
  have hia : iaX 1 rl (q : Int) = some (.eptr 1 rl q 0) := by
   have := iaX_map (f := id) (xs := rl) (c := 1) hp rfl
   simpa using this
  have hel : elS rl q 0 = some (.func (.func f) [] cs) := by simp [elS, hp]
  refine W_skip (K13 _ _ ?_)
  refine W_seq fun Z14 K14 => ?_
  refine W_block ?_
  refine W_sr [11, 31, 32, 33] fun R hR => ?_
  simp only [go_sem, List.length_range, hp, hia, hel]
  refine hR _ _ ?_; clear hR R
  try simp only [go_sem, List.length_range, hp, hia, hel]
  refine W_sr [12, 31, 32, 33] fun R hR => ?_
  simp only [go_sem, List.length_range, hp, hia, hel]
  refine GCall_of (hpc) ?_
  simp only [go_sem, List.length_range, hp, hia, hel]
  refine hR _ _ ?_; clear hR R
  try simp only [go_sem, List.length_range, hp, hia, hel]
  refine W_sr [12, 31, 32, 33, 40] fun R hR => ?_
  simp only [go_sem, List.length_range, hp, hia, hel]
  refine hR _ _ ?_; clear hR R
  try simp only [go_sem, List.length_range, hp, hia, hel]
  refine W_cond rfl (fun c3 => ?_) (fun c3 => ?_)
  ·
   try simp only [nrm] at c3
   refine W_sr [6] fun R hR => ?_
   simp only [go_sem, List.length_range, hp, hia, hel]
   refine hR _ _ ?_; clear hR R
   try simp only [go_sem, List.length_range, hp, hia, hel]
   refine W_ret ?_
   simp only [go_sem, List.length_range, hp, hia, hel]
   refine ⟨.inr (by trivial), ?_⟩
   first | refine Fsa hcl rfl ?_ | refine Fse hcl rfl ?_
   try simp only [go_sem]
   all_goals
    rw [hinv, if_pos c3]
  try simp only [nrm] at c3
  refine W_skip (K14 _ _ ?_)
  refine W_region [31, 32, 33] fun R hR => ?_
  simp only [go_sem, List.length_range, hp, hia, hel]
  try simp (disch := omega) only [wrapI, wrapU]
  refine hR _ _ ?_; clear hR R
  try simp only [go_sem, List.length_range, hp, hia, hel]
  refine ⟨q + 1, ?_, by (try simp only []); omega, ?_⟩
  ·first | exact Weak.refl | exact Wqq
  try dsimp only
  rw [if_neg (by simpa using c3)] at hinv
  exact ⟨hq', hinv⟩
 try simp only [nrm] at c2
 have hcrl : (cmpRules ord a b).length = ord.length + 2 := by simp [cmpRules]
 rw [List.drop_eq_nil_of_le (by omega)] at hinv
 refine W_exit ?_
 simp only [go_sem, List.length_range]
 refine K10 _ _ ?_
 refine W_sr [6] fun R hR => ?_
 simp only [go_sem, List.length_range]
 refine hR _ _ ?_; clear hR R
 try simp only [go_sem, List.length_range]
 refine W_ret ?_
 simp only [go_sem, List.length_range]
 refine ⟨.inr (by trivial), ?_⟩
 first | refine Fsa hcl rfl ?_ | refine Fse hcl rfl ?_
 try simp only [go_sem]
 all_goals
  rw [hinv]; rfl
theorem filt_step {α : Type} (p : α → Bool) {l : List α} {t : Nat} {x : α} (h : l[t]? = some x) :
 (p x = true → (l.filter p)[((l.take t).filter p).length]? = some x ∧ ((l.take (t + 1)).filter p).length = ((l.take t).filter p).length + 1) ∧ (p x = false → ((l.take (t + 1)).filter p).length = ((l.take t).filter p).length) := by
 have e : l.take (t + 1) = l.take t ++ [x] := by rw [List.take_add_one, h]; rfl
 have hi := (List.getElem?_eq_some_iff.1 h).1
 have hx := (List.getElem?_eq_some_iff.1 h).2
 refine ⟨fun hp => ⟨?_, by rw [e, List.filter_append]; simp [hp]⟩, fun hp => by rw [e, List.filter_append]; simp [hp]⟩
 have e2 : l = l.take t ++ x :: l.drop (t + 1) := by
  conv => lhs; rw [← List.take_append_drop t l]
  rw [List.drop_eq_getElem_cons hi, hx]
 conv => lhs; arg 1; rw [e2]
 rw [List.filter_append, List.getElem?_append_right (Nat.le_refl _), Nat.sub_self]
 simp [hp]
theorem flat_get {β : Type} {J : Nat} {f : Nat → Nat → β} : ∀ (M m n : Nat), m < M → n < J → ((List.range M).flatMap fun m => (List.range J).map (f m))[m * J + n]? = some (f m n) := by
 intro M
 induction M with
 | zero => intro m n h; omega
 | succ M ih =>
  intro m n hm hn
  rw [List.range_succ, List.flatMap_append]
  have hlen : ((List.range M).flatMap fun m => (List.range J).map (f m)).length = M * J := by simp [List.length_flatMap, List.map_const']
  by_cases h : m < M
  ·have : m * J + J ≤ M * J := by rw [← Nat.succ_mul]; exact Nat.mul_le_mul_right _ h
   rw [List.getElem?_append_left (by rw [hlen]; omega)]
   exact ih m n h hn
  have e : m = M := by omega
  subst e
  rw [List.getElem?_append_right (by rw [hlen]; omega), hlen, Nat.add_sub_cancel_left]
  simp [hn]
theorem allJ_eq {s : Scale} {M J : Nat} (hM : s.matters = M) (hJ : s.judges = J) : allJ s = (List.range M).flatMap fun (m : Nat) => (List.range J).map fun (n : Nat) => ((m : Int), (n : Int)) := by
 simp only [allJ, toI, hM, hJ, Int.toNat_natCast, List.flatMap_map, List.map_map]
 rfl
theorem allJ_get {s : Scale} {M J m n : Nat} (hM : s.matters = M) (hJ : s.judges = J) (hm : m < M) (hn : n < J) : (allJ s)[m * J + n]? = some ((m : Int), (n : Int)) := by
 rw [allJ_eq hM hJ]; exact flat_get (f := fun m n => ((m : Int), (n : Int))) M m n hm hn
theorem allJ_len {s : Scale} {M J : Nat} (hM : s.matters = M) (hJ : s.judges = J) : (allJ s).length = M * J := by
 rw [allJ_eq hM hJ]; simp [List.length_flatMap, List.map_const']
theorem ysget_of {ρ : Sg} {l : List (Option (List PV))} {rm : List Nat} {s : LState} {q : Nat} (h : ρ.ys.length = q) : (ρ.ext l rm [s]).ys[q]? = some s := by subst h; exact Sg.ysget_ext0 ..
theorem setY_of {ρ : Sg} {l : List (Option (List PV))} {rm : List Nat} {s s' : LState} {q : Nat} (h : ρ.ys.length = q) : (ρ.ext l rm [s]).setY q s' = ρ.ext l rm [s'] := by subst h; simp only [go_sem]
theorem popY_of {ρ : Sg} {l : List (Option (List PV))} {rm : List Nat} {s : LState} {q : Nat} (h : ρ.ys.length = q) : (ρ.ext l rm [s]).popY q = ρ.ext l rm := by subst h; simp only [go_sem]
theorem Fin_len {P : Program} {fn : Func} {σ ρ σ' σ'' : Sg} {E : Env} {v : PV} (h1 : ρ.store.length = σ.store.length) (h2 : ρ.rooms.length = σ.rooms.length) (h3 : ρ.ys.length = σ.ys.length) (h : Fin P fn ρ v σ'' E σ') : Fin P fn σ v σ'' E σ' := by
 unfold Fin at h ⊢
 rw [← h1, ← h2, ← h3]
 exact h
/-- How many of the first judges are sealed. -/
def cntS (s : Scale) (k : Kn) (t : Nat) : Nat := (((allJ s).take t).filter fun j => (aget j k).isNone).length
theorem cntS_all {s : Scale} {M J : Nat} (hM : s.matters = M) (hJ : s.judges = J) (k : Kn) : cntS s k (M * J) = (sealedK s k).length := by
 rw [cntS, ← allJ_len hM hJ, List.take_length]; rfl
theorem cntS_le (s : Scale) (k : Kn) (t : Nat) : cntS s k t ≤ (sealedK s k).length := by
 unfold cntS sealedK
 exact (List.Sublist.filter _ (List.take_sublist t _)).length_le
theorem cntS_step {s : Scale} {M J m n : Nat} (hM : s.matters = M) (hJ : s.judges = J) (hm : m < M) (hn : n < J) (k : Kn) :
 ((aget ((m : Int), (n : Int)) k).isNone = true → (sealedK s k)[cntS s k (m * J + n)]? = some ((m : Int), (n : Int)) ∧ cntS s k (m * J + n + 1) = cntS s k (m * J + n) + 1) ∧ ((aget ((m : Int), (n : Int)) k).isNone = false → cntS s k (m * J + n + 1) = cntS s k (m * J + n)) :=
 filt_step (fun j => (aget j k).isNone) (allJ_get hM hJ hm hn)
set_option maxHeartbeats 2000000 in
theorem sealedA_pc (Y : YEnv) (σ : Sg) (y ids idk id : Nat) (s : Scale) (hv : s.V) (k : Kn) (τ : Nat → Sg)
 (h1 : ∀ c, c ≤ (sealedK s k).length → (τ c).store[ids]? = some (some (scCells s))) (h2 : ∀ c, c ≤ (sealedK s k).length → (τ c).store[idk]? = some (some [.map id])) (h3 : ∀ c, c ≤ (sealedK s k).length → (τ c).store[id]? = some (some (.mark :: knE k)))
 (hL : ∀ c, c ≤ (sealedK s k).length → (τ c).store.length = (τ 0).store.length ∧ (τ c).rooms.length = (τ 0).rooms.length ∧ (τ c).ys.length = (τ 0).ys.length)
 (hcl' : CleanSg (τ 0) → ∀ c, c ≤ (sealedK s k).length → CleanSg (τ c))
 (hY : ∀ c (m n : Nat), (sealedK s k)[c]? = some ((m : Int), (n : Int)) → Y y [.agg [I m, I n]] ((τ c).ext [some [.yield y], some (scCells s), some [I m, I n]] [] [.busy]) true ((τ (c + 1)).ext [some [.yield y], some (scCells s), some [I m, I n]] [] [.busy])) :
 PC Tryz.prog Y 39 [.yield y, .ptr ids 0, .ptr idk 0] (τ 0) (.tuple []) (τ (sealedK s k).length) := by
 refine PC_of_W Tryz.func39 rfl (by kernel_rfl) Tryz.ntmps39 (by simp) fun hcl hca => ?_
 have q1 := hv.mt
 have q2 := hv.jd
 obtain ⟨M, hM⟩ : ∃ z : Nat, s.matters = z := ⟨s.matters.toNat, by omega⟩
 obtain ⟨J, hJ⟩ : ∃ z : Nat, s.judges = z := ⟨s.judges.toNat, by omega⟩
 have hMb : M < 2 ^ 40 := by omega
 have hJb : J < 2 ^ 40 := by omega
 have h10 := h1 0 (Nat.zero_le _)
 refine W_sr [1, 2, 3] fun R hR => ?_
 simp only [go_sem, ldA_at (get_extx h10)]
 refine hR _ _ ?_; clear hR R
 try simp only [go_sem, ldA_at (get_extx h10)]
 refine W_sr [2, 3, 8] fun R hR => ?_
 simp only [go_sem, ldA_at (get_extx h10)]
 refine GCall_of (judges_pc Y _ s) ?_
 simp only [go_sem, ldA_at (get_extx h10)]
 refine hR _ _ ?_; clear hR R
 try simp only [go_sem, ldA_at (get_extx h10)]
 refine W_block ?_
 let so : Nat → Sg := fun t => (τ (cntS s k t)).ext [some [.yield y], some (scCells s)] [] [.ready]
 have hcle : ∀ t, cntS s k t ≤ (sealedK s k).length := cntS_le s k
 have hyl : y < (τ 0).ys.length := by
  have := hca (.yield y) (by simp)
  cases this; assumption
 have hLc : ∀ (n r yy : Nat), y < yy → CleanLs n r yy [some [.yield y], some (scCells s)] := fun n r yy h => by
  have c2 := cleans_sc (a := n) (b := r) (c := yy) s
  refine CleanL_cons ?_ (CleanL_cons c2 CleanL_nil)
  exact Clean.all_cons (.yield _ h) Clean.all_nil
 refine W_rangeFunc (gf := 63) (v := .tuple []) (s := .ready) (σ5 := so (M * J)) rfl (by simp) (fun args ρ b' ρ' => ∃ m n : Nat, m < M ∧ n < J ∧ args = [.agg [I m, I n]] ∧ b' = true ∧ ρ = so (m * J + n) ∧ ρ' = so (m * J + n + 1)) ?_ ?_ ?_ ?_ ?_
 ·rintro args τ b τ' ⟨m, n, hm, hn, rfl, rfl, rfl, rfl⟩
  refine ⟨rfl, ?_, ?_⟩
  ·(simp only [so, go_sem]; exact ysget_of (hL _ (hcle _)).2.2)
  simp only [so, go_sem]
  refine W_region [2, 3, 4] fun R hR => ?_
  simp only [go_sem, ldA_at (get_extx h10), putAll]
  refine hR _ _ ?_; clear hR R
  try simp only [go_sem, ldA_at (get_extx h10), putAll]
  obtain ⟨st1, st2⟩ := cntS_step hM hJ hm hn k
  obtain ⟨c, hc⟩ : ∃ z, cntS s k (m * J + n) = z := ⟨_, rfl⟩
  have hcl1 := hcle (m * J + n)
  rw [hc] at st1 st2 hcl1
  simp only [hc]
  obtain ⟨b1, b2, b3⟩ := hL c hcl1
  have k2 := h2 c hcl1
  have k3 := h3 c hcl1
  rw [← b1, ← b3]
  obtain ⟨is, his⟩ : ∃ z, (aget ((m : Int), (n : Int)) k).isSome = z := ⟨_, rfl⟩
  simp only [go_sem]
  refine W_post_weak ?_
  refine W_block ?_
  refine W_sr [3, 4, 6] fun R hR => ?_
  simp only [go_sem, ldA_at (get_extx h10), putAll, ldS_at (get_extx k2), lkX_at (get_extx k3), his]
  refine hR _ _ ?_; clear hR R
  try simp only [go_sem, ldA_at (get_extx h10), putAll]
  refine W_sr [23] fun R hR => ?_
  simp only [go_sem, ldA_at (get_extx h10), putAll, ldS_at (get_extx k2)]
  refine GWant_split (fun g1 => ?_) (fun g1 => ?_)
  ·try simp only [Bool.not_eq_true', Bool.not_eq_false'] at g1
   have n1 := g1; try simp only [nrm] at n1
   simp only [go_sem, ldA_at (get_extx h10), putAll, ldS_at (get_extx k2), g1]
   refine GYield_of (hY c m n (st1 (by rw [← Option.not_isSome, his, g1]; rfl)).1) ?_
   simp only [go_sem, ldA_at (get_extx h10), putAll, ldS_at (get_extx k2), g1]
   refine hR _ _ ?_; clear hR R
   try simp only [go_sem, ldA_at (get_extx h10), putAll]
   refine W_cond_false rfl ?_
   refine W_skip ?_
   simp only [go_sem, ldA_at (get_extx h10), putAll]
   obtain ⟨e1, e2⟩ := st1 (by rw [← Option.not_isSome, his, g1]; rfl)
   have hcl2 : c + 1 ≤ (sealedK s k).length := (List.getElem?_eq_some_iff.1 e1).1
   obtain ⟨d1, d2, d3⟩ := hL (c + 1) hcl2
   refine ⟨[], _, Weak.cutExt 2 0 (by rw [d1, ← b1]; simp only [go_sem] <;> omega) (by rw [d2, ← b2]; simp only [go_sem] <;> omega) (hcl' hcl _ hcl2) ?_ Wk.nil_get, ?_⟩
   ·exact hLc _ _ _ (by rw [d3]; simp only [go_sem] <;> omega)
   simp only [e2]
   exact ⟨ysget_of (d3.trans b3.symm), rfl, (setY_of (d3.trans b3.symm)).symm⟩
  try simp only [Bool.not_eq_true', Bool.not_eq_false'] at g1
  have n1 := g1; try simp only [nrm] at n1
  simp only [go_sem, ldA_at (get_extx h10), putAll, ldS_at (get_extx k2), g1]
  refine hR _ _ ?_; clear hR R
  try simp only [go_sem, ldA_at (get_extx h10), putAll]
  refine W_cond_false rfl ?_
  refine W_skip ?_
  simp only [go_sem, ldA_at (get_extx h10), putAll]
  refine ⟨[], _, Weak.cutExt 2 0 (Nat.le_refl _) (Nat.le_refl _) (hcl' hcl _ hcl1) ?_ Wk.nil_get, ?_⟩
  ·exact hLc _ _ _ (by rw [b3]; simp only [go_sem] <;> omega)
  have e := st2 (by rw [← Option.not_isSome, his, g1]; rfl)
  simp only [e, RoundEnd, go_sem]
 ·have hst := judges1_pc (Y.at (τ 0).ys.length (fun args ρ b' ρ' => ∃ m n : Nat, m < M ∧ n < J ∧ args = [.agg [I m, I n]] ∧ b' = true ∧ ρ = so (m * J + n) ∧ ρ' = so (m * J + n + 1))) (τ 0) (τ 0).ys.length ((τ 0).store.length + 1) s so M J (M * J) false hM hJ hMb hJb
   (fun t _ => by simp only [so]; rw [← (hL _ (hcle t)).1]; exact Sg.get_ext ..) (Nat.le_refl _) (fun _ => rfl) (fun h => by cases h)
   (fun m n h1 h2 _ => by rw [YEnv.at_self]; exact ⟨m, n, h1, h2, rfl, rfl, rfl, rfl⟩) (by simp only [so, go_sem, (hL _ (hcle (M * J))).1, (hL _ (hcle 0)).1]) (by simp only [so, go_sem, (hL _ (hcle (M * J))).2.1, (hL _ (hcle 0)).2.1]) (by simp only [so, go_sem, (hL _ (hcle (M * J))).2.2, (hL _ (hcle 0)).2.2])
   (fun _ => CleanSg_ext (hcl' hcl _ (hcle _)) (hLc _ _ _ (by rw [(hL _ (hcle (M * J))).2.2]; simp only [go_sem] <;> omega)))
  have e0 : so 0 = (τ 0).ext [some [.yield y], some (scCells s)] [] [.ready] := rfl
  rw [e0] at hst
  simp only [go_sem] at hst ⊢
  exact hst
 ·(simp only [so, go_sem]; exact ysget_of (hL _ (hcle _)).2.2)
 ·simp only [go_sem]
  have hb := hL _ (hcle (M * J))
  rw [← hb.2.2]
  exact CleanCut_ext (hcl' hcl _ (hcle _)) (by simp only [so, go_sem] <;> omega) (by simp only [so, go_sem] <;> omega) (by omega) (hLc _ _ _ (by rw [hb.2.2]; exact hyl))
 simp only [go_sem]
 rw [popY_of (hL _ (hcle (M * J))).2.2]
 simp only [AfterLoop, go_sem]
 have hca2 := cntS_all hM hJ k
 simp only [hca2]
 obtain ⟨d1, d2, d3⟩ := hL _ (Nat.le_refl (sealedK s k).length)
 try simp only [go_sem, ldA_at (get_extx h10)]
 refine ⟨.inl (by trivial), ?_⟩
 exact Fin_len d1 d2 d3 (Fin_same (rs := []) (hcl' hcl _ (Nat.le_refl _)) rfl (Wk.of_clean (.tuple _ Clean.all_nil)))
 try simp only [go_sem]
 all_goals
  skip
/-- The first judge of whom nothing is known. -/
theorem cntS_first {s : Scale} {M J : Nat} (hM : s.matters = M) (hJ : s.judges = J) {k : Kn} (h : sealedK s k ≠ []) : ∃ e, 0 < e ∧ e ≤ M * J ∧ (∀ t, t < e → cntS s k t = 0) ∧ cntS s k e ≠ 0 := by
 have hex : ∃ t, cntS s k t ≠ 0 := ⟨M * J, by rw [cntS_all hM hJ]; intro e; exact h (List.eq_nil_of_length_eq_zero e)⟩
 obtain ⟨e, he, hmin⟩ := least (fun t => cntS s k t ≠ 0) hex
 have h0 : e ≠ 0 := by rintro rfl; exact he rfl
 refine ⟨e, by omega, ?_, fun t ht => ?_, he⟩
 ·exact hmin (M * J) (by rw [cntS_all hM hJ]; intro e; exact h (List.eq_nil_of_length_eq_zero e))
 by_cases q : cntS s k t = 0
 ·exact q
 have := hmin t q; omega
set_option maxHeartbeats 2000000 in
theorem sealedB_pc (Y : YEnv) (σ : Sg) (y ids idk id : Nat) (s : Scale) (hv : s.V) (k : Kn) (τ τ1 : Sg) (h10 : τ.store[ids]? = some (some (scCells s))) (k2 : τ.store[idk]? = some (some [.map id])) (k3 : τ.store[id]? = some (some (.mark :: knE k)))
 (b1 : τ1.store.length = τ.store.length) (b2 : τ1.rooms.length = τ.rooms.length) (b3 : τ1.ys.length = τ.ys.length) (hcl' : CleanSg τ → CleanSg τ1) (hne : sealedK s k ≠ [])
 (hY : ∀ (m n : Nat), (sealedK s k)[0]? = some ((m : Int), (n : Int)) → Y y [.agg [I m, I n]] (τ.ext [some [.yield y], some (scCells s), some [I m, I n]] [] [.busy]) false (τ1.ext [some [.yield y], some (scCells s), some [I m, I n]] [] [.busy])) :
 PC Tryz.prog Y 39 [.yield y, .ptr ids 0, .ptr idk 0] τ (.tuple []) (τ1) := by
 refine PC_of_W Tryz.func39 rfl (by kernel_rfl) Tryz.ntmps39 (by simp) fun hcl hca => ?_
 have q1 := hv.mt
 have q2 := hv.jd
 obtain ⟨M, hM⟩ : ∃ z : Nat, s.matters = z := ⟨s.matters.toNat, by omega⟩
 obtain ⟨J, hJ⟩ : ∃ z : Nat, s.judges = z := ⟨s.judges.toNat, by omega⟩
 have hMb : M < 2 ^ 40 := by omega
 have hJb : J < 2 ^ 40 := by omega
 refine W_sr [1, 2, 3] fun R hR => ?_
 simp only [go_sem, ldA_at (get_extx h10)]
 refine hR _ _ ?_; clear hR R
 try simp only [go_sem, ldA_at (get_extx h10)]
 refine W_sr [2, 3, 8] fun R hR => ?_
 simp only [go_sem, ldA_at (get_extx h10)]
 refine GCall_of (judges_pc Y _ s) ?_
 simp only [go_sem, ldA_at (get_extx h10)]
 refine hR _ _ ?_; clear hR R
 try simp only [go_sem, ldA_at (get_extx h10)]
 refine W_block ?_
 obtain ⟨e, he0, he1, he2, he3⟩ := cntS_first hM hJ hne
 let so : Nat → Sg := fun t => if t < e then τ.ext [some [.yield y], some (scCells s)] [] [.ready] else τ1.ext [some [.yield y], some (scCells s)] [] [.done .ret]
 have so1 : ∀ t, t < e → so t = τ.ext [some [.yield y], some (scCells s)] [] [.ready] := fun t h => if_pos h
 have so2 : so e = τ1.ext [some [.yield y], some (scCells s)] [] [.done .ret] := if_neg (Nat.lt_irrefl _)
 have hyl : y < τ.ys.length := by
  have := hca (.yield y) (by simp)
  cases this; assumption
 have hLc : ∀ (n r yy : Nat), y < yy → CleanLs n r yy [some [.yield y], some (scCells s)] := fun n r yy h => by
  have c2 := cleans_sc (a := n) (b := r) (c := yy) s
  refine CleanL_cons ?_ (CleanL_cons c2 CleanL_nil)
  exact Clean.all_cons (.yield _ h) Clean.all_nil
 refine W_rangeFunc (gf := 63) (v := .tuple []) (s := .done .ret) (σ5 := so e) rfl (by simp) (fun args ρ b' ρ' => ∃ m n : Nat, m < M ∧ n < J ∧ m * J + n < e ∧ args = [.agg [I m, I n]] ∧ b' = (!(true && decide (m * J + n + 1 = e))) ∧ ρ = so (m * J + n) ∧ ρ' = so (m * J + n + 1)) ?_ ?_ ?_ ?_ ?_
 ·rintro args τ b τ' ⟨m, n, hm, hn, hpe, rfl, rfl, rfl, rfl⟩
  refine ⟨rfl, ?_, ?_⟩
  ·(rw [so1 _ hpe]; simp only [go_sem])
  (rw [so1 _ hpe]; simp only [go_sem])
  refine W_region [2, 3, 4] fun R hR => ?_
  simp only [go_sem, ldA_at (get_extx h10), putAll]
  refine hR _ _ ?_; clear hR R
  try simp only [go_sem, ldA_at (get_extx h10), putAll]
  obtain ⟨st1, st2⟩ := cntS_step hM hJ hm hn k
  rw [he2 _ hpe] at st1 st2
  obtain ⟨is, his⟩ : ∃ z, (aget ((m : Int), (n : Int)) k).isSome = z := ⟨_, rfl⟩
  refine W_post_weak ?_
  refine W_block ?_
  refine W_sr [3, 4, 6] fun R hR => ?_
  simp only [go_sem, ldA_at (get_extx h10), putAll, ldS_at (get_extx k2), lkX_at (get_extx k3), his]
  refine hR _ _ ?_; clear hR R
  try simp only [go_sem, ldA_at (get_extx h10), putAll]
  refine W_sr [23] fun R hR => ?_
  simp only [go_sem, ldA_at (get_extx h10), putAll, ldS_at (get_extx k2)]
  refine GWant_split (fun g1 => ?_) (fun g1 => ?_)
  ·try simp only [Bool.not_eq_true', Bool.not_eq_false'] at g1
   have n1 := g1; try simp only [nrm] at n1
   simp only [go_sem, ldA_at (get_extx h10), putAll, ldS_at (get_extx k2), g1]
   refine GYield_of (hY m n (st1 (by rw [← Option.not_isSome, his, g1]; rfl)).1) ?_
   simp only [go_sem, ldA_at (get_extx h10), putAll, ldS_at (get_extx k2), g1]
   refine hR _ _ ?_; clear hR R
   try simp only [go_sem, ldA_at (get_extx h10), putAll]
   refine W_cond_true rfl ?_
   refine W_ret ?_
   simp only [go_sem, ldA_at (get_extx h10), putAll]
   obtain ⟨e1, e2⟩ := st1 (by rw [← Option.not_isSome, his, g1]; rfl)
   have hpe2 : m * J + n + 1 = e := by
    by_cases q : m * J + n + 1 < e
    ·have := he2 _ q; omega
    omega
   refine ⟨[], _, Weak.cutExt 2 0 (by rw [b1]; exact Nat.le_refl _) (by rw [b2]; exact Nat.le_refl _) (hcl' hcl) ?_ Wk.nil_get, ?_⟩
   ·exact hLc _ _ _ (by rw [b3]; simp only [go_sem] <;> omega)
   rw [hpe2, so2]
   exact ⟨ysget_of b3, by simp, (setY_of b3).symm⟩
  try simp only [Bool.not_eq_true', Bool.not_eq_false'] at g1
  have n1 := g1; try simp only [nrm] at n1
  simp only [go_sem, ldA_at (get_extx h10), putAll, ldS_at (get_extx k2), g1]
  refine hR _ _ ?_; clear hR R
  try simp only [go_sem, ldA_at (get_extx h10), putAll]
  refine W_cond_false rfl ?_
  refine W_skip ?_
  simp only [go_sem, ldA_at (get_extx h10), putAll]
  have e1 := st2 (by rw [← Option.not_isSome, his, g1]; rfl)
  have hne2 : ¬ (m * J + n + 1 = e) := fun h => he3 (by rw [← h]; exact e1)
  refine ⟨[], _, Weak.cutExt 2 0 (Nat.le_refl _) (Nat.le_refl _) hcl ?_ Wk.nil_get, ?_⟩
  ·exact hLc _ _ _ (by simp only [go_sem] <;> omega)
  rw [so1 _ (by omega)]
  simp only [RoundEnd, go_sem]
  simp [hne2]
 ·have hst := judges1_pc (Y.at τ.ys.length (fun args ρ b' ρ' => ∃ m n : Nat, m < M ∧ n < J ∧ m * J + n < e ∧ args = [.agg [I m, I n]] ∧ b' = (!(true && decide (m * J + n + 1 = e))) ∧ ρ = so (m * J + n) ∧ ρ' = so (m * J + n + 1))) τ τ.ys.length (τ.store.length + 1) s so M J e true hM hJ hMb hJb
   (fun t ht => by
    by_cases q : t < e
    ·rw [so1 t q]; exact Sg.get_ext ..
    have : t = e := by omega
    subst this
    rw [so2, ← b1]; exact Sg.get_ext ..) he1 (fun h => by cases h) (fun _ => he0)
   (fun m n h1 h2 h3 => by rw [YEnv.at_self]; exact ⟨m, n, h1, h2, h3, rfl, rfl, rfl, rfl⟩) (by rw [so2, so1 0 he0]; simp only [go_sem, b1]) (by rw [so2, so1 0 he0]; simp only [go_sem, b2]) (by rw [so2, so1 0 he0]; simp only [go_sem, b3])
   (fun _ => by rw [so2]; exact CleanSg_ext (hcl' hcl) (hLc _ _ _ (by rw [b3]; simp only [go_sem] <;> omega)))
  rw [so1 0 he0] at hst
  simp only [go_sem] at hst ⊢
  exact hst
 ·(rw [so2]; simp only [go_sem]; exact ysget_of b3)
 ·simp only [go_sem]
  rw [so2, ← b3]
  exact CleanCut_ext (hcl' hcl) (by simp only [go_sem] <;> omega) (by simp only [go_sem] <;> omega) (Nat.le_refl _) (hLc _ _ _ (by rw [b3]; exact hyl))
 simp only [go_sem]
 rw [so2, popY_of b3]
 simp only [AfterLoop]
 refine W_ret ?_
 simp only [go_sem]
 refine ⟨.inr (by trivial), ?_⟩
 exact Fin_len b1 b2 b3 (Fin_same (rs := []) (hcl' hcl) rfl (Wk.of_clean (.tuple _ Clean.all_nil)))
theorem aput_ok {s : Scale} {k : Kn} (hk : KnOk s k) {j : Int × Int} {l : List Int} (hl : l = [] ∨ ((l.length : Int) = s.schools ∧ ∀ x, x ∈ l → s.low ≤ x ∧ x ≤ s.high)) : KnOk s (aput j l k) := fun e he => by
 rcases aput_mem he with rfl | he
 ·exact hl
 exact hk e he
theorem openK_ok {s : Scale} : ∀ {l : List Envl} {k : Kn}, KnOk s k → KnOk s (openK s l k).2 := by
 intro l
 induction l with
 | nil => intro k h; exact h
 | cons x l ih =>
  intro k h
  simp only [openK]
  split
  ·exact h
  rename_i h1
  split
  ·exact h
  obtain ⟨_, q2, q3⟩ := marked_ok (s := s) (j := (x.matter, x.judge)) (l := x.marks) (by omega)
  have hn := ih (aput_ok (j := (x.matter, x.judge)) h (.inr ⟨q2, q3⟩))
  repeat' split
  all_goals first | exact h | exact hn
theorem missK_ok {s : Scale} : ∀ {l : List (Int × Int)} {k : Kn}, KnOk s k → KnOk s (missK s l k).2 := by
 intro l
 induction l with
 | nil => intro k h; exact h
 | cons x l ih =>
  intro k h
  simp only [missK]
  split
  ·exact h
  split
  ·exact h
  exact ih (aput_ok h (.inl rfl))
theorem finesR_ok {s : Scale} : ∀ {l : List (Int × Int)}, finesR s l = 0 → ∀ f, f ∈ l → (0 ≤ f.1 ∧ f.1 ≤ s.schools - 1) ∧ 0 ≤ f.2 ∧ f.2 ≤ 1000 := by
 intro l
 induction l with
 | nil => intro _ f hf; cases hf
 | cons x l ih =>
  intro h f hf
  simp only [finesR] at h
  split at h
  ·cases h
  rename_i h1
  split at h
  ·cases h
  rename_i h2
  rcases List.mem_cons.1 hf with rfl | hf
  ·simp only [Bool.not_eq_true, Bool.not_eq_false', inR_true] at h1 h2
   exact ⟨h1, h2⟩
  exact ih h f hf
theorem known_V {s : Scale} {g : Night} (h : knownE s g = 0) : KnV s (knownK s g) g := by
 obtain ⟨hv, h1, h2, h3, h4, h5, h6⟩ := known_ok h
 unfold finesE at h6
 split at h6
 ·cases h6
 rename_i hf
 exact ⟨hv, missK_ok (openK_ok fun e he => by cases he), h5, by omega, finesR_ok h6⟩
theorem chkOrd_ok {m : Int} : ∀ {l p : List Int}, chkOrd m p l = 0 → (∀ x, x ∈ l → 0 ≤ x ∧ x ≤ m - 1) ∧ l.Nodup ∧ ∀ x, x ∈ l → x ∉ p := by
 intro l
 induction l with
 | nil => intro p _; exact ⟨fun x hx => (by cases hx), List.nodup_nil, fun x hx => (by cases hx)⟩
 | cons n l ih =>
  intro p h
  simp only [chkOrd] at h
  split at h
  ·cases h
  rename_i h1
  split at h
  ·cases h
  rename_i h2
  obtain ⟨a1, a2, a3⟩ := ih h
  simp only [Bool.not_eq_true, Bool.not_eq_false', inR_true] at h1
  refine ⟨fun x hx => ?_, List.nodup_cons.2 ⟨fun hm => a3 n hm (by simp), a2⟩, fun x hx hp => ?_⟩
  ·rcases List.mem_cons.1 hx with rfl | hx
   ·exact h1
   exact a1 x hx
  rcases List.mem_cons.1 hx with rfl | hx
  ·exact h2 (has_iff.2 hp)
  exact a3 x hx (List.mem_append.2 (.inl hp))
theorem ptsL_get {s : Scale} {M i : Nat} (hM : s.matters = M) (hi : i < M) (k : Kn) (sc u : Int) : (pointsL s k sc u)[i]? = some (pointsK s k sc i u) := by
 simp [pointsL, toI, hM, hi]
theorem fines_bd {s : Scale} {k : Kn} {g : Night} (hV : KnV s k g) (sc : Int) : 0 ≤ finesOf g.fines sc ∧ finesOf g.fines sc ≤ 10000 := by
 have := sumI_bd (b := 1000) (l := g.fines.map fun f => if f.1 = sc then f.2 else 0) fun x hx => by
  obtain ⟨f, hf, rfl⟩ := List.mem_map.1 hx
  have := hV.fi f hf
  split <;> omega
 have hl := hV.fl
 unfold finesOf
 simp only [List.length_map] at this
 omega
theorem stand_bd {s : Scale} {k : Kn} {g : Night} (hV : KnV s k g) {u : Int} (hu : 0 ≤ u ∧ u ≤ 100) (sc : Int) : -10000 ≤ (standK s k g sc u).total ∧ (standK s k g sc u).total ≤ 3000 := by
 have h1 := sumI_bd (b := 500) (l := pointsL s k sc u) fun x hx => by
  obtain ⟨m, _, rfl⟩ := List.mem_map.1 hx
  exact points_bd hV.v hV.ok hu sc m
 have h2 := fines_bd hV sc
 have q := hV.v.mt
 have hl : (pointsL s k sc u).length = s.matters.toNat := by simp [pointsL, toI]
 simp only [standK]
 rw [hl] at h1
 omega
theorem cmp_ok {s : Scale} {k : Kn} {g : Night} (hV : KnV s k g) {u v : Int} (hu : 0 ≤ u ∧ u ≤ 100) (hv : 0 ≤ v ∧ v ≤ 100) {a b : Int} (ha : 0 ≤ a ∧ a < s.schools) (hb : 0 ≤ b ∧ b < s.schools) : CmpOk s.order (standK s k g a u) (standK s k g b v) := by
 have q1 := hV.v.mt
 have q3 := hV.v.sc
 have h1 := stand_bd hV hu a
 have h2 := stand_bd hV hv b
 obtain ⟨M, hM⟩ : ∃ z : Nat, s.matters = z := ⟨s.matters.toNat, by omega⟩
 refine ⟨by omega, by omega, by simp only [standK]; omega, by simp only [standK]; omega, fun m hm => ?_⟩
 have := (chkOrd_ok hV.v.od).1 m hm
 obtain ⟨i, rfl⟩ : ∃ i : Nat, m = i := ⟨m.toNat, by omega⟩
 have p1 := points_bd hV.v hV.ok hu a i
 have p2 := points_bd hV.v hV.ok hv b i
 exact ⟨i, _, _, rfl, ptsL_get hM (by omega) k a u, ptsL_get hM (by omega) k b v, by omega, by omega⟩
theorem row3_cons (x : Stand) (l : List Stand) : rowC ((x :: l).map sdPV) = I x.school :: I x.total :: ints x.points :: rowC (l.map sdPV) := by simp [rowC, sdPV, sdCells]
theorem row3_len : ∀ l : List Stand, (rowC (l.map sdPV)).length = l.length * 3 := by
 intro l
 induction l with
 | nil => rfl
 | cons x l ih => rw [row3_cons]; simp only [List.length_cons, ih]; omega
theorem row3_ld : ∀ {l : List Stand} {j : Nat} {x : Stand}, l[j]? = some x → ((rowC (l.map sdPV)).drop (j * 3)).take 3 = [I x.school, I x.total, ints x.points] := by
 intro l
 induction l with
 | nil => intro j x h; simp at h
 | cons y l ih =>
  intro j x h
  rw [row3_cons]
  cases j with
  | zero =>
   simp only [List.getElem?_cons_zero, Option.some.injEq] at h
   subst h
   simp
  | succ j =>
   simp only [List.getElem?_cons_succ] at h
   rw [show (j + 1) * 3 = j * 3 + 1 + 1 + 1 by omega]
   simp only [List.drop_succ_cons]
   exact ih h
theorem row3_put (x : Stand) : ∀ {l : List Stand} {j : Nat}, j < l.length → (((rowC (l.map sdPV)).set (j * 3) (I x.school)).set (j * 3 + 1) (I x.total)).set (j * 3 + 1 + 1) (ints x.points) = rowC ((l.set j x).map sdPV) := by
 intro l
 induction l with
 | nil => intro j h; simp at h
 | cons y l ih =>
  intro j h
  rw [row3_cons]
  cases j with
  | zero =>
   have e : (y :: l).set 0 x = x :: l := rfl
   rw [e, row3_cons]; simp
  | succ j =>
   rw [List.set_cons_succ, row3_cons, show (j + 1) * 3 = j * 3 + 1 + 1 + 1 by omega]
   simp only [List.set_cons_succ]
   rw [ih (by simpa using h)]
theorem cA_row3 {a b c : Nat} {l : List Stand} : CleanAll a b c (rowC (l.map sdPV)) = True := eq_true fun p hp => by
 simp only [rowC, List.mem_flatMap, List.mem_map] at hp
 obtain ⟨q, ⟨x, _, rfl⟩, hp⟩ := hp
 exact cleans_sd x p hp
attribute [go_sem] cA_row3
theorem ld3 {σ : Sg} {id : Nat} (hlt : id < σ.store.length) {l : List Stand} {j : Nat} {x : Stand} (h : l[j]? = some x) : ldA 3 (σ.setVar id (rowC (l.map sdPV))) id (j * 3) = some (.agg [I x.school, I x.total, ints x.points]) := by
 have hj := (List.getElem?_eq_some_iff.1 h).1
 rw [ldA_at (sv_get hlt), if_pos (by rw [row3_len]; omega), row3_ld h]
/-- One standing sinks to its place. -/
def sink (ord : List Int) : Nat → List Stand → List Stand
 | 0, l => l
 | j + 1, l => match l[j + 1]?, l[j]? with
  | some x, some y => if cmpSt ord x y < 0 then sink ord j ((l.set (j + 1) y).set j x) else l
  | _, _ => l
def sinkAll (ord : List Int) : Nat → Nat → List Stand → List Stand
 | 0, _, l => l
 | k + 1, i, l => sinkAll ord k (i + 1) (sink ord i l)
def sortSd (ord : List Int) (l : List Stand) : List Stand := sinkAll ord (l.length - 1) 1 l
theorem mem_set2 {α : Type} {l : List α} {i j : Nat} {x y z : α} (hx : l[i]? = some x) (hy : l[j]? = some y) (h : z ∈ (l.set i y).set j x) : z ∈ l := by
 rcases List.mem_or_eq_of_mem_set h with h | h
 ·rcases List.mem_or_eq_of_mem_set h with h | h
  ·exact h
  exact h ▸ List.mem_of_getElem? hy
 exact h ▸ List.mem_of_getElem? hx
set_option maxHeartbeats 4000000 in
theorem insSort_pc (Y : YEnv) (σ : Sg) (id : Nat) (ord : List Int) (l : List Stand) (hd : σ.store[id]? = some (some (rowC (l.map sdPV)))) (hC : ∀ a b, a ∈ l → b ∈ l → CmpOk ord a b) (hol : ord.length < 2 ^ 40) (hl : 0 < l.length ∧ l.length ≤ 12) :
    PC Tryz.prog Y 66 [.gsl id l.length 3, I 0, I l.length, .func (.func 20) [.agg [ints ord]] []] σ (.tuple []) (σ.setVar id (rowC ((sortSd ord l).map sdPV))) := by
  refine PC_of_W Tryz.func66 rfl (by kernel_rfl) Tryz.ntmps66 (by simp) fun hcl hca => ?_
  have hlt := lt_of_get hd
  obtain ⟨res, hres⟩ : ∃ r, sortSd ord l = r := ⟨_, rfl⟩
  rw [hres]
  obtain ⟨n, hn⟩ : ∃ z, l.length = z := ⟨_, rfl⟩
  rw [hn] at hl ⊢
  refine W_sr [0, 1, 2, 3, 8] fun R hR => ?_
  simp only [go_sem, ldS_at hd, stX_at hd, ldS_sv hlt, stX_sv hlt, sv_ext hlt, sv_ext_sv hlt]
  try simp (disch := omega) only [wrapI, wrapU]
  refine hR _ _ ?_; clear hR R
  try simp only [go_sem, ldS_at hd, stX_at hd, ldS_sv hlt, stX_sv hlt, sv_ext hlt, sv_ext_sv hlt]
  refine W_block ?_
  refine W_loopT (α := Nat × (List Stand)) (fun ⟨i, m⟩ => [(8, I i)]) (fun ⟨i, m⟩ => σ.setVar id (rowC (m.map sdPV))) (fun ⟨i, m⟩ => 1 ≤ i ∧ i ≤ n ∧ m.length = n ∧ (∀ x, x ∈ m → x ∈ l) ∧ res = sinkAll ord (n - i) i m) (fun ⟨i, m⟩ => n - i) ((1, l)) rfl (by show σ.setVar id _ = σ; exact sv_self hd) (⟨Nat.le_refl _, by omega, hn, fun x hx => hx, by rw [← hres, sortSd, hn]⟩) ?_
  rintro ⟨i, m⟩ ⟨hi1, hi, hml, hmm, hinv⟩
  refine W_seq fun Z2 K2 => ?_
  refine W_sr [0, 1, 2, 3, 8, 14] fun R hR => ?_
  simp only [go_sem, ldS_at hd, stX_at hd, ldS_sv hlt, stX_sv hlt, sv_ext hlt, sv_ext_sv hlt]
  refine hR _ _ ?_; clear hR R
  try simp only [go_sem, ldS_at hd, stX_at hd, ldS_sv hlt, stX_sv hlt, sv_ext hlt, sv_ext_sv hlt]
  refine W_cond rfl (fun c1 => ?_) (fun c1 => ?_)
  ·
    try simp only [nrm] at c1
    have hin : i < n := by first | omega | (simp at c1; omega)
    rw [show n - i = (n - (i + 1)) + 1 by omega] at hinv
    simp only [sinkAll] at hinv
    refine W_skip (K2 _ _ ?_)
    refine W_seq fun Z4 K4 => ?_
    refine W_block ?_
    refine W_sr [0, 1, 2, 3, 8, 9] fun R hR => ?_
    simp only [go_sem, ldS_at hd, stX_at hd, ldS_sv hlt, stX_sv hlt, sv_ext hlt, sv_ext_sv hlt]
    refine hR _ _ ?_; clear hR R
    try simp only [go_sem, ldS_at hd, stX_at hd, ldS_sv hlt, stX_sv hlt, sv_ext hlt, sv_ext_sv hlt]
    refine W_block ?_
    refine W_loopT (α := Nat × (List Stand)) (fun ⟨j, m2⟩ => [(9, I j)]) (fun ⟨j, m2⟩ => σ.setVar id (rowC (m2.map sdPV))) (fun ⟨j, m2⟩ => j ≤ i ∧ m2.length = n ∧ (∀ x, x ∈ m2 → x ∈ l) ∧ sink ord i m = sink ord j m2) (fun ⟨j, m2⟩ => j) ((i, m)) rfl (by first | rfl | (simp only [go_sem]; done) | (simp only [go_sem]; rfl)) (⟨Nat.le_refl _, hml, hmm, rfl⟩) ?_
    rintro ⟨j, m2⟩ ⟨hj, hm2l, hm2, hsk⟩
    refine W_seq fun Z6 K6 => ?_
    refine W_seq fun Z7 K7 => ?_
    refine W_draw [0, 1, 2, 3, 8, 9, 34] [0, 1, 2, 3, 4, 5, 6, 7, 8, 9, 10, 11, 12, 13, 14, 15, 16] [] [[], [], [0, 1], [0, 1, 2], [0, 1, 2, 3], [0, 1, 2, 3], [0, 1, 2, 3], [0, 1, 2, 3, 5, 6], [0, 1, 2, 3, 5, 6, 7], [0, 1, 2, 3], [0, 1, 2, 3], [0, 1, 2, 3, 10], [0, 1, 2, 3, 9, 10, 11], [0, 1, 2, 3, 9, 10, 11, 12], [0, 1, 2, 3, 4, 5, 6, 7, 8, 9, 10, 11, 12, 13], [0, 1, 2, 3, 4, 5, 6, 7, 8, 9, 10, 11, 12, 13, 14], [0, 1, 2, 3, 4, 5, 6, 7, 8, 9, 10, 11, 12, 13, 14, 15]] mixed (by kernel_rfl) fun R hR => ?_
    simp only [go_sem, ldS_at hd, stX_at hd, ldS_sv hlt, stX_sv hlt, sv_ext hlt, sv_ext_sv hlt]
    refine GWant_split (fun g1 => ?_) (fun g1 => ?_)
    · try simp only [Bool.not_eq_true', Bool.not_eq_false'] at g1
      have n1 := g1; try simp only [nrm] at n1
      obtain ⟨q, rfl⟩ : ∃ q, j = q + 1 := ⟨j - 1, by first | omega | (simp at g1; omega)⟩
      obtain ⟨x, hx⟩ : ∃ z, m2[q + 1]? = some z := ⟨m2[q + 1]'(by omega), by simp⟩
      obtain ⟨y, hy⟩ : ∃ z, m2[q]? = some z := ⟨m2[q]'(by omega), by simp⟩
      have hsk2 : sink ord (q + 1) m2 = if cmpSt ord x y < 0 then sink ord q ((m2.set (q + 1) y).set q x) else m2 := by simp only [sink, hx, hy]
      have hq1 : ((q + 1 : Nat) : Int) < (n : Int) := by omega
      have hq0 : ((q : Nat) : Int) < (n : Int) := by omega
      have hz1 : (0 : Int) ≤ ((q + 1 : Nat) : Int) := by omega
      have hqw : IntKind.i64.wrap (((q + 1 : Nat) : Int) - 1) = (q : Int) := by rw [wrapI (by omega) (by omega)]; omega
      have l1 := ld3 hlt hx
      have l2 := ld3 hlt hy
      have s1 : decide ((q + 1) * 3 + 3 ≤ (rowC (List.map sdPV m2)).length) = true := by rw [row3_len]; simp; omega
      have s2 : decide (q * 3 + 3 ≤ (rowC (List.map sdPV (m2.set (q + 1) y))).length) = true := by rw [row3_len]; simp; omega
      have s3 := row3_put y (l := m2) (j := q + 1) (by omega)
      have s4 := row3_put x (l := m2.set (q + 1) y) (j := q) (by simp; omega)
      simp only [go_sem, ldS_at hd, stX_at hd, ldS_sv hlt, stX_sv hlt, sv_ext hlt, sv_ext_sv hlt, hqw, hq1, hq0, iaM_nat (Int.ofNat_lt.1 hq1), iaM_nat (Int.ofNat_lt.1 hq0), Nat.zero_add, l1, l2, s1, s2, s3, s4, g1]
      try simp (disch := omega) only [wrapI, wrapU]
      refine GCall_of (compare_pc Y _ ord x y (hC x y (hm2 x (List.mem_of_getElem? hx)) (hm2 y (List.mem_of_getElem? hy))) hol) ?_
      simp only [go_sem, ldS_at hd, stX_at hd, ldS_sv hlt, stX_sv hlt, sv_ext hlt, sv_ext_sv hlt, hqw, hq1, hq0, iaM_nat (Int.ofNat_lt.1 hq1), iaM_nat (Int.ofNat_lt.1 hq0), Nat.zero_add, l1, l2, s1, s2, s3, s4, g1]
      try simp (disch := omega) only [wrapI, wrapU]
      try refine And.intro (by repeat' (first | refine And.intro ?_ ?_ | exact GOr_right (fun _ => by simp only [go_sem, ldS_at hd, stX_at hd, ldS_sv hlt, stX_sv hlt, sv_ext hlt, sv_ext_sv hlt, hqw, hq1, hq0, iaM_nat (Int.ofNat_lt.1 hq1), iaM_nat (Int.ofNat_lt.1 hq0), Nat.zero_add, l1, l2, s1, s2, s3, s4]))) ?_
      refine hR _ _ (K7 _ _ ?_); clear hR R; try clear K7 Z7
      try simp only [go_sem, ldS_at hd, stX_at hd, ldS_sv hlt, stX_sv hlt, sv_ext hlt, sv_ext_sv hlt, hqw, hq1, hq0, iaM_nat (Int.ofNat_lt.1 hq1), iaM_nat (Int.ofNat_lt.1 hq0), Nat.zero_add, l1, l2, s1, s2, s3, s4]
      refine W_cond rfl (fun c2 => ?_) (fun c2 => ?_)
      ·
        try simp only [nrm] at c2
        skip
        refine W_skip (K6 _ _ ?_)
        refine W_seq fun Z8 K8 => ?_
        refine W_block ?_
        refine W_draw [0, 1, 2, 3, 8, 9] [0, 1, 2, 3, 4, 5, 6, 7, 8, 9, 10, 11, 12, 13, 14, 15, 16, 17] [(2, 17), (3, 17), (4, 17)] [[], [], [], [], [3], [], [], [6], [5, 6, 7], [5, 6, 7, 8], [], [], [10, 11], [10, 11, 12], [0, 1, 5, 6, 7, 8, 9, 10, 11, 12, 13], [0, 1, 5, 6, 7, 8, 9, 10, 11, 12, 13, 14], [0, 1, 2, 3, 4, 5, 6, 7, 8, 9, 10, 11, 12, 13, 14, 15], [0, 1, 2, 3, 4, 5, 6, 7, 8, 9, 10, 11, 12, 13, 14, 15, 16]] mixed (by kernel_rfl) fun R hR => ?_
        simp only [go_sem, ldS_at hd, stX_at hd, ldS_sv hlt, stX_sv hlt, sv_ext hlt, sv_ext_sv hlt, hqw, hq1, hq0, iaM_nat (Int.ofNat_lt.1 hq1), iaM_nat (Int.ofNat_lt.1 hq0), Nat.zero_add, l1, l2, s1, s2, s3, s4]
        try simp (disch := omega) only [wrapI, wrapU]
        try refine And.intro (by repeat' (first | refine And.intro ?_ ?_ | exact GOr_right (fun _ => by simp only [go_sem, ldS_at hd, stX_at hd, ldS_sv hlt, stX_sv hlt, sv_ext hlt, sv_ext_sv hlt, hqw, hq1, hq0, iaM_nat (Int.ofNat_lt.1 hq1), iaM_nat (Int.ofNat_lt.1 hq0), Nat.zero_add, l1, l2, s1, s2, s3, s4]))) ?_
        refine hR _ _ (K8 _ _ ?_); clear hR R; try clear K8 Z8
        try simp only [go_sem, ldS_at hd, stX_at hd, ldS_sv hlt, stX_sv hlt, sv_ext hlt, sv_ext_sv hlt, hqw, hq1, hq0, iaM_nat (Int.ofNat_lt.1 hq1), iaM_nat (Int.ofNat_lt.1 hq0), Nat.zero_add, l1, l2, s1, s2, s3, s4]
        refine W_region [0, 1, 2, 3, 8, 9] fun R hR => ?_
        simp only [go_sem, ldS_at hd, stX_at hd, ldS_sv hlt, stX_sv hlt, sv_ext hlt, sv_ext_sv hlt, hqw, hq1, hq0, iaM_nat (Int.ofNat_lt.1 hq1), iaM_nat (Int.ofNat_lt.1 hq0), Nat.zero_add, l1, l2, s1, s2, s3, s4]
        try simp (disch := omega) only [wrapI, wrapU]
        refine hR _ _ ?_; clear hR R
        try simp only [go_sem, ldS_at hd, stX_at hd, ldS_sv hlt, stX_sv hlt, sv_ext hlt, sv_ext_sv hlt, hqw, hq1, hq0, iaM_nat (Int.ofNat_lt.1 hq1), iaM_nat (Int.ofNat_lt.1 hq0), Nat.zero_add, l1, l2, s1, s2, s3, s4]
        refine ⟨(q, (m2.set (q + 1) y).set q x), ?_, by (try simp only []); omega, ?_⟩
        · first | exact Weak.refl | exact Wqq
        · try dsimp only
          refine ⟨by omega, by simp [hm2l], fun z hz => hm2 z (mem_set2 hx hy hz), ?_⟩
          rw [hsk, hsk2, if_pos (by simpa using c2)]
      ·
        try simp only [nrm] at c2
        skip
        refine W_exit ?_
        simp only [go_sem, ldS_at hd, stX_at hd, ldS_sv hlt, stX_sv hlt, sv_ext hlt, sv_ext_sv hlt, hqw, hq1, hq0, iaM_nat (Int.ofNat_lt.1 hq1), iaM_nat (Int.ofNat_lt.1 hq0), Nat.zero_add, l1, l2, s1, s2, s3, s4]
        refine K4 _ _ ?_
        refine W_region [0, 1, 2, 3, 8] fun R hR => ?_
        simp only [go_sem, ldS_at hd, stX_at hd, ldS_sv hlt, stX_sv hlt, sv_ext hlt, sv_ext_sv hlt, hqw, hq1, hq0, iaM_nat (Int.ofNat_lt.1 hq1), iaM_nat (Int.ofNat_lt.1 hq0), Nat.zero_add, l1, l2, s1, s2, s3, s4]
        try simp (disch := omega) only [wrapI, wrapU]
        refine hR _ _ ?_; clear hR R
        try simp only [go_sem, ldS_at hd, stX_at hd, ldS_sv hlt, stX_sv hlt, sv_ext hlt, sv_ext_sv hlt, hqw, hq1, hq0, iaM_nat (Int.ofNat_lt.1 hq1), iaM_nat (Int.ofNat_lt.1 hq0), Nat.zero_add, l1, l2, s1, s2, s3, s4]
        refine ⟨(i + 1, m2), ?_, by (try simp only []); omega, ?_⟩
        · first | exact Weak.refl | exact Wqq
        · try dsimp only
          refine ⟨by omega, by omega, hm2l, hm2, ?_⟩
          rw [hinv, hsk]
          first
          | rw [hsk2, if_neg (by simpa using c2)]
          | (have hj0 : j = 0 := by first | omega | (simp at g1; omega)
             subst hj0; rfl)
    · try simp only [Bool.not_eq_true', Bool.not_eq_false'] at g1
      have n1 := g1; try simp only [nrm] at n1
      simp only [go_sem, ldS_at hd, stX_at hd, ldS_sv hlt, stX_sv hlt, sv_ext hlt, sv_ext_sv hlt, g1]
      try simp (disch := omega) only [wrapI, wrapU]
      try refine And.intro (by repeat' (first | refine And.intro ?_ ?_ | exact GOr_right (fun _ => by simp only [go_sem, ldS_at hd, stX_at hd, ldS_sv hlt, stX_sv hlt, sv_ext hlt, sv_ext_sv hlt]))) ?_
      refine hR _ _ (K7 _ _ ?_); clear hR R; try clear K7 Z7
      try simp only [go_sem, ldS_at hd, stX_at hd, ldS_sv hlt, stX_sv hlt, sv_ext hlt, sv_ext_sv hlt]
      refine W_cond_false rfl ?_
      refine W_exit ?_
      simp only [go_sem, ldS_at hd, stX_at hd, ldS_sv hlt, stX_sv hlt, sv_ext hlt, sv_ext_sv hlt]
      refine K4 _ _ ?_
      refine W_region [0, 1, 2, 3, 8] fun R hR => ?_
      simp only [go_sem, ldS_at hd, stX_at hd, ldS_sv hlt, stX_sv hlt, sv_ext hlt, sv_ext_sv hlt]
      try simp (disch := omega) only [wrapI, wrapU]
      refine hR _ _ ?_; clear hR R
      try simp only [go_sem, ldS_at hd, stX_at hd, ldS_sv hlt, stX_sv hlt, sv_ext hlt, sv_ext_sv hlt]
      refine ⟨(i + 1, m2), ?_, by (try simp only []); omega, ?_⟩
      · first | exact Weak.refl | exact Wqq
      · try dsimp only
        refine ⟨by omega, by omega, hm2l, hm2, ?_⟩
        rw [hinv, hsk]
        first
        | rw [hsk2, if_neg (by simpa using c2)]
        | (have hj0 : j = 0 := by first | omega | (simp at g1; omega)
           subst hj0; rfl)
  ·
    try simp only [nrm] at c1
    have hie : n = i := by first | omega | (simp at c1; omega)
    subst hie
    rw [Nat.sub_self] at hinv
    simp only [sinkAll] at hinv
    subst hinv
    refine W_exit ?_
    simp only [go_sem, ldS_at hd, stX_at hd, ldS_sv hlt, stX_sv hlt, sv_ext hlt, sv_ext_sv hlt]
    try simp only [go_sem, ldS_at hd, stX_at hd, ldS_sv hlt, stX_sv hlt, sv_ext hlt, sv_ext_sv hlt]
    refine ⟨.inl (by trivial), ?_⟩
    first | refine Fin_set hcl (by simp only [go_sem]) rfl (Wk_eq ?_ (by simp only [go_sem])) | refine Fin_set0 hcl (by simp only [go_sem]) rfl (Wk_eq ?_ (by simp only [go_sem]))
    try simp only [go_sem]
    all_goals
      skip
set_option maxHeartbeats 2000000 in
theorem pdqSort_pc (Y : YEnv) (σ : Sg) (id : Nat) (ord : List Int) (l : List Stand) (hd : σ.store[id]? = some (some (rowC (l.map sdPV)))) (hC : ∀ a b, a ∈ l → b ∈ l → CmpOk ord a b) (hol : ord.length < 2 ^ 40) (hl : 0 < l.length ∧ l.length ≤ 12) (lim : Int) :
 PC Tryz.prog Y 44 [.gsl id l.length 3, I 0, I l.length, I lim, .func (.func 20) [.agg [ints ord]] []] σ (.tuple []) (σ.setVar id (rowC ((sortSd ord l).map sdPV))) := by
 refine PC_of_W Tryz.func44 rfl (by kernel_rfl) Tryz.ntmps44 (by simp) fun hcl hca => ?_
 have hlt := lt_of_get hd
 have hl2 : (l.length : Int) ≤ 12 := by omega
 refine W_sr [0, 1, 2, 3, 4, 10] fun R hR => ?_
 simp only [go_sem, ldS_at hd, stX_at hd, ldS_sv hlt, stX_sv hlt, sv_ext hlt, sv_ext_sv hlt]
 refine hR _ _ ?_; clear hR R
 try simp only [go_sem, ldS_at hd, stX_at hd, ldS_sv hlt, stX_sv hlt, sv_ext hlt, sv_ext_sv hlt]
 refine W_sr [0, 1, 2, 3, 4, 10, 11] fun R hR => ?_
 simp only [go_sem, ldS_at hd, stX_at hd, ldS_sv hlt, stX_sv hlt, sv_ext hlt, sv_ext_sv hlt]
 refine hR _ _ ?_; clear hR R
 try simp only [go_sem, ldS_at hd, stX_at hd, ldS_sv hlt, stX_sv hlt, sv_ext hlt, sv_ext_sv hlt]
 refine W_block ?_
 refine W_loopS (α := Nat) (fun (z : Nat) => []) (fun (z : Nat) => True) (fun (z : Nat) => 0) (0) rfl (trivial) ?_
 rintro z _
 refine W_block ?_
 refine W_sr [0, 1, 2, 3, 4, 10, 11, 12] fun R hR => ?_
 simp only [go_sem, ldS_at hd, stX_at hd, ldS_sv hlt, stX_sv hlt, sv_ext hlt, sv_ext_sv hlt]
 try simp (disch := omega) only [wrapI, wrapU]
 refine hR _ _ ?_; clear hR R
 try simp only [go_sem, ldS_at hd, stX_at hd, ldS_sv hlt, stX_sv hlt, sv_ext hlt, sv_ext_sv hlt]
 refine W_seq fun Z4 K4 => ?_
 refine W_sr [0, 1, 2, 3, 4, 10, 11, 12, 25] fun R hR => ?_
 simp only [go_sem, ldS_at hd, stX_at hd, ldS_sv hlt, stX_sv hlt, sv_ext hlt, sv_ext_sv hlt]
 refine hR _ _ ?_; clear hR R
 try simp only [go_sem, ldS_at hd, stX_at hd, ldS_sv hlt, stX_sv hlt, sv_ext hlt, sv_ext_sv hlt]
 refine W_cond rfl (fun c1 => ?_) (fun c1 => ?_)
 ·
  try simp only [nrm] at c1
  refine W_sr [] fun R hR => ?_
  simp only [go_sem, ldS_at hd, stX_at hd, ldS_sv hlt, stX_sv hlt, sv_ext hlt, sv_ext_sv hlt]
  refine GCall_of (insSort_pc Y _ id ord l hd hC hol hl) ?_
  simp only [go_sem, ldS_at hd, stX_at hd, ldS_sv hlt, stX_sv hlt, sv_ext hlt, sv_ext_sv hlt]
  refine hR _ _ ?_; clear hR R
  try simp only [go_sem, ldS_at hd, stX_at hd, ldS_sv hlt, stX_sv hlt, sv_ext hlt, sv_ext_sv hlt]
  refine W_ret ?_
  simp only [go_sem, ldS_at hd, stX_at hd, ldS_sv hlt, stX_sv hlt, sv_ext hlt, sv_ext_sv hlt]
  refine ⟨.inr (by trivial), ?_⟩
  first | refine Fin_set hcl (by simp only [go_sem]) rfl (Wk_eq ?_ (by simp only [go_sem])) | refine Fin_set0 hcl (by simp only [go_sem]) rfl (Wk_eq ?_ (by simp only [go_sem]))
  try simp only [go_sem]
  all_goals
   skip
 try simp only [nrm] at c1
 exfalso
 first | omega | (simp at c1; omega)
set_option maxHeartbeats 2000000 in
theorem sortFunc_pc (Y : YEnv) (σ : Sg) (id : Nat) (ord : List Int) (l : List Stand) (hd : σ.store[id]? = some (some (rowC (l.map sdPV)))) (hC : ∀ a b, a ∈ l → b ∈ l → CmpOk ord a b) (hol : ord.length < 2 ^ 40) (hl : 0 < l.length ∧ l.length ≤ 12) :
 PC Tryz.prog Y 21 [.gsl id l.length 3, .func (.func 20) [.agg [ints ord]] []] σ (.tuple []) (σ.setVar id (rowC ((sortSd ord l).map sdPV))) := by
 refine PC_of_W Tryz.func21 rfl (by kernel_rfl) Tryz.ntmps21 (by simp) fun hcl hca => ?_
 have hlt := lt_of_get hd
 refine W_sr [0, 1, 4] fun R hR => ?_
 simp only [go_sem, ldS_at hd, stX_at hd, ldS_sv hlt, stX_sv hlt, sv_ext hlt, sv_ext_sv hlt]
 refine hR _ _ ?_; clear hR R
 try simp only [go_sem, ldS_at hd, stX_at hd, ldS_sv hlt, stX_sv hlt, sv_ext hlt, sv_ext_sv hlt]
 refine W_region [] fun R hR => ?_
 simp only [go_sem, ldS_at hd, stX_at hd, ldS_sv hlt, stX_sv hlt, sv_ext hlt, sv_ext_sv hlt]
 try simp (disch := omega) only [wrapI, wrapU]
 refine GCall_of (bitsLen_pc Y _ l.length (by omega) (by omega)) ?_
 simp only [go_sem, ldS_at hd, stX_at hd, ldS_sv hlt, stX_sv hlt, sv_ext hlt, sv_ext_sv hlt]
 try simp (disch := omega) only [wrapI, wrapU]
 refine GCall_of (pdqSort_pc Y _ id ord l hd hC hol hl _) ?_
 simp only [go_sem, ldS_at hd, stX_at hd, ldS_sv hlt, stX_sv hlt, sv_ext hlt, sv_ext_sv hlt]
 try simp (disch := omega) only [wrapI, wrapU]
 refine hR _ _ ?_; clear hR R
 try simp only [go_sem, ldS_at hd, stX_at hd, ldS_sv hlt, stX_sv hlt, sv_ext hlt, sv_ext_sv hlt]
 try simp only [go_sem, ldS_at hd, stX_at hd, ldS_sv hlt, stX_sv hlt, sv_ext hlt, sv_ext_sv hlt]
 refine ⟨.inl (by trivial), ?_⟩
 first | refine Fin_set hcl (by simp only [go_sem]) rfl (Wk_eq ?_ (by simp only [go_sem])) | refine Fin_set0 hcl (by simp only [go_sem]) rfl (Wk_eq ?_ (by simp only [go_sem]))
 try simp only [go_sem]
 all_goals
  skip
/-- Standings that grow in place: nothing yet, or the last of a row of variables (those before it are gone). -/
def glS (n : Nat) (out : List Stand) : PV := match out with
 | [] => .gnil
 | _ :: t => .gsl (n + t.length) (t.length + 1) 3
def gsS (out : List Stand) : List (Option (List PV)) := match out with
 | [] => []
 | _ :: t => List.replicate t.length none ++ [some (rowC (out.map sdPV))]
theorem appendAny_gs {P : Program} {σ : Sg} {t t' : TypeId} {n : Nat} {out : List Stand} {m : List PV} {o : Own} : appendAny P σ t t' (glS n out) (.isl m o) = appendG P σ t t' (glS n out) (.isl m o) := by cases out <;> rfl
attribute [go_sem] appendAny_gs
section
variable {σ : Sg} {A : List (Option (List PV))} {rm : List Nat} {ys : List LState} {out : List Stand}
theorem gsS_get {x : Stand} : (A ++ gsS (x :: out))[A.length + out.length]? = some (some (rowC ((x :: out).map sdPV))) := by
 have : A.length + out.length = (A ++ List.replicate out.length (none : Option (List PV))).length := by simp
 rw [this, gsS, ← List.append_assoc]
 exact get_mid
theorem gsS_set {x : Stand} {y : Option (List PV)} : (A ++ gsS (x :: out)).set (A.length + out.length) y = A ++ (List.replicate out.length none ++ [y]) := by
 have : A.length + out.length = (A ++ List.replicate out.length (none : Option (List PV))).length := by simp
 rw [this, gsS, ← List.append_assoc, ← List.append_assoc]
 exact set_mid
theorem appG_gs (b : Nat) (x : Stand) (h : (out.length + 1) * b ≤ 2 ^ 47) : appG 3 b (σ.ext (A ++ gsS out) rm ys) (glS (σ.store.length + A.length) out) [.agg [I x.school, I x.total, ints x.points]] = some (glS (σ.store.length + A.length) (out ++ [x]), σ.ext (A ++ gsS (out ++ [x])) rm ys) := by
 cases out with
 | nil =>
  rw [glS, appG_nil (by rfl) (by simp) (by simpa using h)]
  simp [gsS, glS, rowC, Sg.push_ext, Sg.len_ext, sdPV, sdCells]
 | cons y out =>
  simp only [glS]
  rw [appG_more (cs := rowC ((y :: out).map sdPV)) (by rw [Nat.add_assoc, Sg.get_ext]; exact gsS_get) (by rw [row3_len]; simp) (by rfl) (by simp) (by simpa using h)]
  rw [Nat.add_assoc (Sg.store σ).length, Sg.drop_ext, gsS_set]
  simp only [Sg.push_ext, Sg.len_ext]
  have e : List.replicate (out ++ [x]).length (none : Option (List PV)) = List.replicate out.length none ++ [none] := by simp [List.replicate_succ']
  simp only [List.cons_append, gsS, e, glS]
  have e2 : rowC ((y :: (out ++ [x])).map sdPV) = rowC ((y :: out).map sdPV) ++ rowC [.agg [I x.school, I x.total, ints x.points]] := by
   simp [rowC, sdPV, sdCells]
  rw [e2]
  simp [Nat.add_assoc]
end
theorem sink_len (ord : List Int) : ∀ (j : Nat) (l : List Stand), (sink ord j l).length = l.length := by
 intro j
 induction j with
 | zero => intro l; rfl
 | succ j ih =>
  intro l
  simp only [sink]
  split
  ·split
   ·rw [ih]; simp
   rfl
  rfl
theorem sinkAll_len (ord : List Int) : ∀ (k i : Nat) (l : List Stand), (sinkAll ord k i l).length = l.length := by
 intro k
 induction k with
 | zero => intro i l; rfl
 | succ k ih => intro i l; simp only [sinkAll, ih, sink_len]
theorem sortSd_len (ord : List Int) (l : List Stand) : (sortSd ord l).length = l.length := sinkAll_len _ _ _ _
theorem sort_gs (Y : YEnv) (σ : Sg) (A : List (Option (List PV))) (rm : List Nat) (ord : List Int) (out : List Stand) (hC : ∀ a b, a ∈ out → b ∈ out → CmpOk ord a b) (hol : ord.length < 2 ^ 40) (hl : 0 < out.length ∧ out.length ≤ 12) :
 PC Tryz.prog Y 21 [glS (σ.store.length + A.length) out, .func (.func 20) [.agg [ints ord]] []] (σ.ext (A ++ gsS out) rm) (.tuple []) (σ.ext (A ++ gsS (sortSd ord out)) rm) := by
 cases out with
 | nil => simp at hl
 | cons x out =>
  have h1 := sortFunc_pc Y (σ.ext (A ++ gsS (x :: out)) rm) (σ.store.length + A.length + out.length) ord (x :: out) (by rw [Nat.add_assoc, Sg.get_ext]; exact gsS_get) hC hol hl
  rw [Nat.add_assoc, Sg.set_ext, gsS_set] at h1
  have e : A ++ (List.replicate out.length none ++ [some (rowC ((sortSd ord (x :: out)).map sdPV))]) = A ++ gsS (sortSd ord (x :: out)) := by
   have hs := sortSd_len ord (x :: out)
   cases hc : sortSd ord (x :: out) with
   | nil => rw [hc] at hs; simp at hs
   | cons y s =>
    rw [hc] at hs
    simp only [List.length_cons] at hs
    simp only [gsS]
    rw [show out.length = s.length by omega]
  rw [e] at h1
  simp only [glS]
  rw [Nat.add_assoc]
  exact h1
theorem glS_sort (n : Nat) (ord : List Int) (out : List Stand) : glS n (sortSd ord out) = glS n out := by
 have hl := sortSd_len ord out
 cases h : sortSd ord out with
 | nil =>
  rw [h] at hl
  cases out with
  | nil => rfl
  | cons x out => simp at hl
 | cons y s =>
  rw [h] at hl
  cases out with
  | nil => simp at hl
  | cons x out => simp only [List.length_cons] at hl; simp only [glS]; rw [show s.length = out.length by omega]
def sdUp (s : Scale) (k : Kn) (g : Night) (i : Nat) : List Stand := (List.range i).map fun (j : Nat) => standK s k g j 0
theorem sdUp_succ (s : Scale) (k : Kn) (g : Night) (i : Nat) : sdUp s k g (i + 1) = sdUp s k g i ++ [standK s k g i 0] := by simp [sdUp, List.range_succ]
/-- The table as the program makes it. -/
def tblP (s : Scale) (k : Kn) (g : Night) : List Stand := sortSd s.order (sdUp s k g s.schools.toNat)
def tableP (s : Scale) (g : Night) : List Stand × Int :=
 if knownE s g ≠ 0 then ([], knownE s g) else if sealedK s (knownK s g) ≠ [] then ([], 11) else (tblP s (knownK s g) g, 0)
set_option maxHeartbeats 2000000 in
theorem tabE_pc (Y : YEnv) (σ : Sg) (s : Scale) (g : Night) (hs : s.Ok) (hg : g.Ok) (hE : knownE s g ≠ 0) :
 PC Tryz.prog Y 10 [scPV s, ngPV g] σ (.tuple [sds [], I (knownE s g)]) (σ) := by
 refine PC_of_W Tryz.func10 rfl (by kernel_rfl) Tryz.ntmps10 (by simp) fun hcl hca => ?_
 refine W_sr [2, 3, 4, 5] fun R hR => ?_
 simp only [go_sem]
 refine hR _ _ ?_; clear hR R
 try simp only [go_sem]
 refine W_sr [2, 3, 4, 5, 6, 7] fun R hR => ?_
 simp only [go_sem]
 refine GCall_of (knownOf_err Y _ s g hs hg hE) ?_
 simp only [go_sem]
 refine hR _ _ ?_; clear hR R
 try simp only [go_sem]
 refine W_seq fun Z3 K3 => ?_
 refine W_sr [2, 3, 4, 5, 6, 7, 18] fun R hR => ?_
 simp only [go_sem]
 refine hR _ _ ?_; clear hR R
 try simp only [go_sem]
 refine W_cond rfl (fun c1 => ?_) (fun c1 => ?_)
 ·
  try simp only [nrm] at c1
  refine W_sr [4, 5] fun R hR => ?_
  simp only [go_sem]
  refine hR _ _ ?_; clear hR R
  try simp only [go_sem]
  refine W_ret ?_
  simp only [go_sem]
  refine ⟨.inr (by trivial), ?_⟩
  refine Fin_same hcl (by show resPV Tryz.prog _ _ [.cell 4 47, .cell 5 48] = some _; simp only [resPV, go_sem]; rfl) (Wk.ro (by simp only [go_sem]) ?_)
  try simp only [go_sem]
  all_goals
   first | rfl | (simp [PV.ro, PV.roL]; done)
 try simp only [nrm] at c1
 exfalso
 first | exact hE (by omega) | (simp at c1; exact hE (by omega))
set_option maxHeartbeats 2000000 in
theorem tabS_pc (Y : YEnv) (σ : Sg) (s : Scale) (g : Night) (hs : s.Ok) (hg : g.Ok) (hE : knownE s g = 0) (hne0 : sealedK s (knownK s g) ≠ []) :
 PC Tryz.prog Y 10 [scPV s, ngPV g] σ (.tuple [sds [], I 11]) (σ) := by
 refine PC_of_W Tryz.func10 rfl (by kernel_rfl) Tryz.ntmps10 (by simp) fun hcl hca => ?_
 have hV := known_V hE
 obtain ⟨K, hK⟩ : ∃ z, knownK s g = z := ⟨_, rfl⟩
 rw [hK] at hV
 have hv := hV.v
 have q3 := hv.sc
 have q4 := hv.lo
 have q5 := hv.hi
 obtain ⟨N, hN⟩ : ∃ z : Nat, s.schools = z := ⟨s.schools.toNat, by omega⟩
 have hNi : (s.schools : Int) = (N : Int) := hN
 have hkn := fun Y σ => knownOf_ok Y σ s g hs hg hE
 rw [hK] at hkn
 have hne : sealedK s K ≠ [] := by rw [← hK]; exact hne0
 refine W_sr [2, 3, 4, 5] fun R hR => ?_
 simp only [go_sem]
 refine hR _ _ ?_; clear hR R
 try simp only [go_sem]
 refine W_sr [2, 3, 4, 5, 6, 7] fun R hR => ?_
 simp only [go_sem]
 refine GCall_of (hkn Y _) ?_
 simp only [go_sem]
 refine hR _ _ ?_; clear hR R
 try simp only [go_sem]
 refine W_seq fun Z3 K3 => ?_
 refine W_sr [2, 3, 4, 5, 6, 7, 18] fun R hR => ?_
 simp only [go_sem]
 refine hR _ _ ?_; clear hR R
 try simp only [go_sem]
 refine W_cond_false rfl ?_
 refine W_skip (K3 _ _ ?_)
 refine W_seq fun Z5 K5 => ?_
 refine W_sr [2, 3, 4, 5, 6, 22] fun R hR => ?_
 simp only [go_sem]
 refine GCall_of (sealed_pc Y _ (σ.store.length + 6) (by simp only [go_sem] <;> omega) s) ?_
 simp only [go_sem]
 refine hR _ _ ?_; clear hR R
 try simp only [go_sem]
 refine W_block ?_
 have hLc : ∀ (z : Int) (n r yy : Nat), σ.store.length + 9 ≤ n → CleanLs n r yy [some (scCells s), some (ngCells g), some [.isl [] .exact], some [I z], some (scCells s), some (ngCells g), some (.mark :: knE K), some [.map (σ.store.length + 6)], some (scCells s)] := fun z n r yy h => by
  have c1 := cleans_ng (a := n) (b := r) (c := yy) g
  have c2 := cleans_sc (a := n) (b := r) (c := yy) s
  have c3 : CleanAll n r yy (knE K) := cA_kn.mpr trivial
  have c1' : CleanAll n r yy (ngCells g) := c1
  have c2' : CleanAll n r yy (scCells s) := c2
  simp only [CleanLs_cons, CleanLs_nil, CleanAll_cons, CleanAll_nil, Cl_map, Cl_mark, Cl_isl, OwnLt_exact, Cl_int, c1', c2', c3, true_and, and_true]
  omega
 refine W_rangeFunc (gf := 39) (v := .tuple []) (s := .done .ret) (σ5 := σ.ext [some (scCells s), some (ngCells g), some [.isl [] .exact], some [I 11], some (scCells s), some (ngCells g), some (.mark :: knE K), some [.map (σ.store.length + 6)], some (scCells s)] [] [.done .ret]) rfl (by simp) (fun args ρ b' ρ' => ∃ m n : Nat, args = [.agg [I m, I n]] ∧ b' = false ∧ ρ = (σ.ext [some (scCells s), some (ngCells g), some [.isl [] .exact], some [I 0], some (scCells s), some (ngCells g), some (.mark :: knE K), some [.map (σ.store.length + 6)], some (scCells s)] [] [.ready]).ext [some [.yield σ.ys.length], some (scCells s), some [I m, I n]] [] [.busy] ∧ ρ' = (σ.ext [some (scCells s), some (ngCells g), some [.isl [] .exact], some [I 11], some (scCells s), some (ngCells g), some (.mark :: knE K), some [.map (σ.store.length + 6)], some (scCells s)] [] [.done .ret]).ext [some [.yield σ.ys.length], some (scCells s), some [I m, I n]] [] [.busy]) ?_ ?_ ?_ ?_ ?_
 ·rintro args τ b τ' ⟨m, n, rfl, rfl, rfl, rfl⟩
  refine ⟨rfl, ?_, ?_⟩
  ·simp only [go_sem]
  simp only [go_sem]
  refine W_skip ?_
  simp only [go_sem, putAll]
  skip
  refine W_post_weak ?_
  refine W_block ?_
  refine W_sr [4, 5] fun R hR => ?_
  simp only [go_sem, putAll]
  refine hR _ _ ?_; clear hR R
  try simp only [go_sem, putAll]
  refine W_ret ?_
  simp only [go_sem, putAll]
  refine ⟨[], _, Weak.keep [], ?_⟩
  simp only [RoundEnd, go_sem]
 ·have hst := sealedB_pc (Y.at σ.ys.length (fun args ρ b' ρ' => ∃ m n : Nat, args = [.agg [I m, I n]] ∧ b' = false ∧ ρ = (σ.ext [some (scCells s), some (ngCells g), some [.isl [] .exact], some [I 0], some (scCells s), some (ngCells g), some (.mark :: knE K), some [.map (σ.store.length + 6)], some (scCells s)] [] [.ready]).ext [some [.yield σ.ys.length], some (scCells s), some [I m, I n]] [] [.busy] ∧ ρ' = (σ.ext [some (scCells s), some (ngCells g), some [.isl [] .exact], some [I 11], some (scCells s), some (ngCells g), some (.mark :: knE K), some [.map (σ.store.length + 6)], some (scCells s)] [] [.done .ret]).ext [some [.yield σ.ys.length], some (scCells s), some [I m, I n]] [] [.busy])) σ σ.ys.length (σ.store.length + 8) (σ.store.length + 7) (σ.store.length + 6) s hv K (σ.ext [some (scCells s), some (ngCells g), some [.isl [] .exact], some [I 0], some (scCells s), some (ngCells g), some (.mark :: knE K), some [.map (σ.store.length + 6)], some (scCells s)] [] [.ready]) (σ.ext [some (scCells s), some (ngCells g), some [.isl [] .exact], some [I 11], some (scCells s), some (ngCells g), some (.mark :: knE K), some [.map (σ.store.length + 6)], some (scCells s)] [] [.done .ret])
   (Sg.get_ext ..) (Sg.get_ext ..) (Sg.get_ext ..) (by simp only [go_sem]) (by simp only [go_sem]) (by simp only [go_sem]) (fun _ => CleanSg_ext hcl (hLc 11 _ _ _ (by simp only [go_sem] <;> omega))) hne
   (fun m n _ => by rw [YEnv.at_self]; exact ⟨m, n, rfl, rfl, rfl, rfl⟩)
  simp only [go_sem] at hst ⊢
  exact hst
 ·simp only [go_sem]
 ·simp only [go_sem]
  exact CleanCut_ext hcl (by first | omega | (simp only [go_sem] <;> omega)) (by first | omega | (simp only [go_sem] <;> omega)) (Nat.le_refl _) (hLc 11 _ _ _ (by first | omega | (simp only [go_sem] <;> omega)))
 simp only [go_sem]
 simp only [AfterLoop]
 refine W_ret ?_
 simp only [go_sem]
 refine ⟨.inr (by trivial), ?_⟩
 refine Fin_same hcl (by show resPV Tryz.prog _ _ [.cell 4 47, .cell 5 48] = some _; simp only [resPV, go_sem]; rfl) (Wk.ro (by simp only [go_sem]) ?_)
 rfl
theorem notAhd_lex {ord : List Int} {a b : Stand} : ¬ Ahd ord b a ↔ lexlt (keyS ord a) (keyS ord b) ∨ keyS ord a = keyS ord b := by
 constructor
 ·intro h
  rcases lexlt_total (a := keyS ord a) (b := keyS ord b) (by rw [keyS_len, keyS_len]) with k | k | k
  ·exact .inl k
  ·exact .inr k
  exact absurd (Ahd_lex.2 k) h
 rintro (h | h) k
 ·exact lexlt_irrefl (lexlt_trans h (Ahd_lex.1 k))
 have := Ahd_lex.1 k
 rw [h] at this
 exact lexlt_irrefl this
theorem notAhd_trans {ord : List Int} {a b c : Stand} (h : ¬ Ahd ord b a) (k : ¬ Ahd ord c b) : ¬ Ahd ord c a := by
 rw [notAhd_lex] at *
 rcases h with h | h
 ·rcases k with k | k
  ·exact .inl (lexlt_trans h k)
  rw [← k]; exact .inl h
 rw [h]; exact k
theorem set2_perm {l : List Stand} {i j : Nat} {x y : Stand} (hx : l[i]? = some x) (hy : l[j]? = some y) : ((l.set i y).set j x).Perm l := by
 obtain ⟨h1, rfl⟩ := List.getElem?_eq_some_iff.1 hx
 obtain ⟨h2, rfl⟩ := List.getElem?_eq_some_iff.1 hy
 exact List.set_set_perm h1 h2
theorem sink_perm (ord : List Int) : ∀ (j : Nat) (l : List Stand), (sink ord j l).Perm l := by
 intro j
 induction j with
 | zero => intro l; exact .refl _
 | succ j ih =>
  intro l
  simp only [sink]
  split
  ·rename_i hx hy
   split
   ·exact (ih _).trans (set2_perm hx hy)
   exact .refl _
  exact .refl _
theorem sinkAll_perm (ord : List Int) : ∀ (k i : Nat) (l : List Stand), (sinkAll ord k i l).Perm l := by
 intro k
 induction k with
 | zero => intro i l; exact .refl _
 | succ k ih => intro i l; simp only [sinkAll]; exact (ih _ _).trans (sink_perm ord i l)
theorem sortSd_perm (ord : List Int) (l : List Stand) : (sortSd ord l).Perm l := sinkAll_perm _ _ _ _
/-- The first ones, up to a place, are sorted, but for one that may stand too far behind. -/
def SrtX (ord : List Int) (l : List Stand) (i j : Nat) : Prop := ∀ p q a b, p < q → q ≤ i → q ≠ j → l[p]? = some a → l[q]? = some b → ¬ Ahd ord b a
def Srt (ord : List Int) (l : List Stand) (i : Nat) : Prop := ∀ p q a b, p < q → q ≤ i → l[p]? = some a → l[q]? = some b → ¬ Ahd ord b a
theorem sink_srt (ord : List Int) (i : Nat) : ∀ (j : Nat) (l : List Stand), j ≤ i → i < l.length → SrtX ord l i j → Srt ord (sink ord j l) i := by
 intro j
 induction j with
 | zero => intro l _ _ h p q a b hpq hq; exact h p q a b hpq hq (by omega)
 | succ j ih =>
  intro l hj hl h
  obtain ⟨x, hx⟩ : ∃ x, l[j + 1]? = some x := ⟨l[j + 1]'(by omega), by simp⟩
  obtain ⟨y, hy⟩ : ∃ y, l[j]? = some y := ⟨l[j]'(by omega), by simp⟩
  simp only [sink, hx, hy]
  split
  ·rename_i hlt
   refine ih _ (by omega) (by simpa using hl) ?_
   have g : ∀ r, ((l.set (j + 1) y).set j x)[r]? = if r = j then some x else if r = j + 1 then some y else l[r]? := by
    intro r
    by_cases e : r = j
    ·subst e; rw [if_pos rfl, List.getElem?_set_self (by simp; omega)]
    rw [if_neg e, List.getElem?_set_ne (fun h => e h.symm)]
    by_cases e2 : r = j + 1
    ·subst e2; rw [if_pos rfl, List.getElem?_set_self (by omega)]
    rw [if_neg e2, List.getElem?_set_ne (fun h => e2 h.symm)]
   intro p q a b hpq hq hne ha hb
   rw [g] at ha hb
   rw [if_neg hne] at hb
   by_cases e1 : q = j + 1
   ·rw [if_pos e1] at hb
    cases hb
    by_cases e2 : p = j
    ·rw [if_pos e2] at ha
     cases ha
     exact Ahd.asymm hlt
    rw [if_neg e2, if_neg (by omega)] at ha
    exact h p j _ _ (by omega) (by omega) (by omega) ha hy
   rw [if_neg e1] at hb
   by_cases e2 : p = j
   ·rw [if_pos e2] at ha
    cases ha
    exact h (j + 1) q _ _ (by omega) hq (by omega) hx hb
   rw [if_neg e2] at ha
   by_cases e3 : p = j + 1
   ·rw [if_pos e3] at ha
    cases ha
    exact h j q _ _ (by omega) hq (by omega) hy hb
   rw [if_neg e3] at ha
   exact h p q a b hpq hq (by omega) ha hb
  rename_i hnlt
  intro p q a b hpq hq ha hb
  by_cases e : q = j + 1
  ·subst e
   rw [hx] at hb
   cases hb
   by_cases e2 : p = j
   ·subst e2
    rw [hy] at ha
    cases ha
    exact hnlt
   exact notAhd_trans (h p j a y (by omega) (by omega) (by omega) ha hy) hnlt
  exact h p q a b hpq hq e ha hb
theorem sinkAll_srt (ord : List Int) : ∀ (k i : Nat) (l : List Stand), 0 < i → i + k ≤ l.length → Srt ord l (i - 1) → Srt ord (sinkAll ord k i l) (i + k - 1) := by
 intro k
 induction k with
 | zero => intro i l _ _ h; exact h
 | succ k ih =>
  intro i l hi hl h
  simp only [sinkAll]
  have h1 := sink_srt ord i i l (Nat.le_refl _) (by omega) (fun p q a b hpq hq hne ha hb => h p q a b hpq (by omega) ha hb)
  have h2 := ih (i + 1) (sink ord i l) (by omega) (by rw [sink_len]; omega) (by rw [Nat.add_sub_cancel]; exact h1)
  rw [show i + (k + 1) - 1 = i + 1 + k - 1 by omega]
  exact h2
theorem sortSd_srt (ord : List Int) (l : List Stand) {p q : Nat} {a b : Stand} (hpq : p < q) (ha : (sortSd ord l)[p]? = some a) (hb : (sortSd ord l)[q]? = some b) : ¬ Ahd ord b a := by
 have hq := (List.getElem?_eq_some_iff.1 hb).1
 rw [sortSd_len] at hq
 have := sinkAll_srt ord (l.length - 1) 1 l (by omega) (by omega) (fun p q a b hpq hq => by omega)
 exact this p q a b hpq (by omega) ha hb
section
variable {s : Scale} {k : Kn} {g : Night} {N : Nat}
/-- The table of a night that is decided. -/
structure TabOk (s : Scale) (k : Kn) (g : Night) (N : Nat) (l : List Stand) : Prop where
 ln : l.length = N
 of : ∀ x, x ∈ l → ∃ c : Nat, c < N ∧ x = standK s k g c 0
 nd : (l.map Stand.school).Nodup
 st : ∀ (p q : Nat) (a b : Stand), p < q → l[p]? = some a → l[q]? = some b → Ahd s.order a b
 al : ∀ c : Nat, c < N → standK s k g c 0 ∈ l
theorem sd_map (f : Nat → Stand) (hf : ∀ i, (f i).school = i) (N : Nat) : (((List.range N).map f).map Stand.school).Nodup := by
 rw [List.map_map]
 have : (Stand.school ∘ f) = fun (i : Nat) => (i : Int) := by funext i; exact hf i
 rw [this]
 rw [List.nodup_iff_pairwise_ne, List.pairwise_map]
 exact (List.nodup_range (n := N)).imp fun h e => h (by omega)
theorem tbl_ok (hN : s.schools = N) : TabOk s k g N (tblP s k g) := by
 have hp := sortSd_perm s.order (sdUp s k g N)
 have e : tblP s k g = sortSd s.order (sdUp s k g N) := by unfold tblP; rw [hN, Int.toNat_natCast]
 rw [e]
 have hnd : ((sortSd s.order (sdUp s k g N)).map Stand.school).Nodup := (hp.map _).nodup_iff.2 (sd_map _ (fun i => rfl) N)
 refine ⟨by rw [sortSd_len]; simp [sdUp], fun x hx => ?_, hnd, fun p q a b hpq ha hb => ?_, fun c hc => hp.mem_iff.2 (List.mem_map.2 ⟨c, List.mem_range.2 hc, rfl⟩)⟩
 ·obtain ⟨c, h1, rfl⟩ := List.mem_map.1 (hp.mem_iff.1 hx)
  exact ⟨c, List.mem_range.1 h1, rfl⟩
 refine not_ahd (fun e => ?_) (sortSd_srt _ _ hpq ha hb)
 obtain ⟨h1, h2⟩ := List.getElem?_eq_some_iff.1 ha
 obtain ⟨h3, h4⟩ := List.getElem?_eq_some_iff.1 hb
 have := (List.pairwise_iff_getElem.1 (List.nodup_iff_pairwise_ne.1 hnd)) p q (by simpa using h1) (by simpa using h3) hpq
 simp only [List.getElem_map] at this
 rw [h2, h4] at this
 exact this e.symm
end
theorem sumI_perm {a b : List Int} (h : a.Perm b) : sumI a = sumI b := by
 induction h with
 | nil => rfl
 | cons x _ ih => simp only [sumI, ih]
 | swap x y l => simp only [sumI]; omega
 | trans _ _ h1 h2 => rw [h1, h2]
/-- What a judge gives to a school, and what all give. -/
def gives (c : Nat) (p : Int × List Int) : Int := (p.2[c]?).getD 0
def totJ (ps : List (Int × List Int)) (c : Nat) : Int := sumI (ps.map (gives c))
def nightT (s : Scale) (ps : List (Int × List Int)) : Night := ⟨ps.map fun p => sealedE s 0 p.1 p.2, [], []⟩
structure OneS (s : Scale) : Prop where
 c : chkSc s = 0
 mt : s.matters = 1
 dr : s.drop = 0
 od : s.order = [0]
structure AllC (s : Scale) (ps : List (Int × List Int)) : Prop where
 pf : (ps.map (·.1)).Perm (toI s.judges)
 ml : ∀ p, p ∈ ps → (p.2.length : Int) = s.schools ∧ ∀ x, x ∈ p.2 → s.low ≤ x ∧ x ≤ s.high
theorem toI_nodup (n : Int) : (toI n).Nodup := by
 unfold toI
 rw [List.nodup_iff_pairwise_ne, List.pairwise_map]
 exact (List.nodup_range (n := n.toNat)).imp fun h e => h (by omega)
section
variable {s : Scale} {ps : List (Int × List Int)}
theorem nightT_jd : (nightT s ps).opened.map jdE = ps.map fun p => (0, p.1) := by
 simp [nightT, jdE, sealedE]
theorem nightT_v (hs : OneS s) (ha : AllC s ps) : NightV s (nightT s ps) := by
 have hv := Scale.v hs.c
 have hj := hv.jd
 have hlen : ps.length = s.judges.toNat := by
  have := ha.pf.length_eq
  simpa [toI] using this
 have hmem : ∀ p, p ∈ ps → 0 ≤ p.1 ∧ p.1 < s.judges := fun p hp => by
  have := (ha.pf.mem_iff (a := p.1)).1 (List.mem_map.2 ⟨p, hp, rfl⟩)
  exact mem_toI'.1 this
 have hnd : ((nightT s ps).opened.map jdE).Nodup := by
  rw [nightT_jd]
  have h1 : (ps.map (·.1)).Nodup := ha.pf.nodup_iff.2 (toI_nodup _)
  rw [List.nodup_iff_pairwise_ne, List.pairwise_map] at h1 ⊢
  exact h1.imp fun h e => h (by injection e)
 refine ⟨hs.c, by simp [nightT]; omega, fun x hx => ?_, sameE_of_nodup hnd, by simp [nightT], fun j hj => by simp [nightT] at hj, fun m m0 m1 => ⟨0, ⟨by omega, by omega⟩, by simp [nightT]⟩, rfl⟩
 obtain ⟨p, hp, rfl⟩ := List.mem_map.1 hx
 have h1 := hmem p hp
 exact sealed_good hs.c (ofSc_true.2 ⟨⟨by simp, by have := hs.mt; simp only; omega⟩, by simp only; omega, by simp only; omega⟩) (ha.ml p hp)
theorem nightT_get (hs : OneS s) (ha : AllC s ps) {p : Int × List Int} (hp : p ∈ ps) : aget (0, p.1) (knownK s (nightT s ps)) = some p.2 := by
 have hv := nightT_v hs ha
 rw [hv.get]
 unfold kOf
 have := findE_mem hv.cs (x := sealedE s 0 p.1 p.2) (List.mem_map.2 ⟨p, hp, rfl⟩)
 rw [show jdE (sealedE s 0 p.1 p.2) = (0, p.1) from rfl] at this
 rw [this]
 rfl
theorem nightT_at (ha : AllC s ps) {n : Int} (h : 0 ≤ n ∧ n < s.judges) : ∃ p, p ∈ ps ∧ p.1 = n := by
 have := (ha.pf.mem_iff (a := n)).2 (mem_toI'.2 h)
 obtain ⟨p, hp, e⟩ := List.mem_map.1 this
 exact ⟨p, hp, e⟩
theorem nightT_open (hs : OneS s) (ha : AllC s ps) : sealedK s (knownK s (nightT s ps)) = [] := by
 unfold sealedK
 rw [List.filter_eq_nil_iff]
 intro j hj
 unfold allJ at hj
 simp only [List.mem_flatMap, List.mem_map] at hj
 obtain ⟨m, hm, n, hn, rfl⟩ := hj
 have h1 := mem_toI'.1 hm
 have h2 := mem_toI'.1 hn
 obtain ⟨p, hp, rfl⟩ := nightT_at ha h2
 have hm0 : m = 0 := by have := hs.mt; omega
 subst hm0
 rw [nightT_get hs ha hp]
 simp
theorem nightT_pts (hs : OneS s) (ha : AllC s ps) (c : Nat) : pointsK s (knownK s (nightT s ps)) (c : Int) 0 0 = totJ ps c := by
 have hv := Scale.v hs.c
 have hsc := hv.sc
 unfold pointsK
 rw [hs.dr]
 simp only [Int.toNat_zero, List.drop_zero]
 rw [show sumI (sortI (panelM s (knownK s (nightT s ps)) (c : Int) 0 0)) = sumI (panelM s (knownK s (nightT s ps)) (c : Int) 0 0) by rw [sortI_isort]; exact sumI_perm (isortZ_perm _)]
 obtain ⟨f, hf⟩ : ∃ f : Int → Int, f = fun n => if absentK (knownK s (nightT s ps)) (0, n) then meanM s (knownK s (nightT s ps)) c 0 0 else mkAt (knownK s (nightT s ps)) c 0 0 n := ⟨_, rfl⟩
 have e : panelM s (knownK s (nightT s ps)) (c : Int) 0 0 = (toI s.judges).map f := by rw [hf]; rfl
 rw [e, ← sumI_perm (ha.pf.map f), List.map_map]
 unfold totJ
 congr 1
 refine List.map_congr_left fun p hp => ?_
 have hg := nightT_get hs ha hp
 have hl := (ha.ml p hp).1
 obtain ⟨x, r, hxr⟩ : ∃ x r, p.2 = x :: r := by
  match h : p.2 with
  | [] => rw [h] at hl; simp at hl; omega
  | x :: r => exact ⟨x, r, rfl⟩
 rw [hf]
 simp only [Function.comp]
 unfold absentK mkAt gives
 rw [hg, hxr]
 simp
theorem nightT_stand (hs : OneS s) (ha : AllC s ps) (c : Nat) : standK s (knownK s (nightT s ps)) (nightT s ps) (c : Int) 0 = ⟨c, totJ ps c, [totJ ps c]⟩ := by
 unfold standK pointsL
 rw [hs.mt]
 have e : toI 1 = [0] := rfl
 rw [e]
 simp only [List.map_cons, List.map_nil, nightT_pts hs ha]
 simp [sumI, finesOf, nightT]
theorem ahd_one {a b : Stand} {x y : Int} (ha : a.total = x ∧ a.points = [x]) (hb : b.total = y ∧ b.points = [y]) : Ahd [0] a b ↔ y < x ∨ (x = y ∧ a.school < b.school) := by
 unfold Ahd cmpSt cmpRules ptAt
 rw [ha.1, ha.2, hb.1, hb.2]
 simp only [List.map_cons, List.map_nil, List.cons_append, List.nil_append, firstNZ]
 simp
 repeat' split
 all_goals omega
/-- The table: who stands first, and the totals of all. -/
theorem tableJ (hs : OneS s) (ha : AllC s ps) : ∃ T : List Stand, tableP s (nightT s ps) = (T, 0) ∧ (T.length : Int) = s.schools ∧
 (∀ (i : Nat) (x : Stand), T[i]? = some x → ∃ c : Nat, (c : Int) < s.schools ∧ x.school = (c : Int) ∧ x.total = totJ ps c) ∧
 ∀ x, T[0]? = some x → ∀ c : Nat, (c : Int) < s.schools → x.school ≠ (c : Int) → totJ ps c < x.total ∨ (totJ ps c = x.total ∧ x.school < (c : Int)) := by
 have hv := Scale.v hs.c
 have hsc := hv.sc
 obtain ⟨N, hN⟩ : ∃ z : Nat, s.schools = z := ⟨s.schools.toNat, by omega⟩
 have hk : knownE s (nightT s ps) = 0 := nightV_iff.2 (nightT_v hs ha)
 have ht := tbl_ok (k := knownK s (nightT s ps)) (g := nightT s ps) hN
 refine ⟨tblP s (knownK s (nightT s ps)) (nightT s ps), ?_, by rw [ht.ln, hN], fun i x hx => ?_, fun x hx c hc hne => ?_⟩
 ·unfold tableP
  rw [if_neg (by simp [hk]), if_neg (by simp [nightT_open hs ha])]
 ·obtain ⟨c, hc, rfl⟩ := ht.of x (List.mem_of_getElem? hx)
  rw [nightT_stand hs ha]
  exact ⟨c, by omega, rfl, rfl⟩
 obtain ⟨c0, hc0, e⟩ := ht.of x (List.mem_of_getElem? hx)
 have hm := ht.al c (by omega)
 obtain ⟨q, hq⟩ := List.getElem?_of_mem hm
 have hq0 : 0 < q := by
  rcases Nat.eq_zero_or_pos q with h | h
  ·subst h
   rw [hx] at hq
   injection hq with hq
   rw [hq, nightT_stand hs ha] at hne
   exact absurd rfl hne
  exact h
 have := ht.st 0 q x _ hq0 hx hq
 rw [hs.od, e, nightT_stand hs ha, nightT_stand hs ha] at this
 rw [e, nightT_stand hs ha]
 have := (ahd_one ⟨rfl, rfl⟩ ⟨rfl, rfl⟩).1 this
 simp only at this ⊢
 omega
end
end Go.Proofs.YtpkkegbiddcodaaGreat.Mk
namespace Go.Proofs.YtpkkegbiddcodaaGreat
open Go Go.RowKit
/-- Some operations, then what is known is weakened, then the rest. -/
def GLw (P : Program) (Y : YEnv) (N : Nat) (lo : Nat × Nat) (ops : Array Oper) : Nat → List Oper → Env → Sg → (Env → Sg → Prop) → Prop
 | 0, os, E, σ, K => ∃ E' σ', Weak N lo E σ E' σ' ∧ GL P Y N ops os E' σ' K
 | _ + 1, [], _, _, _ => False
 | n + 1, o :: os, E, σ, K => GL P Y N ops [o] E σ (fun E' σ' => GLw P Y N lo ops n os E' σ' K)
theorem GLw_ok {D : List Nat} {P : Program} {Y : YEnv} {N : Nat} {rd : Option Nat} {lo : Nat × Nat} {ops : Array Oper} {K : Env → Sg → Prop} {Ψ0 : Ty} {Q : Exit → Act → World → Prop} (hbd : Bnd Ψ0 lo) :
 ∀ (n : Nat) (os : List Oper) (is : List Nat), (∀ n : Nat, os[n]? = (is[n]?).bind fun i => ops[i]?) → os.length = is.length → ∀ (E : Env) (σ : Sg) (Ψ : Ty) (a : Act) (w : World), Ψ0.le Ψ → Rel N D Ψ E σ a w → YOK P Y Ψ0 →
 GLw P Y N lo ops n os E σ K → (∀ E' σ' Ψ' a' w', Ψ0.le Ψ' → Rel N D Ψ' E' σ' a' w' → Below Ψ0.base w w' → K E' σ' → Q .normal a' w') → wpOpsIn (FnOf Ψ0 rd) 0 P ops Q is a w := by
 intro n
 induction n with
 | zero =>
  intro os is his hl E σ Ψ a w le hr hy hg hk
  obtain ⟨E', σ', hw, hg⟩ := hg
  obtain ⟨Ψ', le', hr'⟩ := hw Ψ0 Ψ D a w hbd le hr
  exact GL_ok os is his hl E' σ' Ψ' a w le' hr' hy hg hk
 | succ n ihn =>
  intro os is his hl E σ Ψ a w le hr hy hg hk
  cases os with
  | nil => exact hg.elim
  | cons o os =>
  cases is with
  | nil => simp at hl
  | cons i is =>
   have h0 := his 0
   simp only [List.getElem?_cons_zero, Option.bind_some] at h0
   have his' : ∀ n : Nat, os[n]? = (is[n]?).bind fun i => ops[i]? := fun n => by simpa using his (n + 1)
   have hl' : os.length = is.length := by simpa using hl
   simp only [GLw, GL] at hg
   obtain ⟨hd, hg⟩ := hg
   simp only [wpOpsIn, ← h0]
   have fin : ∀ {v : PV} {σ' : Sg} {x : Value} {w' : World} {Ψ' : Ty}, Ψ.le Ψ' → SR Ψ' σ' w' → VR Ψ' v x → Below Ψ.base w w' → GLw P Y N lo ops n os (E.put o.dst v) σ' K → wpOpsIn (FnOf Ψ0 rd) 0 P ops Q is (a.put o.dst x) w' := by
    intro v σ' x w' Ψ' le' hs' hv hb hg'
    exact ihn os is his' hl' _ σ' Ψ' _ w' (le.trans le') (hr.put le' hs' hd hv) hy hg' fun E2 σ2 Ψ2 a2 w2 l2 r2 b2 k2 => hk E2 σ2 Ψ2 a2 w2 l2 r2 (Below.trans (by rw [← le.base]; exact hb) b2) k2
   cases hw : wantedPV ops E o with
   | none => rw [hw] at hg; exact (hg : False).elim
   | some b =>
    rw [hw] at hg
    rw [wanted_ok hw hr.env]
    cases b with
    | false =>
     rw [GWant_false] at hg
     simp only [Bool.false_eq_true, if_false]
     exact ⟨fun f _ => FnOf_fn _ _ _, fin (Ty.le.refl _) hr.sg (skipped_ok _) (Below.refl _ _) hg⟩
    | true =>
     simp only [if_true]
     refine ⟨fun f _ => FnOf_fn _ _ _, ?_⟩
     cases hwh : whom E o.op with
     | nobody =>
      rw [GWant_true, hwh, GWho_nobody] at hg
      cases heff : effOp P σ E o.op with
      | none => rw [heff] at hg; exact (hg : False).elim
      | some r =>
       obtain ⟨v, σ'⟩ := r
       rw [heff, GOpt_some] at hg
       obtain ⟨nx, x, w', Ψ', k1, k2, k3, k4, k5, k6⟩ := effOp_ok heff hr.sg hr.env
       rw [Oper.semAt_eq _ _ _ (effOp_not_defer heff), k1]
       rcases k2 with rfl | ⟨rfl, rfl⟩
       ·exact fin k3 k4 k5 k6 hg
       exact fin k3 k4 k5 k6 hg
     | fn f args =>
      rw [GWant_true, hwh, GWho_fn] at hg
      obtain ⟨v, σ', hpc, hg⟩ := hg
      obtain ⟨hnd, vals, k1, k2⟩ := whom_fn hwh hr.env hpc.1 w
      rw [Oper.semAt_eq _ _ _ hnd, k1]
      refine ⟨fun h => (by rw [FnOf_depth] at h; cases h), ?_⟩
      refine CallsIn.mono (callsIn_FnOf (hpc.2 Ψ vals w hr.sg k2 (hy.mono le))) fun e w' hh => ?_
      obtain ⟨x, Ψ', rfl, l1, l2, l3, l4⟩ := hh
      exact fin l1 l2 l3 l4 hg
     | yield y args =>
      rw [GWant_true, hwh, GWho_yield] at hg
      obtain ⟨b, σ', hargs, hg⟩ := hg
      obtain ⟨hnd, vals, l, d, hl1, k2, hrun⟩ := whom_yield hwh hr.env
      obtain ⟨l', r0, hl2, hround⟩ := (hy.mono le).2 y args σ b σ' hargs
      rw [hl1] at hl2
      injection hl2 with hl2
      injection hl2 with hl2 _
      subst hl2
      obtain ⟨r, q1, q2, q3⟩ := hround Ψ vals w (Ty.le.refl _) hr.sg k2
      rw [Oper.semAt_eq _ _ _ hnd, hrun P w r q1 q2]
      refine ⟨fun h => (by rw [FnOf_depth] at h; cases h), ?_⟩
      refine RoundIn.mono (roundIn_FnOf q3) fun e w' hh => ?_
      obtain ⟨Ψ', rfl, l1, l2, l4⟩ := hh
      exact fin l1 l2 (.bool b) l4 hg
theorem W_regionN {P : Program} {Y : YEnv} {N : Nat} {rd : Option Nat} {lo : Nat × Nat} {id : Nat} {ops : Array Oper} {E : Env} {σ : Sg} {Q : Exit → Env → Sg → Prop} (ks : List Nat) (n : Nat)
 (h : ∀ K : Env → Sg → Prop, (∀ E' σ', Q .normal (keep ks E') σ' → K E' σ') → GLw P Y N lo ops n ops.toList E σ K) : W P Y N rd lo (.region id ops false) E σ Q := by
 intro Ψ0 D hb hy _ Ψ a w le hr
 refine wpIn_region ?_
 refine GLw_ok (K := fun E' σ' => Q .normal (keep ks E') σ') hb n ops.toList (List.range ops.size) ?_ (by simp) E σ Ψ a w le hr hy (h _ fun _ _ k => k) ?_
 ·intro n
  simp only [Array.getElem?_toList]
  by_cases hn : n < ops.size
  ·simp [hn]
  simp [hn]
 intro E' σ' Ψ' a' w' le' hr' hb hq
 exact ⟨_, σ', Ψ', le', hr'.keep ks, hb, hq⟩
theorem Weak.gone {N : Nat} {lo : Nat × Nat} {E : Env} {σ : Sg} (id : Nat) : Weak N lo E σ E (σ.drop id) := fun _ Ψ _ _ _ _ le hr =>
 ⟨Ψ, le, hr.size, hr.env, hr.sg.dropVar id, hr.dsub, hr.defs⟩
theorem Weak.goneX {N : Nat} {lo : Nat × Nat} {E : Env} {σ : Sg} {l : List (Option (List PV))} {rm : List Nat} {ys : List LState} (j : Nat) : Weak N lo E (σ.ext l rm ys) E (σ.ext (l.set j none) rm ys) := by
 have h := Weak.gone (N := N) (lo := lo) (E := E) (σ := σ.ext l rm ys) (σ.store.length + j)
 rw [Sg.drop_ext] at h
 exact h
section
variable {P : Program} {Y : YEnv} {N : Nat} {rd : Option Nat} {lo : Nat × Nat} {ops : Array Oper} {E : Env} {σ : Sg}
theorem next_step {D : List Nat} {K : Env → Sg → Prop} {Ψ0 : Ty} {Q : Exit → Act → World → Prop} {o : Oper} {os : List Oper} {it : Operand} (hop : o.op = .next it false) (hg : o.guard = none) (hd : dstOK N o = true)
 {id mid : Nat} {seen : List Nat} {es : List PV} (hi : iterAt σ (ev E it) = some (id, mid, seen, es)) (is : List Nat) (his : ∀ n : Nat, (o :: os)[n]? = (is[n]?).bind fun i => ops[i]?) (hl : (o :: os).length = is.length)
 (Ψ : Ty) (a : Act) (w : World) (le : Ψ0.le Ψ) (hr : Rel N D Ψ E σ a w) (hy : YOK P Y Ψ0)
 (h0 : (∀ j, j < es.length → j ∈ seen) → GL P Y N ops os (E.put o.dst (.tuple [.bool false])) σ K)
 (h1 : ∀ j k u, es[j]? = some (.tuple [k, u]) → j ∉ seen → GL P Y N ops os (E.put o.dst (.tuple [.bool true, k, u])) (σ.setVar id [.itst mid es.length (seen ++ [j])]) K)
 (hk : ∀ E' σ' Ψ' a' w', Ψ0.le Ψ' → Rel N D Ψ' E' σ' a' w' → Below Ψ0.base w w' → K E' σ' → Q .normal a' w') : wpOpsIn (FnOf Ψ0 rd) 0 P ops Q is a w := by
 cases is with
 | nil => simp at hl
 | cons i is =>
  have e0 := his 0
  simp only [List.getElem?_cons_zero, Option.bind_some] at e0
  have his' : ∀ n : Nat, os[n]? = (is[n]?).bind fun i => ops[i]? := fun n => by simpa using his (n + 1)
  have hl' : os.length = is.length := by simpa using hl
  simp only [wpOpsIn, ← e0]
  have hw : wantedPV ops E o = some true := by unfold wantedPV; rw [hg]
  rw [wanted_ok hw hr.env]
  simp only [if_true]
  refine ⟨fun f _ => FnOf_fn _ _ _, ?_⟩
  have fin : ∀ {v : PV} {σ' : Sg} {x : Value} {w' : World} {Ψ' : Ty}, Ψ.le Ψ' → SR Ψ' σ' w' → VR Ψ' v x → Below Ψ.base w w' → GL P Y N ops os (E.put o.dst v) σ' K → wpOpsIn (FnOf Ψ0 rd) 0 P ops Q is (a.put o.dst x) w' := by
   intro v σ' x w' Ψ' le' hs' hv hb hg'
   exact GL_ok os is his' hl' _ σ' Ψ' _ w' (le.trans le') (hr.put le' hs' hd hv) hy hg' fun E2 σ2 Ψ2 a2 w2 l2 r2 b2 k2 => hk E2 σ2 Ψ2 a2 w2 l2 r2 (Below.trans (by rw [← le.base]; exact hb) b2) k2
  have hex : ∀ {v : PV} {σ' : Sg}, Did P (Instr.next (a.eval it) false o.type) Ψ w v σ' → ∃ x w' Ψ', (execOp a.eval o).run P w = .ok (.value x) w' ∧ Ψ.le Ψ' ∧ SR Ψ' σ' w' ∧ VR Ψ' v x ∧ Below Ψ.base w w' := by
   intro v σ' h
   obtain ⟨x, w', Ψ', k1, k2, k3, k4, k5⟩ := h
   refine ⟨x, w', Ψ', ?_, k2, k3, k4, k5⟩
   unfold execOp
   rw [hop]
   simp only
   rw [run_bind_ok k1]
   rfl
  have hnd : ∀ c, o.op ≠ .defer c := fun c e => by rw [hop] at e; cases e
  rcases next_ok (P := P) hr.sg hi (ev_ok hr.env it) o.type with ⟨q1, q2⟩ | ⟨j, k, u, q1, q2, q3⟩
  ·obtain ⟨x, w', Ψ', k1, k2, k3, k4, k5⟩ := hex q2
   rw [Oper.semAt_eq _ _ _ hnd, k1]
   exact fin k2 k3 k4 k5 (h0 q1)
  obtain ⟨x, w', Ψ', k1, k2, k3, k4, k5⟩ := hex q3
  rw [Oper.semAt_eq _ _ _ hnd, k1]
  exact fin k2 k3 k4 k5 (h1 j k u q1 q2)
theorem W_next {rid : Nat} {Q : Exit → Env → Sg → Prop} (ks : List Nat) {o : Oper} {os : List Oper} {it : Operand} (hops : ops.toList = o :: os) (hop : o.op = .next it false) (hg : o.guard = none) (hd : dstOK N o = true)
 {id mid : Nat} {seen : List Nat} {es : List PV} (hi : iterAt σ (ev E it) = some (id, mid, seen, es))
 (h0 : ∀ K : Env → Sg → Prop, (∀ E' σ', Q .normal (keep ks E') σ' → K E' σ') → (∀ j, j < es.length → j ∈ seen) → GL P Y N ops os (E.put o.dst (.tuple [.bool false])) σ K)
 (h1 : ∀ K : Env → Sg → Prop, (∀ E' σ', Q .normal (keep ks E') σ' → K E' σ') → ∀ j k u, es[j]? = some (.tuple [k, u]) → j ∉ seen → GL P Y N ops os (E.put o.dst (.tuple [.bool true, k, u])) (σ.setVar id [.itst mid es.length (seen ++ [j])]) K) :
 W P Y N rd lo (.region rid ops false) E σ Q := by
 intro Ψ0 D hb hy _ Ψ a w le hr
 refine wpIn_region ?_
 refine next_step (K := fun E' σ' => Q .normal (keep ks E') σ') (os := os) hop hg hd hi (List.range ops.size) ?_ (by rw [← hops]; simp) Ψ a w le hr hy (h0 _ fun _ _ k => k) (h1 _ fun _ _ k => k) ?_
 ·intro n
  rw [← hops]
  simp only [Array.getElem?_toList]
  by_cases hn : n < ops.size
  ·simp [hn]
  simp [hn]
 intro E' σ' Ψ' a' w' le' hr' hb hq
 exact ⟨_, σ', Ψ', le', hr'.keep ks, hb, hq⟩
end
end Go.Proofs.YtpkkegbiddcodaaGreat
namespace Go.Proofs.YtpkkegbiddcodaaGreat.So
open Go Go.RowKit
structure Rnd where
 keep : Int
 jury : Int
 member : Int
 deriving DecidableEq
structure Contest where
 songs : Int
 juries : Int
 members : Int
 most : Int
 rounds : List Rnd
 deriving DecidableEq
structure Ballot where
 serial : Int
 round : Int
 kind : Int
 voter : Int
 song : Int
 points : Int
 deriving DecidableEq
structure Res where
 songs : List Int
 points : List Int
 votes : List Int
 scores : List Int
 kept : List Int
 deriving DecidableEq
/-- A song with its points, votes and score. -/
structure Std where
 song : Int
 points : Int
 votes : Int
 score : Int
 deriving DecidableEq
abbrev intsO (o : Own) (xs : List Int) : PV := .isl (xs.map I) o
def rdCells (r : Rnd) : List PV := [I r.keep, I r.jury, I r.member]
def rdPV (r : Rnd) : PV := .agg (rdCells r)
abbrev rds (l : List Rnd) : PV := .isl (l.map rdPV) .ro
def cnCells (c : Contest) : List PV := [I c.songs, I c.juries, I c.members, I c.most, rds c.rounds]
def cnPV (c : Contest) : PV := .agg (cnCells c)
def blCells (b : Ballot) : List PV := [I b.serial, I b.round, I b.kind, I b.voter, I b.song, I b.points]
def blPV (b : Ballot) : PV := .agg (blCells b)
abbrev bls (l : List Ballot) : PV := .isl (l.map blPV) .ro
def rsCells (r : Res) : List PV := [ints r.songs, ints r.points, ints r.votes, ints r.scores, ints r.kept]
def rsPV (r : Res) : PV := .agg (rsCells r)
abbrev rss (l : List Res) : PV := .isl (l.map rsPV) .ro
def sdCells (x : Std) : List PV := [I x.song, I x.points, I x.votes, I x.score]
def sdPV (x : Std) : PV := .agg (sdCells x)
abbrev sds (l : List Std) : PV := .isl (l.map sdPV) .ro
def llPV (xs : List Int) : PV := ints xs
abbrev lls (l : List (List Int)) : PV := .isl (l.map llPV) .ro
section
variable {α : Type} {f : α → PV} {xs : List α} {i : Nat} {x : α} {c k off : Nat}
theorem iaX_map (h : xs[i]? = some x) (hc : (f x).cells.length = c) : iaX c (xs.map f) (i : Int) = some (.eptr c (xs.map f) i 0) := by
 have hlt : i < xs.length := (List.getElem?_eq_some_iff.1 h).1
 have hx : xs[i] = x := (List.getElem?_eq_some_iff.1 h).2
 unfold iaX
 rw [if_pos ⟨Int.natCast_nonneg _, by simpa using hlt⟩]
 simp [hlt, hx, hc]
theorem elS_map (h : xs[i]? = some x) : elS (xs.map f) i off = (f x).cells[off]? := by simp [elS, h]
theorem elA_map (h : xs[i]? = some x) : elA k (xs.map f) i off = if off + k ≤ (f x).cells.length then some (.agg (((f x).cells.drop off).take k)) else none := by simp [elA, h]
end
theorem noTok {b : Nat} : ∀ r n es, Own.ro = .tok r n es → r < b := fun r n es e => by cases e
theorem clean_ints {a b c : Nat} (xs : List Int) : Clean a b c (ints xs) := Clean.ints xs .ro noTok
theorem clean_ll {a b c : Nat} (xs : List Int) : Clean a b c (llPV xs) := Clean.ints xs .ro noTok
theorem cleans_rd {a b c : Nat} (r : Rnd) : ∀ p, p ∈ rdCells r → Clean a b c p := Clean.all_cons (.int _ _) (Clean.all_cons (.int _ _) (Clean.all_cons (.int _ _) Clean.all_nil))
theorem clean_rd {a b c : Nat} (r : Rnd) : Clean a b c (rdPV r) := .agg _ (cleans_rd r)
theorem cleans_bl {a b c : Nat} (x : Ballot) : ∀ p, p ∈ blCells x → Clean a b c p :=
 Clean.all_cons (.int _ _) (Clean.all_cons (.int _ _) (Clean.all_cons (.int _ _) (Clean.all_cons (.int _ _) (Clean.all_cons (.int _ _) (Clean.all_cons (.int _ _) Clean.all_nil)))))
theorem clean_bl {a b c : Nat} (x : Ballot) : Clean a b c (blPV x) := .agg _ (cleans_bl x)
theorem cleans_rs {a b c : Nat} (x : Res) : ∀ p, p ∈ rsCells x → Clean a b c p :=
 Clean.all_cons (clean_ints _) (Clean.all_cons (clean_ints _) (Clean.all_cons (clean_ints _) (Clean.all_cons (clean_ints _) (Clean.all_cons (clean_ints _) Clean.all_nil))))
theorem clean_rs {a b c : Nat} (x : Res) : Clean a b c (rsPV x) := .agg _ (cleans_rs x)
theorem cleans_sd {a b c : Nat} (x : Std) : ∀ p, p ∈ sdCells x → Clean a b c p :=
 Clean.all_cons (.int _ _) (Clean.all_cons (.int _ _) (Clean.all_cons (.int _ _) (Clean.all_cons (.int _ _) Clean.all_nil)))
theorem clean_sd {a b c : Nat} (x : Std) : Clean a b c (sdPV x) := .agg _ (cleans_sd x)
def inR (n lo hi : Int) : Bool := decide (lo ≤ n) && decide (n ≤ hi)
def allIn (lo hi : Int) (l : List Int) : Bool := l.all fun n => inR n lo hi
theorem okC_rd {xs : List Rnd} : okC 3 (xs.map rdPV) = True := okC_map fun x => by simp [okC, rdPV, rdCells, PV.cells, PV.scalar]
theorem okC_bl {xs : List Ballot} : okC 6 (xs.map blPV) = True := okC_map fun x => by simp [okC, blPV, blCells, PV.cells, PV.scalar]
theorem okC_rs {xs : List Res} : okC 5 (xs.map rsPV) = True := okC_map fun x => by simp [okC, rsPV, rsCells, PV.cells, PV.scalar]
theorem okC_sd {xs : List Std} : okC 4 (xs.map sdPV) = True := okC_map fun x => by simp [okC, sdPV, sdCells, PV.cells, PV.scalar]
theorem okC_ll {xs : List (List Int)} : okC 1 (xs.map llPV) = True := okC_map fun x => by simp [okC, llPV, PV.cells, PV.scalar]
theorem roL_rd {xs : List Rnd} : PV.roL (xs.map rdPV) = xs.map rdPV := roL_enc fun x => by simp only [rdPV, rdCells, ro_agg, roL_cons, roL_nil, ro_int]
theorem roL_bl {xs : List Ballot} : PV.roL (xs.map blPV) = xs.map blPV := roL_enc fun x => by simp only [blPV, blCells, ro_agg, roL_cons, roL_nil, ro_int]
theorem roL_rs {xs : List Res} : PV.roL (xs.map rsPV) = xs.map rsPV := roL_enc fun x => by simp only [rsPV, rsCells, ro_agg, roL_cons, roL_nil, ro_isl, roL_ints]
theorem roL_sd {xs : List Std} : PV.roL (xs.map sdPV) = xs.map sdPV := roL_enc fun x => by simp only [sdPV, sdCells, ro_agg, roL_cons, roL_nil, ro_int]
theorem roL_ll {xs : List (List Int)} : PV.roL (xs.map llPV) = xs.map llPV := roL_enc fun x => by simp only [llPV, ro_isl, roL_ints]
theorem cA_rd {a b c : Nat} {xs : List Rnd} : CleanAll a b c (xs.map rdPV) = True := CleanAll_map clean_rd
theorem cA_bl {a b c : Nat} {xs : List Ballot} : CleanAll a b c (xs.map blPV) = True := CleanAll_map clean_bl
theorem cA_rs {a b c : Nat} {xs : List Res} : CleanAll a b c (xs.map rsPV) = True := CleanAll_map clean_rs
theorem cA_sd {a b c : Nat} {xs : List Std} : CleanAll a b c (xs.map sdPV) = True := CleanAll_map clean_sd
theorem cA_ll {a b c : Nat} {xs : List (List Int)} : CleanAll a b c (xs.map llPV) = True := CleanAll_map clean_ll
attribute [go_sem] okC_rd okC_bl okC_rs okC_sd okC_ll roL_rd roL_bl roL_rs roL_sd roL_ll cA_rd cA_bl cA_rs cA_sd cA_ll rdPV rdCells cnPV cnCells blPV blCells rsPV rsCells sdPV sdCells
theorem mixed : Tryz.prog.follows .mixedOrders = true := by kernel_rfl
def has (l : List Int) (v : Int) : Bool := l.any fun x => decide (x = v)
theorem has_iff {l : List Int} {v : Int} : has l v = true ↔ v ∈ l := by simp [has]
/-- Who votes once. -/
abbrev Voice := Int × Int × Int
def vcPV (v : Voice) : PV := .agg [I v.1, I v.2.1, I v.2.2]
theorem clean_vc {a b c : Nat} (v : Voice) : Clean a b c (vcPV v) := .agg _ (Clean.all_cons (.int _ _) (Clean.all_cons (.int _ _) (Clean.all_cons (.int _ _) Clean.all_nil)))
theorem keyInt : KeyOK Tryz.prog 3 I := fun a b => by
 simp only [I, keyEq, if_true]
 congr 1
theorem intsEq3 {a b c d e f : Int} : intsEq [.int .i64 a, .int .i64 b, .int .i64 c] [.int .i64 d, .int .i64 e, .int .i64 f] = some ((a == d) && ((b == e) && ((c == f) && true))) := rfl
theorem eqF158 {a b c d e f : Int} : eqFieldsPV Tryz.prog [.int .i64 a, .int .i64 b, .int .i64 c] [.int .i64 d, .int .i64 e, .int .i64 f] (Tryz.prog.fieldsOf 158).toList = some ((a == d) && ((b == e) && ((c == f) && true))) := by kernel_rfl
theorem keyVc : KeyOK Tryz.prog 158 vcPV := fun x y => by
 obtain ⟨a, b, c⟩ := x
 obtain ⟨d, e, f⟩ := y
 have hf : ∃ fs, Tryz.prog.underlying 158 = some (.struct fs) := ⟨_, Tryz.underlying158⟩
 obtain ⟨fs, hf⟩ := hf
 have e1 : Tryz.prog.fieldsOf 158 = fs := by simp [Program.fieldsOf, hf]
 have := eqF158 (a := a) (b := b) (c := c) (d := d) (e := e) (f := f)
 rw [e1] at this
 simp only [vcPV, I, keyEq, hf, intsEq3, this]
 rw [if_pos ⟨by kernel_rfl, trivial⟩]
 refine congrArg some ?_
 rw [Bool.and_true, Bool.eq_iff_iff]
 simp [Prod.ext_iff]
theorem lk86 {σ : Sg} {id : Nat} {a b c : Int} {ok : Bool} : lookupPV Tryz.prog σ 86 (.map id) (.agg [.int .i64 a, .int .i64 b, .int .i64 c]) ok = lkX Tryz.prog 158 (I 0) σ id (.agg [.int .i64 a, .int .i64 b, .int .i64 c]) ok := lk_of Tryz.underlying86 Tryz.underlying158 (by kernel_rfl) (by kernel_rfl) σ id ok
theorem up86 {σ : Sg} {id : Nat} {a b c : Int} {v : PV} : updatePV Tryz.prog σ 86 (.map id) (.agg [.int .i64 a, .int .i64 b, .int .i64 c]) v = upX Tryz.prog 158 σ id (.agg [.int .i64 a, .int .i64 b, .int .i64 c]) v := up_of Tryz.underlying86 Tryz.underlying158 (by kernel_rfl) v σ id
theorem lkV {m : List (Voice × Int)} {a b c : Int} {ok : Bool} : lkM Tryz.prog 158 (I 0) (some (some (.mark :: mapE vcPV I m))) (.agg [.int .i64 a, .int .i64 b, .int .i64 c]) ok = some (packPV ok (I ((aget (a, b, c) m).getD 0)) (aget (a, b, c) m).isSome) := by
 have := lkM_map (z := I 0) keyVc I m (a, b, c) ok
 simp only [vcPV, I] at this ⊢
 rw [this]
 cases aget (a, b, c) m <;> rfl
theorem upV {m : List (Voice × Int)} {a b c v : Int} : upM Tryz.prog 158 (some (some (.mark :: mapE vcPV I m))) (.agg [.int .i64 a, .int .i64 b, .int .i64 c]) (.int .i64 v) = some (.mark :: mapE vcPV I (aput (a, b, c) v m)) := upM_map keyVc I m (a, b, c) v
theorem CleanAll_mapV {a b c : Nat} {l : List (Voice × Int)} : CleanAll a b c (mapE vcPV I l) = True := CleanAll_mapE clean_vc (fun _ => .int _ _)
theorem lk116 {σ : Sg} {id : Nat} {k : Int} {ok : Bool} : lookupPV Tryz.prog σ 116 (.map id) (.int .i64 k) ok = lkX Tryz.prog 3 (.bool false) σ id (.int .i64 k) ok := lk_of Tryz.underlying116 Tryz.underlying3 (by kernel_rfl) rfl σ id ok
theorem up116 {σ : Sg} {id : Nat} {k : Int} {v : PV} : updatePV Tryz.prog σ 116 (.map id) (.int .i64 k) v = upX Tryz.prog 3 σ id (.int .i64 k) v := up_of Tryz.underlying116 Tryz.underlying3 rfl v σ id
theorem lkB {m : List (Int × Bool)} {k : Int} {ok : Bool} : lkM Tryz.prog 3 (.bool false) (some (some (.mark :: mapE I PV.bool m))) (.int .i64 k) ok = some (packPV ok (.bool ((aget k m).getD false)) (aget k m).isSome) := by
 have := lkM_map (z := .bool false) keyInt PV.bool m k ok
 simp only [I] at this ⊢
 rw [this]
 cases aget k m <;> rfl
theorem upB {m : List (Int × Bool)} {k : Int} {v : Bool} : upM Tryz.prog 3 (some (some (.mark :: mapE I PV.bool m))) (.int .i64 k) (.bool v) = some (.mark :: mapE I PV.bool (aput k v m)) := upM_map keyInt PV.bool m k v
theorem CleanAll_mapB {a b c : Nat} {l : List (Int × Bool)} : CleanAll a b c (mapE I PV.bool l) = True := CleanAll_mapE (fun _ => .int _ _) (fun _ => .bool _)
theorem packT {v : PV} {b : Bool} : packPV true v b = .tuple [v, .bool b] := rfl
theorem packF {v : PV} {b : Bool} : packPV false v b = v := rfl
theorem evN_tmp {E : Env} {t : Nat} : evN E (.tmp t) = E.get t := rfl
theorem evN_int {E : Env} {k : IntKind} {n : Int} : evN E (.const (.int k n)) = .int k n := rfl
theorem evN_bool {E : Env} {b : Bool} : evN E (.const (.bool b)) = .bool b := rfl
theorem evN_nil {E : Env} : evN E (.const (.slice none 0 0)) = .nilsl := rfl
theorem sll22 {xs : List Int} {own : Own} {k : IntKind} {n : Int} : slicePV Tryz.prog 22 (.isl (xs.map I) own) (some (.int k n)) none none = if 0 ≤ n then if n.toNat ≤ xs.length then some (.isl ((xs.drop n.toNat).map I) own) else none else none := slLo_of Tryz.underlying22 Tryz.underlying3 cells3 (fun _ => rfl) xs own k n
theorem slb22 {xs : List Int} {own : Own} {k k' : IntKind} {n m : Int} : slicePV Tryz.prog 22 (.isl (xs.map I) own) (some (.int k n)) (some (.int k' m)) none = if 0 ≤ n then if 0 ≤ m then if n.toNat ≤ m.toNat ∧ m.toNat ≤ xs.length then some (.isl (((xs.drop n.toNat).take (m.toNat - n.toNat)).map I) (sliceOwn own n.toNat m.toNat xs.length)) else none else none else none := slBoth_of Tryz.underlying22 Tryz.underlying3 cells3 (fun _ => rfl) xs own k k' n m
attribute [go_sem] sll22 slb22 lk86 up86 lkV upV CleanAll_mapV lk116 up116 lkB upB CleanAll_mapB packT packF evN_tmp evN_int evN_bool evN_nil lkX_ext lkX_ext0 upX_ext upX_ext0 lkX_svx Cl_map Cl_nilmap Cl_mark Cl_gsl Cl_gnil setI setB
set_option maxRecDepth 100000
theorem inR_true {n lo hi : Int} : inR n lo hi = true ↔ lo ≤ n ∧ n ≤ hi := by simp [inR]
theorem allIn_nil {lo hi : Int} : allIn lo hi [] = true := rfl
theorem allIn_cons {lo hi x : Int} {l : List Int} : allIn lo hi (x :: l) = (inR x lo hi && allIn lo hi l) := rfl
/-- The first place of a number, or -1. -/
def fIdx {α : Type} (q : α → Bool) : Nat → List α → Int
 | _, [] => -1
 | i, x :: l => if q x then (i : Int) else fIdx q (i + 1) l
theorem fIdx_anyi {α : Type} (q : α → Bool) : ∀ (l : List α) (i : Nat), decide (0 ≤ fIdx q i l) = l.any q := by
 intro l
 induction l with
 | nil => intro i; simp [fIdx]
 | cons x l ih =>
  intro i
  by_cases h : q x = true
  ·have e : fIdx q i (x :: l) = (i : Int) := by simp only [fIdx]; rw [if_pos h]
   rw [e]; simp [h]
  have e : fIdx q i (x :: l) = fIdx q (i + 1) l := by simp only [fIdx]; rw [if_neg h]
  rw [e, ih (i + 1), List.any_cons]
  have h' : q x = false := by simpa using h
  rw [h', Bool.false_or]
theorem has_comm (l : List Int) (v : Int) : (l.any fun x => decide (v = x)) = has l v := by
 unfold has
 congr 1
 funext x
 rw [Bool.eq_iff_iff]
 simp [eq_comm]
theorem fIdx_any {α : Type} (q : α → Bool) (l : List α) : decide (0 ≤ fIdx q 0 l) = l.any q := fIdx_anyi q l 0
set_option maxHeartbeats 2000000 in
theorem in_pc (Y : YEnv) (σ : Sg) (lw hg : Int) (l : List Int) (o : Own) (hl : l.length < 2 ^ 62) :
 PC Tryz.prog Y 47 [I lw, I hg, intsO o l] σ (.bool (allIn lw hg l)) (σ) := by
 refine PC_of_W Tryz.func47 rfl (by kernel_rfl) Tryz.ntmps47 (by simp) fun hcl hca => ?_
 obtain ⟨res, hres⟩ : ∃ r, allIn lw hg l = r := ⟨_, rfl⟩
 rw [hres]
 refine W_sr [0, 1, 2] fun R hR => ?_
 simp only [go_sem]
 refine hR _ _ ?_; clear hR R
 try simp only [go_sem]
 refine W_seq fun Z2 K2 => ?_
 refine W_sr [0, 1, 9, 10, 11] fun R hR => ?_
 simp only [go_sem]
 refine hR _ _ ?_; clear hR R
 try simp only [go_sem]
 refine W_block ?_
 refine W_loopS (α := Nat) (fun (i : Nat) => [(11, I i)]) (fun (i : Nat) => i ≤ l.length ∧ res = allIn lw hg (l.drop i)) (fun (i : Nat) => l.length - i) (0) rfl (⟨Nat.zero_le _, hres.symm⟩) ?_
 rintro i ⟨hi, hinv⟩
 refine W_sr [0, 1, 9, 10, 11, 12] fun R hR => ?_
 simp only [go_sem]
 refine hR _ _ ?_; clear hR R
 try simp only [go_sem]
 refine W_seq fun Z5 K5 => ?_
 refine W_cond rfl (fun c1 => ?_) (fun c1 => ?_)
 ·
  try simp only [nrm] at c1
  have hi' : i < l.length := by first | assumption | omega
  obtain ⟨x, hx⟩ : ∃ x, l[i]? = some x := ⟨l[i], by simp [hi']⟩
  have hdrop : l.drop i = x :: l.drop (i + 1) := by
   rw [List.drop_eq_getElem_cons hi']; congr 1; exact (List.getElem?_eq_some_iff.1 hx).2
  rw [hdrop, allIn_cons] at hinv
  refine W_skip (K5 _ _ ?_)
  refine W_seq fun Z6 K6 => ?_
  refine W_block ?_
  refine W_sr [0, 1, 8, 9, 10, 11] fun R hR => ?_
  simp only [go_sem, hx]
  refine hR _ _ ?_; clear hR R
  try simp only [go_sem, hx]
  refine W_seq fun Z8 K8 => ?_
  refine W_regionJ [0, 1, 9, 10, 11, 22] [(22, .bool (!inR x lw hg))] ?_ fun R hR => ?_
  ·refine K8 _ _ ?_
   simp only [go_sem, hx]
   refine W_cond rfl (fun c2 => ?_) (fun c2 => ?_)
   ·
    try simp only [nrm] at c2
    refine W_sr [6] fun R hR => ?_
    simp only [go_sem, hx]
    refine hR _ _ ?_; clear hR R
    try simp only [go_sem, hx]
    refine W_ret ?_
    simp only [go_sem, hx]
    refine ⟨.inr (by trivial), ?_⟩
    first | refine Fsa hcl rfl ?_ | refine Fse hcl rfl ?_
    try simp only [go_sem]
    all_goals
     rw [hinv]; have c3 : inR x lw hg = false := by simpa using c2
     rw [c3, Bool.false_and]
   try simp only [nrm] at c2
   refine W_skip (K6 _ _ ?_)
   refine W_region [0, 1, 9, 10, 11] fun R hR => ?_
   simp only [go_sem, hx]
   try simp (disch := omega) only [wrapI, wrapU]
   refine hR _ _ ?_; clear hR R
   try simp only [go_sem, hx]
   refine ⟨i + 1, ?_, by (try simp only []); omega, ?_⟩
   ·first | exact Weak.refl | exact Wqq
   try dsimp only
   refine ⟨hi', ?_⟩
   rw [hinv]
   have c3 : inR x lw hg = true := by simpa using c2
   rw [c3, Bool.true_and]
  simp only [go_sem, hx]
  refine GWant_split (fun g1 => ?_) (fun g1 => ?_)
  ·try simp only [Bool.not_eq_true', Bool.not_eq_false'] at g1
   have n1 := g1; try simp only [nrm] at n1
   simp only [go_sem, hx, g1]
   refine hR _ ?_
   all_goals try simp only [go_sem, hx]
   all_goals
    first | rfl | (simp [inR, *]; done) | (congr 1; have hb : decide (hg < x) = !inR x lw hg := (by rw [Bool.eq_iff_iff]; simp [inR]; omega); simp [hb]; done) | (have hb : decide (hg < x) = !inR x lw hg := (by rw [Bool.eq_iff_iff]; simp [inR]; omega); simp only [hb]; first | done | rfl)
  try simp only [Bool.not_eq_true', Bool.not_eq_false'] at g1
  have n1 := g1; try simp only [nrm] at n1
  simp only [go_sem, hx, g1]
  refine hR _ ?_
  all_goals try simp only [go_sem, hx]
  all_goals
   first | rfl | (simp [inR, *]; done) | (congr 1; have hb : decide (hg < x) = !inR x lw hg := (by rw [Bool.eq_iff_iff]; simp [inR]; omega); simp [hb]; done) | (have hb : decide (hg < x) = !inR x lw hg := (by rw [Bool.eq_iff_iff]; simp [inR]; omega); simp only [hb]; first | done | rfl)
 try simp only [nrm] at c1
 have hdrop : l.drop i = [] := List.drop_eq_nil_of_le (by omega)
 rw [hdrop, allIn_nil] at hinv
 refine W_exit ?_
 simp only [go_sem]
 refine K2 _ _ ?_
 refine W_sr [6] fun R hR => ?_
 simp only [go_sem]
 refine hR _ _ ?_; clear hR R
 try simp only [go_sem]
 refine W_ret ?_
 simp only [go_sem]
 refine ⟨.inr (by trivial), ?_⟩
 first | refine Fsa hcl rfl ?_ | refine Fse hcl rfl ?_
 try simp only [go_sem]
 all_goals
  rw [hinv]
set_option maxHeartbeats 2000000 in
theorem index_pc (Y : YEnv) (σ : Sg) (l : List Int) (o : Own) (v : Int) (hl : l.length < 2 ^ 62) :
 PC Tryz.prog Y 90 [intsO o l, I v] σ (I (fIdx (fun x => decide (v = x)) 0 l)) (σ) := by
 refine PC_of_W Tryz.func90 rfl (by kernel_rfl) Tryz.ntmps90 (by simp) fun hcl hca => ?_
 refine W_sr [0, 1] fun R hR => ?_
 simp only [go_sem]
 refine hR _ _ ?_; clear hR R
 try simp only [go_sem]
 refine W_seq fun Z2 K2 => ?_
 refine W_sr [0, 1, 7, 8] fun R hR => ?_
 simp only [go_sem]
 refine hR _ _ ?_; clear hR R
 try simp only [go_sem]
 refine W_block ?_
 refine W_loopS (α := Nat) (fun (i : Nat) => [(8, I i)]) (fun (i : Nat) => i ≤ l.length ∧ fIdx (fun x => decide (v = x)) i (l.drop i) = fIdx (fun x => decide (v = x)) 0 l) (fun (i : Nat) => l.length - i) (0) rfl (⟨Nat.zero_le _, rfl⟩) ?_
 rintro i ⟨hi, hinv⟩
 refine W_sr [0, 1, 7, 8, 9] fun R hR => ?_
 simp only [go_sem]
 refine hR _ _ ?_; clear hR R
 try simp only [go_sem]
 refine W_seq fun Z5 K5 => ?_
 refine W_cond rfl (fun c1 => ?_) (fun c1 => ?_)
 ·
  try simp only [nrm] at c1
  have hi' : i < l.length := by first | assumption | omega
  obtain ⟨x, hx⟩ : ∃ x, l[i]? = some x := ⟨l[i], by simp [hi']⟩
  have hdrop : l.drop i = x :: l.drop (i + 1) := by
   rw [List.drop_eq_getElem_cons hi']; congr 1; exact (List.getElem?_eq_some_iff.1 hx).2
  rw [hdrop] at hinv
  simp only [fIdx] at hinv
  refine W_skip (K5 _ _ ?_)
  refine W_seq fun Z6 K6 => ?_
  refine W_block ?_
  refine W_sr [0, 1, 5, 7, 8] fun R hR => ?_
  simp only [go_sem, hx]
  refine hR _ _ ?_; clear hR R
  try simp only [go_sem, hx]
  refine W_sr [0, 1, 5, 7, 8, 16] fun R hR => ?_
  simp only [go_sem, hx]
  refine hR _ _ ?_; clear hR R
  try simp only [go_sem, hx]
  refine W_cond rfl (fun c2 => ?_) (fun c2 => ?_)
  ·
   try simp only [nrm] at c2
   refine W_sr [4] fun R hR => ?_
   simp only [go_sem, hx]
   refine hR _ _ ?_; clear hR R
   try simp only [go_sem, hx]
   refine W_ret ?_
   simp only [go_sem, hx]
   refine ⟨.inr (by trivial), ?_⟩
   first | refine Fsa hcl rfl ?_ | refine Fse hcl rfl ?_
   try simp only [go_sem]
   all_goals
    first | rfl | (simp_all; done) | (simp_all; omega)
  try simp only [nrm] at c2
  refine W_skip (K6 _ _ ?_)
  refine W_region [0, 1, 7, 8] fun R hR => ?_
  simp only [go_sem, hx]
  try simp (disch := omega) only [wrapI, wrapU]
  refine hR _ _ ?_; clear hR R
  try simp only [go_sem, hx]
  refine ⟨i + 1, ?_, by (try simp only []); omega, ?_⟩
  ·first | exact Weak.refl | exact Wqq
  try dsimp only
  exact ⟨hi', by simp_all⟩
 try simp only [nrm] at c1
 have hdrop : l.drop i = [] := List.drop_eq_nil_of_le (by omega)
 rw [hdrop] at hinv
 simp only [fIdx] at hinv
 refine W_exit ?_
 simp only [go_sem]
 refine K2 _ _ ?_
 refine W_sr [4] fun R hR => ?_
 simp only [go_sem]
 refine hR _ _ ?_; clear hR R
 try simp only [go_sem]
 refine W_ret ?_
 simp only [go_sem]
 refine ⟨.inr (by trivial), ?_⟩
 first | refine Fsa hcl rfl ?_ | refine Fse hcl rfl ?_
 try simp only [go_sem]
 all_goals
  first | rfl | (simp_all; done) | (simp_all; omega)
set_option maxHeartbeats 2000000 in
theorem contains_pc (Y : YEnv) (σ : Sg) (l : List Int) (o : Own) (v : Int) (hl : l.length < 2 ^ 62) :
 PC Tryz.prog Y 60 [intsO o l, I v] σ (.bool (has l v)) (σ) := by
 refine PC_of_W Tryz.func60 rfl (by kernel_rfl) Tryz.ntmps60 (by simp) fun hcl hca => ?_
 refine W_sr [0, 1] fun R hR => ?_
 simp only [go_sem]
 refine hR _ _ ?_; clear hR R
 try simp only [go_sem]
 refine W_sr [4] fun R hR => ?_
 simp only [go_sem]
 refine GCall_of (index_pc Y _ l o v hl) ?_
 simp only [go_sem]
 refine hR _ _ ?_; clear hR R
 try simp only [go_sem]
 refine W_ret ?_
 simp only [go_sem]
 refine ⟨.inr (by trivial), ?_⟩
 first | refine Fsa hcl rfl ?_ | refine Fse hcl rfl ?_
 try simp only [go_sem]
 all_goals
  simp only [fIdx_any, has_comm, go_sem]
def chkRd (s : Int) (r : Rnd) : Bool := allIn 0 1000 [r.jury, r.member] && allIn 1 s [r.keep]
def chkRds : Int → List Rnd → Int
 | s, [] => if s = 1 then 0 else 1
 | s, r :: l => if !(chkRd s r) then 2 else chkRds r.keep l
def chkCn0 (c : Contest) : Bool := allIn 1 8 [c.songs] && allIn 0 8 [c.juries] && allIn 0 1000 [c.members] && allIn 0 100 [c.most]
/-- The error of a contest. -/
def chkCn (c : Contest) : Int := if !(chkCn0 c) then 2 else if c.rounds.length = 0 then 4 else if (c.rounds.length : Int) > 4 then 5 else chkRds c.songs c.rounds
set_option maxHeartbeats 4000000 in
theorem Check_pc (Y : YEnv) (σ : Sg) (c : Contest) (hr : c.rounds.length < 2 ^ 40) :
 PC Tryz.prog Y 46 [cnPV c] σ (I (chkCn c)) (σ) := by
 refine PC_of_W Tryz.func46 rfl (by kernel_rfl) Tryz.ntmps46 (by simp) fun hcl hca => ?_
 obtain ⟨res, hres⟩ : ∃ r, chkCn c = r := ⟨_, rfl⟩
 rw [hres]
 refine W_sr [1] fun R hR => ?_
 simp only [go_sem, cnCells]
 refine hR _ _ ?_; clear hR R
 try simp only [go_sem, cnCells]
 refine W_seq fun Z2 K2 => ?_
 refine W_block ?_
 refine W_seq fun Z3 K3 => ?_
 refine W_sr [1, 6] fun R hR => ?_
 simp only [go_sem, cnCells]
 refine GCall_of (in_pc Y _ 1 8 [c.songs] .exact (by simp)) ?_
 simp only [go_sem, cnCells]
 refine hR _ _ ?_; clear hR R
 try simp only [go_sem, cnCells]
 refine W_cond rfl (fun c1 => ?_) (fun c1 => ?_)
 ·
  try simp only [nrm] at c1
  refine W_skip (K3 _ _ ?_)
  refine W_cond_true (by first | rfl | (simp only [go_sem]; simp [c1])) ?_
  refine W_sr [2] fun R hR => ?_
  simp only [go_sem, cnCells]
  refine hR _ _ ?_; clear hR R
  try simp only [go_sem, cnCells]
  refine W_ret ?_
  simp only [go_sem, cnCells]
  refine ⟨.inr (by trivial), ?_⟩
  first | refine Fsa hcl rfl ?_ | refine Fse hcl rfl ?_
  try simp only [go_sem]
  all_goals
   first | rfl | (simp_all; done) | (simp_all; omega) | (rw [← hres]; simp only [chkCn, chkCn0]; (repeat' split) <;> ((first | rfl | omega | (simp_all; done) | (simp_all; omega))))
 try simp only [nrm] at c1
 refine W_sr [1, 6] fun R hR => ?_
 simp only [go_sem, cnCells]
 refine GCall_of (in_pc Y _ 0 8 [c.juries] .exact (by simp)) ?_
 simp only [go_sem, cnCells]
 refine hR _ _ ?_; clear hR R
 try simp only [go_sem, cnCells]
 refine W_cond rfl (fun c2 => ?_) (fun c2 => ?_)
 ·
  try simp only [nrm] at c2
  refine W_skip (K3 _ _ ?_)
  refine W_cond_true (by first | rfl | (simp only [go_sem]; simp [c2])) ?_
  refine W_sr [2] fun R hR => ?_
  simp only [go_sem, cnCells]
  refine hR _ _ ?_; clear hR R
  try simp only [go_sem, cnCells]
  refine W_ret ?_
  simp only [go_sem, cnCells]
  refine ⟨.inr (by trivial), ?_⟩
  first | refine Fsa hcl rfl ?_ | refine Fse hcl rfl ?_
  try simp only [go_sem]
  all_goals
   first | rfl | (simp_all; done) | (simp_all; omega) | (rw [← hres]; simp only [chkCn, chkCn0]; (repeat' split) <;> ((first | rfl | omega | (simp_all; done) | (simp_all; omega))))
 try simp only [nrm] at c2
 refine W_sr [1, 6] fun R hR => ?_
 simp only [go_sem, cnCells]
 refine GCall_of (in_pc Y _ 0 1000 [c.members] .exact (by simp)) ?_
 simp only [go_sem, cnCells]
 refine hR _ _ ?_; clear hR R
 try simp only [go_sem, cnCells]
 refine W_cond rfl (fun c3 => ?_) (fun c3 => ?_)
 ·
  try simp only [nrm] at c3
  refine W_skip (K3 _ _ ?_)
  refine W_cond_true (by first | rfl | (simp only [go_sem]; simp [c3])) ?_
  refine W_sr [2] fun R hR => ?_
  simp only [go_sem, cnCells]
  refine hR _ _ ?_; clear hR R
  try simp only [go_sem, cnCells]
  refine W_ret ?_
  simp only [go_sem, cnCells]
  refine ⟨.inr (by trivial), ?_⟩
  first | refine Fsa hcl rfl ?_ | refine Fse hcl rfl ?_
  try simp only [go_sem]
  all_goals
   first | rfl | (simp_all; done) | (simp_all; omega) | (rw [← hres]; simp only [chkCn, chkCn0]; (repeat' split) <;> ((first | rfl | omega | (simp_all; done) | (simp_all; omega))))
 try simp only [nrm] at c3
 refine W_region [1, 6] fun R hR => ?_
 simp only [go_sem, cnCells]
 refine GCall_of (in_pc Y _ 0 100 [c.most] .exact (by simp)) ?_
 simp only [go_sem, cnCells]
 refine hR _ _ (K3 _ _ ?_); clear hR R; try clear K3 Z3
 try simp only [go_sem, cnCells]
 refine W_cond rfl (fun c4 => ?_) (fun c4 => ?_)
 ·
  try simp only [nrm] at c4
  refine W_sr [2] fun R hR => ?_
  simp only [go_sem, cnCells]
  refine hR _ _ ?_; clear hR R
  try simp only [go_sem, cnCells]
  refine W_ret ?_
  simp only [go_sem, cnCells]
  refine ⟨.inr (by trivial), ?_⟩
  first | refine Fsa hcl rfl ?_ | refine Fse hcl rfl ?_
  try simp only [go_sem]
  all_goals
   first | rfl | (simp_all; done) | (simp_all; omega) | (rw [← hres]; simp only [chkCn, chkCn0]; (repeat' split) <;> ((first | rfl | omega | (simp_all; done) | (simp_all; omega))))
 try simp only [nrm] at c4
 refine W_sr [1, 27] fun R hR => ?_
 simp only [go_sem, cnCells]
 refine hR _ _ ?_; clear hR R
 try simp only [go_sem, cnCells]
 refine W_cond rfl (fun c5 => ?_) (fun c5 => ?_)
 ·
  try simp only [nrm] at c5
  refine W_sr [2] fun R hR => ?_
  simp only [go_sem, cnCells]
  refine hR _ _ ?_; clear hR R
  try simp only [go_sem, cnCells]
  refine W_ret ?_
  simp only [go_sem, cnCells]
  refine ⟨.inr (by trivial), ?_⟩
  first | refine Fsa hcl rfl ?_ | refine Fse hcl rfl ?_
  try simp only [go_sem]
  all_goals
   first | rfl | (simp_all; done) | (simp_all; omega) | (rw [← hres]; simp only [chkCn, chkCn0]; (repeat' split) <;> ((first | rfl | omega | (simp_all; done) | (simp_all; omega))))
 try simp only [nrm] at c5
 refine W_sr [1, 32] fun R hR => ?_
 simp only [go_sem, cnCells]
 refine hR _ _ ?_; clear hR R
 try simp only [go_sem, cnCells]
 refine W_cond rfl (fun c6 => ?_) (fun c6 => ?_)
 ·
  try simp only [nrm] at c6
  refine W_sr [2] fun R hR => ?_
  simp only [go_sem, cnCells]
  refine hR _ _ ?_; clear hR R
  try simp only [go_sem, cnCells]
  refine W_ret ?_
  simp only [go_sem, cnCells]
  refine ⟨.inr (by trivial), ?_⟩
  first | refine Fsa hcl rfl ?_ | refine Fse hcl rfl ?_
  try simp only [go_sem]
  all_goals
   first | rfl | (simp_all; done) | (simp_all; omega) | (rw [← hres]; simp only [chkCn, chkCn0]; (repeat' split) <;> ((first | rfl | omega | (simp_all; done) | (simp_all; omega))))
 try simp only [nrm] at c6
 refine W_skip (K2 _ _ ?_)
 refine W_sr [1, 3] fun R hR => ?_
 simp only [go_sem, cnCells]
 refine hR _ _ ?_; clear hR R
 try simp only [go_sem, cnCells]
 refine W_seq fun Z16 K16 => ?_
 refine W_sr [3, 40, 41, 42] fun R hR => ?_
 simp only [go_sem, cnCells]
 refine hR _ _ ?_; clear hR R
 try simp only [go_sem, cnCells]
 refine W_block ?_
 refine W_loopT (α := Nat × Int) (fun ⟨i, s⟩ => [(3, I s), (42, I i)]) (fun ⟨i, s⟩ => σ.ext [some (cnCells c)] []) (fun ⟨i, s⟩ => i ≤ c.rounds.length ∧ chkRds c.songs c.rounds = chkRds s (c.rounds.drop i)) (fun ⟨i, s⟩ => c.rounds.length - i) ((0, c.songs)) rfl (by first | rfl | (simp only [go_sem]; done) | (simp only [go_sem]; rfl)) (⟨Nat.zero_le _, rfl⟩) ?_
 rintro ⟨i, s⟩ ⟨hi, hinv⟩
 refine W_sr [3, 40, 41, 42, 43] fun R hR => ?_
 simp only [go_sem, cnCells]
 refine hR _ _ ?_; clear hR R
 try simp only [go_sem, cnCells]
 refine W_seq fun Z19 K19 => ?_
 refine W_cond rfl (fun c7 => ?_) (fun c7 => ?_)
 ·
  try simp only [nrm] at c7
  have hi' : i < c.rounds.length := by first | assumption | omega
  obtain ⟨r, hx⟩ : ∃ r, c.rounds[i]? = some r := ⟨c.rounds[i], by simp [hi']⟩
  have hdrop : c.rounds.drop i = r :: c.rounds.drop (i + 1) := by
   rw [List.drop_eq_getElem_cons hi']; congr 1; exact (List.getElem?_eq_some_iff.1 hx).2
  rw [hdrop] at hinv
  simp only [chkRds] at hinv
  refine W_skip (K19 _ _ ?_)
  refine W_seq fun Z20 K20 => ?_
  refine W_block ?_
  refine W_sr [3, 5, 40, 41, 42] fun R hR => ?_
  simp only [go_sem, cnCells, hx, rdCells, rdPV, List.getElem?_map]
  refine hR _ _ ?_; clear hR R
  try simp only [go_sem, cnCells, hx, rdCells, rdPV, List.getElem?_map]
  refine W_seq fun Z22 K22 => ?_
  refine W_seq fun Z23 K23 => ?_
  refine W_regionJ [5, 40, 41, 42, 60] [(60, .bool (!chkRd s r))] ?_ fun R hR => ?_
  ·refine K23 _ _ ?_
   simp only [go_sem, cnCells, hx, rdCells, rdPV, List.getElem?_map]
   refine W_cond rfl (fun c8 => ?_) (fun c8 => ?_)
   ·
    try simp only [nrm] at c8
    refine W_sr [2] fun R hR => ?_
    simp only [go_sem, cnCells, hx, rdCells, rdPV, List.getElem?_map]
    refine hR _ _ ?_; clear hR R
    try simp only [go_sem, cnCells, hx, rdCells, rdPV, List.getElem?_map]
    refine W_ret ?_
    simp only [go_sem, cnCells, hx, rdCells, rdPV, List.getElem?_map]
    refine ⟨.inr (by trivial), ?_⟩
    first | refine Fsa hcl rfl ?_ | refine Fse hcl rfl ?_
    try simp only [go_sem]
    all_goals
     first | rfl | (simp_all; done) | (simp_all; omega) | (rw [← hres]; simp only [chkCn, chkCn0]; (repeat' split) <;> ((first | rfl | omega | (simp_all; done) | (simp_all; omega))))
   try simp only [nrm] at c8
   refine W_skip (K22 _ _ ?_)
   refine W_region [3, 40, 41, 42] fun R hR => ?_
   simp only [go_sem, cnCells, hx, rdCells, rdPV, List.getElem?_map]
   refine hR _ _ (K20 _ _ ?_); clear hR R; try clear K20 Z20
   try simp only [go_sem, cnCells, hx, rdCells, rdPV, List.getElem?_map]
   refine W_region [3, 40, 41, 42] fun R hR => ?_
   simp only [go_sem, cnCells, hx, rdCells, rdPV, List.getElem?_map]
   try simp (disch := omega) only [wrapI, wrapU]
   refine hR _ _ ?_; clear hR R
   try simp only [go_sem, cnCells, hx, rdCells, rdPV, List.getElem?_map]
   refine ⟨(i + 1, r.keep), ?_, by (try simp only []); omega, ?_⟩
   ·refine Weak.trans (Weak.cutX 1 0 (by omega) (by omega) hcl (by simp only [go_sem] <;> omega) (by simp only [go_sem] <;> omega)) ?_
    simp only [go_sem]
    exact Weak.eq (by first | rfl | (simp only [go_sem]; done) | (simp only [go_sem]; rfl) | (simp [go_sem]; done) | (simp [go_sem]; omega)) (by first | rfl | (simp only [go_sem]; done) | (simp [go_sem]; done))
   try dsimp only
   refine ⟨hi', ?_⟩
   rw [hinv]; simp [*]
  simp only [go_sem, cnCells, hx, rdCells, rdPV, List.getElem?_map]
  refine GCall_of (in_pc Y _ 0 1000 [r.jury, r.member] .exact (by simp)) ?_
  simp only [go_sem, cnCells, hx, rdCells, rdPV, List.getElem?_map]
  refine GWant_split (fun g1 => ?_) (fun g1 => ?_)
  ·try simp only [Bool.not_eq_true', Bool.not_eq_false'] at g1
   have n1 := g1; try simp only [nrm] at n1
   simp only [go_sem, cnCells, hx, rdCells, rdPV, List.getElem?_map, g1]
   refine GCall_of (in_pc Y _ 1 s [r.keep] .exact (by simp)) ?_
   simp only [go_sem, cnCells, hx, rdCells, rdPV, List.getElem?_map, g1]
   refine hR _ ?_
   all_goals try simp only [go_sem, cnCells, hx, rdCells, rdPV, List.getElem?_map]
   all_goals
    first | rfl | (simp [chkRd, *]; done) | (simp_all [chkRd]; done)
  try simp only [Bool.not_eq_true', Bool.not_eq_false'] at g1
  have n1 := g1; try simp only [nrm] at n1
  simp only [go_sem, cnCells, hx, rdCells, rdPV, List.getElem?_map, g1]
  refine hR _ ?_
  all_goals try simp only [go_sem, cnCells, hx, rdCells, rdPV, List.getElem?_map]
  all_goals
   first | rfl | (simp [chkRd, *]; done) | (simp_all [chkRd]; done)
 try simp only [nrm] at c7
 have hdrop : c.rounds.drop i = [] := List.drop_eq_nil_of_le (by omega)
 rw [hdrop] at hinv
 simp only [chkRds] at hinv
 refine W_exit ?_
 simp only [go_sem, cnCells]
 refine K16 _ _ ?_
 refine W_seq fun Z25 K25 => ?_
 refine W_sr [65] fun R hR => ?_
 simp only [go_sem, cnCells]
 refine hR _ _ ?_; clear hR R
 try simp only [go_sem, cnCells]
 refine W_cond rfl (fun c9 => ?_) (fun c9 => ?_)
 ·
  try simp only [nrm] at c9
  refine W_sr [2] fun R hR => ?_
  simp only [go_sem, cnCells]
  refine hR _ _ ?_; clear hR R
  try simp only [go_sem, cnCells]
  refine W_ret ?_
  simp only [go_sem, cnCells]
  refine ⟨.inr (by trivial), ?_⟩
  first | refine Fsa hcl rfl ?_ | refine Fse hcl rfl ?_
  try simp only [go_sem]
  all_goals
   first | rfl | (simp_all; done) | (simp_all; omega) | (rw [← hres]; simp only [chkCn, chkCn0]; (repeat' split) <;> ((first | rfl | omega | (simp_all; done) | (simp_all; omega))))
 try simp only [nrm] at c9
 refine W_skip (K25 _ _ ?_)
 refine W_sr [2] fun R hR => ?_
 simp only [go_sem, cnCells]
 refine hR _ _ ?_; clear hR R
 try simp only [go_sem, cnCells]
 refine W_ret ?_
 simp only [go_sem, cnCells]
 refine ⟨.inr (by trivial), ?_⟩
 first | refine Fsa hcl rfl ?_ | refine Fse hcl rfl ?_
 try simp only [go_sem]
 all_goals
  first | rfl | (simp_all; done) | (simp_all; omega) | (rw [← hres]; simp only [chkCn, chkCn0]; (repeat' split) <;> ((first | rfl | omega | (simp_all; done) | (simp_all; omega))))
theorem allIn1 {lo hi x : Int} : allIn lo hi [x] = inR x lo hi := by simp [allIn]
def unl (b : Bool) (e : Int) : Int := if b then 0 else e
def bl1 (c : Contest) (b : Ballot) : Int := unl (inR b.round 0 ((c.rounds.length : Int) - 1)) 2
def bl2 (b : Ballot) : Int := unl (inR b.kind 1 2) 3
def bl3 (c : Contest) (b : Ballot) : Int := unl (inR b.voter 0 ((if b.kind = 2 then c.members else c.juries) - 1)) 7
def bl4 (c : Contest) (b : Ballot) : Int := unl (inR b.song 0 (c.songs - 1)) 7
def bl5 (c : Contest) (b : Ballot) : Int := if b.kind = 2 then unl (b.points == 0) 1 else unl (inR b.points 0 c.most) 2
set_option maxHeartbeats 2000000 in
theorem unless_pc (Y : YEnv) (σ : Sg) (b : Bool) (e : Int) :
 PC Tryz.prog Y 77 [.bool b, I e] σ (I (unl b e)) (σ) := by
 refine PC_of_W Tryz.func77 rfl (by kernel_rfl) Tryz.ntmps77 (by simp) fun hcl hca => ?_
 refine W_sr [0, 1] fun R hR => ?_
 simp only [go_sem]
 refine hR _ _ ?_; clear hR R
 try simp only [go_sem]
 refine W_seq fun Z2 K2 => ?_
 refine W_sr [1, 5] fun R hR => ?_
 simp only [go_sem]
 refine hR _ _ ?_; clear hR R
 try simp only [go_sem]
 refine W_cond rfl (fun c1 => ?_) (fun c1 => ?_)
 ·
  try simp only [nrm] at c1
  refine W_sr [4] fun R hR => ?_
  simp only [go_sem]
  refine hR _ _ ?_; clear hR R
  try simp only [go_sem]
  refine W_ret ?_
  simp only [go_sem]
  refine ⟨.inr (by trivial), ?_⟩
  first | refine Fsa hcl rfl ?_ | refine Fse hcl rfl ?_
  try simp only [go_sem]
  all_goals
   first | rfl | (simp_all; done) | (simp_all; omega) | (simp only [unl]; (repeat' split) <;> ((first | rfl | omega | (simp_all; done) | (simp_all; omega))))
 try simp only [nrm] at c1
 refine W_skip (K2 _ _ ?_)
 refine W_sr [4] fun R hR => ?_
 simp only [go_sem]
 refine hR _ _ ?_; clear hR R
 try simp only [go_sem]
 refine W_ret ?_
 simp only [go_sem]
 refine ⟨.inr (by trivial), ?_⟩
 first | refine Fsa hcl rfl ?_ | refine Fse hcl rfl ?_
 try simp only [go_sem]
 all_goals
  first | rfl | (simp_all; done) | (simp_all; omega) | (simp only [unl]; (repeat' split) <;> ((first | rfl | omega | (simp_all; done) | (simp_all; omega))))
set_option maxHeartbeats 2000000 in
theorem bl1_pc (Y : YEnv) (σ : Sg) (c : Contest) (b : Ballot) (i1 i2 : Nat) (h1 : σ.store[i1]? = some (some (cnCells c))) (h2 : σ.store[i2]? = some (some (blCells b))) (hr : c.rounds.length < 2 ^ 40) :
 PC Tryz.prog Y 76 [.ptr i1 0, .ptr i2 0] σ (I (bl1 c b)) (σ) := by
 refine PC_of_W Tryz.func76 rfl (by kernel_rfl) Tryz.ntmps76 (by simp) fun hcl hca => ?_
 refine W_sr [0, 1] fun R hR => ?_
 simp only [go_sem, ldS_at h1, ldS_at h2, cnCells, blCells, allIn1]
 refine hR _ _ ?_; clear hR R
 try simp only [go_sem, ldS_at h1, ldS_at h2, cnCells, blCells, allIn1]
 refine W_sr [2] fun R hR => ?_
 simp only [go_sem, ldS_at h1, ldS_at h2, cnCells, blCells, allIn1]
 try simp (disch := omega) only [wrapI]
 try simp (disch := omega) only [wrapI, wrapU]
 refine GCall_of (in_pc Y _ 0 ((c.rounds.length : Int) - 1) [b.round] .exact (by simp)) ?_
 simp only [go_sem, ldS_at h1, ldS_at h2, cnCells, blCells, allIn1]
 try simp (disch := omega) only [wrapI, wrapU]
 refine GCall_of (unless_pc Y _ _ 2) ?_
 simp only [go_sem, ldS_at h1, ldS_at h2, cnCells, blCells, allIn1]
 try simp (disch := omega) only [wrapI, wrapU]
 refine hR _ _ ?_; clear hR R
 try simp only [go_sem, ldS_at h1, ldS_at h2, cnCells, blCells, allIn1]
 refine W_ret ?_
 simp only [go_sem, ldS_at h1, ldS_at h2, cnCells, blCells, allIn1]
 refine ⟨.inr (by trivial), ?_⟩
 first | refine Fsa hcl rfl ?_ | refine Fse hcl rfl ?_
 try simp only [go_sem]
 all_goals
  first | rfl | simp [bl1, allIn1]
set_option maxHeartbeats 2000000 in
theorem bl2_pc (Y : YEnv) (σ : Sg) (c : Contest) (b : Ballot) (i1 i2 : Nat) (h1 : σ.store[i1]? = some (some (cnCells c))) (h2 : σ.store[i2]? = some (some (blCells b))) :
 PC Tryz.prog Y 78 [.ptr i2 0] σ (I (bl2 b)) (σ) := by
 refine PC_of_W Tryz.func78 rfl (by kernel_rfl) Tryz.ntmps78 (by simp) fun hcl hca => ?_
 refine W_sr [0] fun R hR => ?_
 simp only [go_sem, ldS_at h1, ldS_at h2, cnCells, blCells, allIn1]
 refine hR _ _ ?_; clear hR R
 try simp only [go_sem, ldS_at h1, ldS_at h2, cnCells, blCells, allIn1]
 refine W_sr [1] fun R hR => ?_
 simp only [go_sem, ldS_at h1, ldS_at h2, cnCells, blCells, allIn1]
 refine GCall_of (in_pc Y _ 1 2 [b.kind] .exact (by simp)) ?_
 simp only [go_sem, ldS_at h1, ldS_at h2, cnCells, blCells, allIn1]
 refine GCall_of (unless_pc Y _ _ 3) ?_
 simp only [go_sem, ldS_at h1, ldS_at h2, cnCells, blCells, allIn1]
 refine hR _ _ ?_; clear hR R
 try simp only [go_sem, ldS_at h1, ldS_at h2, cnCells, blCells, allIn1]
 refine W_ret ?_
 simp only [go_sem, ldS_at h1, ldS_at h2, cnCells, blCells, allIn1]
 refine ⟨.inr (by trivial), ?_⟩
 first | refine Fsa hcl rfl ?_ | refine Fse hcl rfl ?_
 try simp only [go_sem]
 all_goals
  first | rfl | simp [bl2, allIn1]
set_option maxHeartbeats 2000000 in
theorem bl3_pc (Y : YEnv) (σ : Sg) (c : Contest) (b : Ballot) (i1 i2 : Nat) (h1 : σ.store[i1]? = some (some (cnCells c))) (h2 : σ.store[i2]? = some (some (blCells b))) (hm : -2 ^ 60 ≤ c.members ∧ c.members ≤ 2 ^ 60) (hj : -2 ^ 60 ≤ c.juries ∧ c.juries ≤ 2 ^ 60) :
 PC Tryz.prog Y 79 [.ptr i1 0, .ptr i2 0] σ (I (bl3 c b)) (σ) := by
 refine PC_of_W Tryz.func79 rfl (by kernel_rfl) Tryz.ntmps79 (by simp) fun hcl hca => ?_
 refine W_sr [0, 1] fun R hR => ?_
 simp only [go_sem, ldS_at h1, ldS_at h2, cnCells, blCells, allIn1]
 refine hR _ _ ?_; clear hR R
 try simp only [go_sem, ldS_at h1, ldS_at h2, cnCells, blCells, allIn1]
 refine W_sr [0, 1, 3] fun R hR => ?_
 simp only [go_sem, ldS_at h1, ldS_at h2, cnCells, blCells, allIn1]
 refine hR _ _ ?_; clear hR R
 try simp only [go_sem, ldS_at h1, ldS_at h2, cnCells, blCells, allIn1]
 refine W_seq fun Z3 K3 => ?_
 refine W_sr [0, 1, 3, 8] fun R hR => ?_
 simp only [go_sem, ldS_at h1, ldS_at h2, cnCells, blCells, allIn1]
 refine hR _ _ ?_; clear hR R
 try simp only [go_sem, ldS_at h1, ldS_at h2, cnCells, blCells, allIn1]
 refine W_cond rfl (fun c1 => ?_) (fun c1 => ?_)
 ·
  try simp only [nrm] at c1
  refine W_region [1, 3] fun R hR => ?_
  simp only [go_sem, ldS_at h1, ldS_at h2, cnCells, blCells, allIn1]
  refine hR _ _ (K3 _ _ ?_); clear hR R; try clear K3 Z3
  try simp only [go_sem, ldS_at h1, ldS_at h2, cnCells, blCells, allIn1]
  refine W_sr [2] fun R hR => ?_
  simp only [go_sem, ldS_at h1, ldS_at h2, cnCells, blCells, allIn1]
  try simp (disch := omega) only [wrapI]
  try simp (disch := omega) only [wrapI, wrapU]
  refine GCall_of (in_pc Y _ 0 (c.members - 1) [b.voter] .exact (by simp)) ?_
  simp only [go_sem, ldS_at h1, ldS_at h2, cnCells, blCells, allIn1]
  try simp (disch := omega) only [wrapI, wrapU]
  refine GCall_of (unless_pc Y _ _ 7) ?_
  simp only [go_sem, ldS_at h1, ldS_at h2, cnCells, blCells, allIn1]
  try simp (disch := omega) only [wrapI, wrapU]
  refine hR _ _ ?_; clear hR R
  try simp only [go_sem, ldS_at h1, ldS_at h2, cnCells, blCells, allIn1]
  refine W_ret ?_
  simp only [go_sem, ldS_at h1, ldS_at h2, cnCells, blCells, allIn1]
  refine ⟨.inr (by trivial), ?_⟩
  first | refine Fsa hcl rfl ?_ | refine Fse hcl rfl ?_
  try simp only [go_sem]
  all_goals
   first | rfl | (simp [bl3, allIn1, *]; done) | simp_all [bl3, allIn1]
 try simp only [nrm] at c1
 refine W_skip (K3 _ _ ?_)
 refine W_sr [2] fun R hR => ?_
 simp only [go_sem, ldS_at h1, ldS_at h2, cnCells, blCells, allIn1]
 try simp (disch := omega) only [wrapI]
 try simp (disch := omega) only [wrapI, wrapU]
 refine GCall_of (in_pc Y _ 0 (c.juries - 1) [b.voter] .exact (by simp)) ?_
 simp only [go_sem, ldS_at h1, ldS_at h2, cnCells, blCells, allIn1]
 try simp (disch := omega) only [wrapI, wrapU]
 refine GCall_of (unless_pc Y _ _ 7) ?_
 simp only [go_sem, ldS_at h1, ldS_at h2, cnCells, blCells, allIn1]
 try simp (disch := omega) only [wrapI, wrapU]
 refine hR _ _ ?_; clear hR R
 try simp only [go_sem, ldS_at h1, ldS_at h2, cnCells, blCells, allIn1]
 refine W_ret ?_
 simp only [go_sem, ldS_at h1, ldS_at h2, cnCells, blCells, allIn1]
 refine ⟨.inr (by trivial), ?_⟩
 first | refine Fsa hcl rfl ?_ | refine Fse hcl rfl ?_
 try simp only [go_sem]
 all_goals
  first | rfl | (simp [bl3, allIn1, *]; done) | simp_all [bl3, allIn1]
set_option maxHeartbeats 2000000 in
theorem bl4_pc (Y : YEnv) (σ : Sg) (c : Contest) (b : Ballot) (i1 i2 : Nat) (h1 : σ.store[i1]? = some (some (cnCells c))) (h2 : σ.store[i2]? = some (some (blCells b))) (hs : -2 ^ 60 ≤ c.songs ∧ c.songs ≤ 2 ^ 60) :
 PC Tryz.prog Y 80 [.ptr i1 0, .ptr i2 0] σ (I (bl4 c b)) (σ) := by
 refine PC_of_W Tryz.func80 rfl (by kernel_rfl) Tryz.ntmps80 (by simp) fun hcl hca => ?_
 refine W_sr [0, 1] fun R hR => ?_
 simp only [go_sem, ldS_at h1, ldS_at h2, cnCells, blCells, allIn1]
 refine hR _ _ ?_; clear hR R
 try simp only [go_sem, ldS_at h1, ldS_at h2, cnCells, blCells, allIn1]
 refine W_sr [2] fun R hR => ?_
 simp only [go_sem, ldS_at h1, ldS_at h2, cnCells, blCells, allIn1]
 try simp (disch := omega) only [wrapI]
 try simp (disch := omega) only [wrapI, wrapU]
 refine GCall_of (in_pc Y _ 0 (c.songs - 1) [b.song] .exact (by simp)) ?_
 simp only [go_sem, ldS_at h1, ldS_at h2, cnCells, blCells, allIn1]
 try simp (disch := omega) only [wrapI, wrapU]
 refine GCall_of (unless_pc Y _ _ 7) ?_
 simp only [go_sem, ldS_at h1, ldS_at h2, cnCells, blCells, allIn1]
 try simp (disch := omega) only [wrapI, wrapU]
 refine hR _ _ ?_; clear hR R
 try simp only [go_sem, ldS_at h1, ldS_at h2, cnCells, blCells, allIn1]
 refine W_ret ?_
 simp only [go_sem, ldS_at h1, ldS_at h2, cnCells, blCells, allIn1]
 refine ⟨.inr (by trivial), ?_⟩
 first | refine Fsa hcl rfl ?_ | refine Fse hcl rfl ?_
 try simp only [go_sem]
 all_goals
  first | rfl | simp [bl4, allIn1]
set_option maxHeartbeats 2000000 in
theorem bl5_pc (Y : YEnv) (σ : Sg) (c : Contest) (b : Ballot) (i1 i2 : Nat) (h1 : σ.store[i1]? = some (some (cnCells c))) (h2 : σ.store[i2]? = some (some (blCells b))) :
 PC Tryz.prog Y 81 [.ptr i2 0, .ptr i1 0] σ (I (bl5 c b)) (σ) := by
 refine PC_of_W Tryz.func81 rfl (by kernel_rfl) Tryz.ntmps81 (by simp) fun hcl hca => ?_
 refine W_sr [0, 1] fun R hR => ?_
 simp only [go_sem, ldS_at h1, ldS_at h2, cnCells, blCells, allIn1]
 refine hR _ _ ?_; clear hR R
 try simp only [go_sem, ldS_at h1, ldS_at h2, cnCells, blCells, allIn1]
 refine W_seq fun Z2 K2 => ?_
 refine W_sr [0, 1, 5] fun R hR => ?_
 simp only [go_sem, ldS_at h1, ldS_at h2, cnCells, blCells, allIn1]
 refine hR _ _ ?_; clear hR R
 try simp only [go_sem, ldS_at h1, ldS_at h2, cnCells, blCells, allIn1]
 refine W_cond rfl (fun c1 => ?_) (fun c1 => ?_)
 ·
  try simp only [nrm] at c1
  refine W_sr [2] fun R hR => ?_
  simp only [go_sem, ldS_at h1, ldS_at h2, cnCells, blCells, allIn1]
  refine GCall_of (unless_pc Y _ _ 1) ?_
  simp only [go_sem, ldS_at h1, ldS_at h2, cnCells, blCells, allIn1]
  refine hR _ _ ?_; clear hR R
  try simp only [go_sem, ldS_at h1, ldS_at h2, cnCells, blCells, allIn1]
  refine W_ret ?_
  simp only [go_sem, ldS_at h1, ldS_at h2, cnCells, blCells, allIn1]
  refine ⟨.inr (by trivial), ?_⟩
  first | refine Fsa hcl rfl ?_ | refine Fse hcl rfl ?_
  try simp only [go_sem]
  all_goals
   first | rfl | (simp [bl5, allIn1, *]; done) | simp_all [bl5, allIn1]
 try simp only [nrm] at c1
 refine W_skip (K2 _ _ ?_)
 refine W_sr [2] fun R hR => ?_
 simp only [go_sem, ldS_at h1, ldS_at h2, cnCells, blCells, allIn1]
 refine GCall_of (in_pc Y _ 0 c.most [b.points] .exact (by simp)) ?_
 simp only [go_sem, ldS_at h1, ldS_at h2, cnCells, blCells, allIn1]
 refine GCall_of (unless_pc Y _ _ 2) ?_
 simp only [go_sem, ldS_at h1, ldS_at h2, cnCells, blCells, allIn1]
 refine hR _ _ ?_; clear hR R
 try simp only [go_sem, ldS_at h1, ldS_at h2, cnCells, blCells, allIn1]
 refine W_ret ?_
 simp only [go_sem, ldS_at h1, ldS_at h2, cnCells, blCells, allIn1]
 refine ⟨.inr (by trivial), ?_⟩
 first | refine Fsa hcl rfl ?_ | refine Fse hcl rfl ?_
 try simp only [go_sem]
 all_goals
  first | rfl | (simp [bl5, allIn1, *]; done) | simp_all [bl5, allIn1]
/-- The first error of a list. -/
def firstE : List Int → Int
 | [] => 0
 | e :: l => if e ≠ 0 then e else firstE l
def blEs (c : Contest) (b : Ballot) : List Int := [bl1 c b, bl2 b, bl3 c b, bl4 c b, bl5 c b]
def chkBl (c : Contest) (b : Ballot) : Int := firstE (blEs c b)
set_option maxHeartbeats 4000000 in
theorem chkBl_pc (Y : YEnv) (σ : Sg) (c : Contest) (b : Ballot) (hr : c.rounds.length < 2 ^ 40) (hs : -2 ^ 60 ≤ c.songs ∧ c.songs ≤ 2 ^ 60) (hm : -2 ^ 60 ≤ c.members ∧ c.members ≤ 2 ^ 60) (hj : -2 ^ 60 ≤ c.juries ∧ c.juries ≤ 2 ^ 60) :
 PC Tryz.prog Y 48 [cnPV c, blPV b] σ (I (chkBl c b)) (σ) := by
 refine PC_of_W Tryz.func48 rfl (by kernel_rfl) Tryz.ntmps48 (by simp) fun hcl hca => ?_
 refine W_sr [2, 3] fun R hR => ?_
 simp only [go_sem, cnPV, blPV]
 refine hR _ _ ?_; clear hR R
 try simp only [go_sem, cnPV, blPV]
 refine W_sr [5] fun R hR => ?_
 simp only [go_sem, cnPV, blPV]
 refine hR _ _ ?_; clear hR R
 try simp only [go_sem, cnPV, blPV]
 refine W_seq fun Z3 K3 => ?_
 refine W_sr [15, 16, 17] fun R hR => ?_
 simp only [go_sem, cnPV, blPV]
 refine hR _ _ ?_; clear hR R
 try simp only [go_sem, cnPV, blPV]
 refine W_block ?_
 obtain ⟨fns, hfns⟩ : ∃ z, z = [PV.func (.func 76) [] [.ptr σ.store.length 0, .ptr (σ.store.length + 1) 0], .func (.func 78) [] [.ptr (σ.store.length + 1) 0], .func (.func 79) [] [.ptr σ.store.length 0, .ptr (σ.store.length + 1) 0], .func (.func 80) [] [.ptr σ.store.length 0, .ptr (σ.store.length + 1) 0], .func (.func 81) [] [.ptr (σ.store.length + 1) 0, .ptr σ.store.length 0]] := ⟨_, rfl⟩
 obtain ⟨es, hes⟩ : ∃ z, z = blEs c b := ⟨_, rfl⟩
 refine W_weak (Weak.keep [15, 16, 17]) ?_
 simp only [go_sem]
 refine W_weak (Weak.eq (E' := [(15, .isl fns .exact), (16, I 5), (17, I 0)]) (by rw [hfns]) rfl) ?_
 have ll : fns.length = 5 := by rw [hfns]; rfl
 have le : es.length = 5 := by rw [hes]; rfl
 have hall : ∀ i, i < 5 → ∃ p fr e, fns[i]? = some (.func (.func p) [] fr) ∧ es[i]? = some e ∧ PC Tryz.prog Y p fr (σ.ext [some (cnCells c), some (blCells b)] []) (I e) (σ.ext [some (cnCells c), some (blCells b)] []) := by
  intro i hi
  rw [hfns, hes]
  rcases (by omega : i = 0 ∨ i = 1 ∨ i = 2 ∨ i = 3 ∨ i = 4) with rfl | rfl | rfl | rfl | rfl
  ·exact ⟨_, _, _, rfl, rfl, bl1_pc Y _ c b _ _ (Sg.get_ext0 ..) (Sg.get_ext ..) hr⟩
  ·exact ⟨_, _, _, rfl, rfl, bl2_pc Y _ c b _ _ (Sg.get_ext0 ..) (Sg.get_ext ..)⟩
  ·exact ⟨_, _, _, rfl, rfl, bl3_pc Y _ c b _ _ (Sg.get_ext0 ..) (Sg.get_ext ..) hm hj⟩
  ·exact ⟨_, _, _, rfl, rfl, bl4_pc Y _ c b _ _ (Sg.get_ext0 ..) (Sg.get_ext ..) hs⟩
  exact ⟨_, _, _, rfl, rfl, bl5_pc Y _ c b _ _ (Sg.get_ext0 ..) (Sg.get_ext ..)⟩
 clear hfns
 refine W_loopS (α := Nat) (fun (i : Nat) => [(17, I i)]) (fun (i : Nat) => i ≤ 5 ∧ chkBl c b = firstE (es.drop i)) (fun (i : Nat) => 5 - i) (0) rfl (⟨Nat.zero_le _, by rw [hes]; rfl⟩) ?_
 rintro i ⟨hi, hinv⟩
 refine W_sr [15, 16, 17, 18] fun R hR => ?_
 simp only [go_sem, cnPV, blPV, ll]
 refine hR _ _ ?_; clear hR R
 try simp only [go_sem, cnPV, blPV, ll]
 refine W_seq fun Z6 K6 => ?_
 refine W_cond rfl (fun c1 => ?_) (fun c1 => ?_)
 ·
  try simp only [nrm] at c1
  have hi5 : i < 5 := by first | omega | (simp at c1; omega)
  obtain ⟨p, fr, e, hx, hxe, hfp⟩ := hall i hi5
  have hdrop : es.drop i = e :: es.drop (i + 1) := by
   rw [List.drop_eq_getElem_cons (by omega)]; congr 1; exact (List.getElem?_eq_some_iff.1 hxe).2
  rw [hdrop] at hinv
  simp only [firstE] at hinv
  have hi5' : (i : Int) < 5 := by omega
  have hia : iaX 1 fns (i : Int) = some (.eptr 1 fns i 0) := by
   unfold iaX
   rw [if_pos ⟨Int.natCast_nonneg _, by rw [ll]; exact hi5'⟩]
   simp [hx, PV.cells]
  have hel : elS fns i 0 = some (.func (.func p) [] fr) := by simp [elS, hx, PV.cells]
  refine W_skip (K6 _ _ ?_)
  refine W_seq fun Z7 K7 => ?_
  refine W_block ?_
  refine W_sr [7, 15, 16, 17] fun R hR => ?_
  simp only [go_sem, cnPV, blPV, ll, hx, hia, hel]
  refine hR _ _ ?_; clear hR R
  try simp only [go_sem, cnPV, blPV, ll, hx, hia, hel]
  refine W_sr [8, 15, 16, 17] fun R hR => ?_
  simp only [go_sem, cnPV, blPV, ll, hx, hia, hel]
  refine GCall_of (hfp) ?_
  simp only [go_sem, cnPV, blPV, ll, hx, hia, hel]
  refine hR _ _ ?_; clear hR R
  try simp only [go_sem, cnPV, blPV, ll, hx, hia, hel]
  refine W_sr [8, 15, 16, 17, 24] fun R hR => ?_
  simp only [go_sem, cnPV, blPV, ll, hx, hia, hel]
  refine hR _ _ ?_; clear hR R
  try simp only [go_sem, cnPV, blPV, ll, hx, hia, hel]
  refine W_cond rfl (fun c2 => ?_) (fun c2 => ?_)
  ·
   try simp only [nrm] at c2
   refine W_sr [4] fun R hR => ?_
   simp only [go_sem, cnPV, blPV, ll, hx, hia, hel]
   refine hR _ _ ?_; clear hR R
   try simp only [go_sem, cnPV, blPV, ll, hx, hia, hel]
   refine W_ret ?_
   simp only [go_sem, cnPV, blPV, ll, hx, hia, hel]
   refine ⟨.inr (by trivial), ?_⟩
   first | refine Fsa hcl rfl ?_ | refine Fse hcl rfl ?_
   try simp only [go_sem]
   all_goals
    rw [hinv]; first | done | rfl | (simp [*]; done)
  try simp only [nrm] at c2
  refine W_skip (K7 _ _ ?_)
  refine W_region [15, 16, 17] fun R hR => ?_
  simp only [go_sem, cnPV, blPV, ll, hx, hia, hel]
  try simp (disch := omega) only [wrapI, wrapU]
  refine hR _ _ ?_; clear hR R
  try simp only [go_sem, cnPV, blPV, ll, hx, hia, hel]
  refine ⟨i + 1, ?_, by (try simp only []); omega, ?_⟩
  ·first | exact Weak.refl | exact Wqq
  try dsimp only
  refine ⟨by omega, ?_⟩
  rw [hinv]; simp [*]
 try simp only [nrm] at c1
 have hdrop : es.drop i = [] := List.drop_eq_nil_of_le (by omega)
 rw [hdrop] at hinv
 simp only [firstE] at hinv
 refine W_exit ?_
 simp only [go_sem, cnPV, blPV, ll]
 refine K3 _ _ ?_
 refine W_sr [4] fun R hR => ?_
 simp only [go_sem, cnPV, blPV, ll]
 refine hR _ _ ?_; clear hR R
 try simp only [go_sem, cnPV, blPV, ll]
 refine W_ret ?_
 simp only [go_sem, cnPV, blPV, ll]
 refine ⟨.inr (by trivial), ?_⟩
 first | refine Fsa hcl rfl ?_ | refine Fse hcl rfl ?_
 try simp only [go_sem]
 all_goals
  rw [hinv]; first | done | rfl | (simp [*]; done)
def mapS (p : List Int) : List (Int × Bool) := p.foldl (fun m k => aput k true m) []
theorem mapS_snoc (p : List Int) (k : Int) : mapS (p ++ [k]) = aput k true (mapS p) := by simp [mapS, List.foldl_append]
theorem mapS_gen (k : Int) : ∀ (p : List Int) (m : List (Int × Bool)), (aget k (p.foldl (fun m k => aput k true m) m)).getD false = ((aget k m).getD false || has p k) := by
 intro p
 induction p with
 | nil => intro m; simp [has]
 | cons a p ih =>
  intro m
  rw [List.foldl_cons, ih, aget_put]
  by_cases h : k = a
  ·subst h; simp [has]
  have h' : ¬ a = k := fun e => h e.symm
  simp [has, h, h']
theorem mapS_get (k : Int) (p : List Int) : (aget k (mapS p)).getD false = has p k := by
 unfold mapS
 rw [mapS_gen]; simp [aget]
def chkBlsF (c : Contest) : List Int → List Ballot → Int
 | _, [] => 0
 | p, b :: l => if !(inR b.serial 1 1000000000) then 2 else if has p b.serial then 8 else if chkBl c b ≠ 0 then chkBl c b else chkBlsF c (p ++ [b.serial]) l
/-- The error of ballots. -/
def chkBls (c : Contest) (l : List Ballot) : Int := if chkCn c ≠ 0 then chkCn c else if (l.length : Int) > 300 then 5 else chkBlsF c [] l
structure CnV (c : Contest) : Prop where
 sg : 1 ≤ c.songs ∧ c.songs ≤ 8
 jr : 0 ≤ c.juries ∧ c.juries ≤ 8
 mb : 0 ≤ c.members ∧ c.members ≤ 1000
 ms : 0 ≤ c.most ∧ c.most ≤ 100
 rl : 0 < c.rounds.length ∧ c.rounds.length ≤ 4
 rs : chkRds c.songs c.rounds = 0
theorem cnV_of {c : Contest} (h : chkCn c = 0) : CnV c := by
 unfold chkCn at h
 split at h
 ·cases h
 rename_i h1
 split at h
 ·cases h
 split at h
 ·cases h
 simp only [chkCn0, allIn1, Bool.not_eq_true', Bool.not_eq_false, Bool.and_eq_true, inR_true] at h1
 obtain ⟨⟨⟨a1, a2⟩, a3⟩, a4⟩ := h1
 exact ⟨a1, a2, a3, a4, by omega, h⟩
set_option maxHeartbeats 8000000 in
theorem chkBls_pc (Y : YEnv) (σ : Sg) (c : Contest) (l : List Ballot) (hr : c.rounds.length < 2 ^ 40) (hl : l.length < 2 ^ 40) :
 PC Tryz.prog Y 22 [cnPV c, bls l] σ (I (chkBls c l)) (σ) := by
 refine PC_of_W Tryz.func22 rfl (by kernel_rfl) Tryz.ntmps22 (by simp) fun hcl hca => ?_
 obtain ⟨res, hres⟩ : ∃ r, chkBls c l = r := ⟨_, rfl⟩
 rw [hres]
 refine W_sr [1, 2] fun R hR => ?_
 simp only [go_sem, lk116, up116, lkX, upX, lkB, upB, CleanAll_mapB, packF, allIn1, Sg.get_ext, Sg.get_ext0, List.getElem?_cons_succ, List.getElem?_cons_zero]
 refine hR _ _ ?_; clear hR R
 try simp only [go_sem, lk116, up116, lkX, upX, lkB, upB, CleanAll_mapB, packF, allIn1, Sg.get_ext, Sg.get_ext0, List.getElem?_cons_succ, List.getElem?_cons_zero]
 refine W_seq fun Z2 K2 => ?_
 refine W_sr [1, 2, 5] fun R hR => ?_
 simp only [go_sem, lk116, up116, lkX, upX, lkB, upB, CleanAll_mapB, packF, allIn1, Sg.get_ext, Sg.get_ext0, List.getElem?_cons_succ, List.getElem?_cons_zero]
 refine GCall_of (Check_pc Y _ c hr) ?_
 simp only [go_sem, lk116, up116, lkX, upX, lkB, upB, CleanAll_mapB, packF, allIn1, Sg.get_ext, Sg.get_ext0, List.getElem?_cons_succ, List.getElem?_cons_zero]
 refine hR _ _ ?_; clear hR R
 try simp only [go_sem, lk116, up116, lkX, upX, lkB, upB, CleanAll_mapB, packF, allIn1, Sg.get_ext, Sg.get_ext0, List.getElem?_cons_succ, List.getElem?_cons_zero]
 refine W_sr [1, 2, 5, 13] fun R hR => ?_
 simp only [go_sem, lk116, up116, lkX, upX, lkB, upB, CleanAll_mapB, packF, allIn1, Sg.get_ext, Sg.get_ext0, List.getElem?_cons_succ, List.getElem?_cons_zero]
 refine hR _ _ ?_; clear hR R
 try simp only [go_sem, lk116, up116, lkX, upX, lkB, upB, CleanAll_mapB, packF, allIn1, Sg.get_ext, Sg.get_ext0, List.getElem?_cons_succ, List.getElem?_cons_zero]
 refine W_cond rfl (fun c1 => ?_) (fun c1 => ?_)
 ·
  try simp only [nrm] at c1
  refine W_sr [4] fun R hR => ?_
  simp only [go_sem, lk116, up116, lkX, upX, lkB, upB, CleanAll_mapB, packF, allIn1, Sg.get_ext, Sg.get_ext0, List.getElem?_cons_succ, List.getElem?_cons_zero]
  refine hR _ _ ?_; clear hR R
  try simp only [go_sem, lk116, up116, lkX, upX, lkB, upB, CleanAll_mapB, packF, allIn1, Sg.get_ext, Sg.get_ext0, List.getElem?_cons_succ, List.getElem?_cons_zero]
  refine W_ret ?_
  simp only [go_sem, lk116, up116, lkX, upX, lkB, upB, CleanAll_mapB, packF, allIn1, Sg.get_ext, Sg.get_ext0, List.getElem?_cons_succ, List.getElem?_cons_zero]
  refine ⟨.inr (by trivial), ?_⟩
  first | refine Fsa hcl rfl ?_ | refine Fse hcl rfl ?_
  try simp only [go_sem]
  all_goals
   first | rfl | (simp_all; done) | (simp_all; omega) | (rw [← hres]; simp only [chkBls]; (repeat' split) <;> ((first | rfl | omega | (simp_all; done) | (simp_all; omega))))
 try simp only [nrm] at c1
 refine W_skip (K2 _ _ ?_)
 refine W_seq fun Z6 K6 => ?_
 refine W_sr [1, 2, 17] fun R hR => ?_
 simp only [go_sem, lk116, up116, lkX, upX, lkB, upB, CleanAll_mapB, packF, allIn1, Sg.get_ext, Sg.get_ext0, List.getElem?_cons_succ, List.getElem?_cons_zero]
 refine hR _ _ ?_; clear hR R
 try simp only [go_sem, lk116, up116, lkX, upX, lkB, upB, CleanAll_mapB, packF, allIn1, Sg.get_ext, Sg.get_ext0, List.getElem?_cons_succ, List.getElem?_cons_zero]
 refine W_cond rfl (fun c2 => ?_) (fun c2 => ?_)
 ·
  try simp only [nrm] at c2
  refine W_sr [4] fun R hR => ?_
  simp only [go_sem, lk116, up116, lkX, upX, lkB, upB, CleanAll_mapB, packF, allIn1, Sg.get_ext, Sg.get_ext0, List.getElem?_cons_succ, List.getElem?_cons_zero]
  refine hR _ _ ?_; clear hR R
  try simp only [go_sem, lk116, up116, lkX, upX, lkB, upB, CleanAll_mapB, packF, allIn1, Sg.get_ext, Sg.get_ext0, List.getElem?_cons_succ, List.getElem?_cons_zero]
  refine W_ret ?_
  simp only [go_sem, lk116, up116, lkX, upX, lkB, upB, CleanAll_mapB, packF, allIn1, Sg.get_ext, Sg.get_ext0, List.getElem?_cons_succ, List.getElem?_cons_zero]
  refine ⟨.inr (by trivial), ?_⟩
  first | refine Fsa hcl rfl ?_ | refine Fse hcl rfl ?_
  try simp only [go_sem]
  all_goals
   first | rfl | (simp_all; done) | (simp_all; omega) | (rw [← hres]; simp only [chkBls]; (repeat' split) <;> ((first | rfl | omega | (simp_all; done) | (simp_all; omega))))
 try simp only [nrm] at c2
 refine W_skip (K6 _ _ ?_)
 refine W_sr [1, 2, 6] fun R hR => ?_
 simp only [go_sem, lk116, up116, lkX, upX, lkB, upB, CleanAll_mapB, packF, allIn1, Sg.get_ext, Sg.get_ext0, List.getElem?_cons_succ, List.getElem?_cons_zero]
 refine hR _ _ ?_; clear hR R
 try simp only [go_sem, lk116, up116, lkX, upX, lkB, upB, CleanAll_mapB, packF, allIn1, Sg.get_ext, Sg.get_ext0, List.getElem?_cons_succ, List.getElem?_cons_zero]
 refine W_seq fun Z10 K10 => ?_
 refine W_sr [2, 6, 19, 20, 21] fun R hR => ?_
 simp only [go_sem, lk116, up116, lkX, upX, lkB, upB, CleanAll_mapB, packF, allIn1, Sg.get_ext, Sg.get_ext0, List.getElem?_cons_succ, List.getElem?_cons_zero]
 refine hR _ _ ?_; clear hR R
 try simp only [go_sem, lk116, up116, lkX, upX, lkB, upB, CleanAll_mapB, packF, allIn1, Sg.get_ext, Sg.get_ext0, List.getElem?_cons_succ, List.getElem?_cons_zero]
 refine W_block ?_
 have hV := cnV_of c1
 refine W_loopT (α := Nat) (fun (i : Nat) => [(21, I i)]) (fun (i : Nat) => σ.ext [some (cnCells c), some (.mark :: mapE I PV.bool (mapS ((l.take i).map (·.serial))))] []) (fun (i : Nat) => i ≤ l.length ∧ res = chkBlsF c ((l.take i).map (·.serial)) (l.drop i)) (fun (i : Nat) => l.length - i) (0) rfl (by first | rfl | (simp only [go_sem]; done) | (simp only [go_sem]; rfl)) (⟨Nat.zero_le _, by rw [← hres]; unfold chkBls; rw [if_neg (by simp [c1]), if_neg (by omega)]; rfl⟩) ?_
 rintro i ⟨hi, hinv⟩
 refine W_sr [2, 6, 19, 20, 21, 22] fun R hR => ?_
 simp only [go_sem, lk116, up116, lkX, upX, lkB, upB, CleanAll_mapB, packF, allIn1, Sg.get_ext, Sg.get_ext0, List.getElem?_cons_succ, List.getElem?_cons_zero]
 refine hR _ _ ?_; clear hR R
 try simp only [go_sem, lk116, up116, lkX, upX, lkB, upB, CleanAll_mapB, packF, allIn1, Sg.get_ext, Sg.get_ext0, List.getElem?_cons_succ, List.getElem?_cons_zero]
 refine W_seq fun Z13 K13 => ?_
 refine W_cond rfl (fun c3 => ?_) (fun c3 => ?_)
 ·
  try simp only [nrm] at c3
  have hi' : i < l.length := by first | assumption | omega
  obtain ⟨b, hx⟩ : ∃ b, l[i]? = some b := ⟨l[i], by simp [hi']⟩
  have hdrop : l.drop i = b :: l.drop (i + 1) := by
   rw [List.drop_eq_getElem_cons hi']; congr 1; exact (List.getElem?_eq_some_iff.1 hx).2
  rw [hdrop] at hinv
  simp only [chkBlsF] at hinv
  have hsn : (l.take (i + 1)).map (·.serial) = (l.take i).map (·.serial) ++ [b.serial] := by rw [List.take_add_one, hx]; simp
  obtain ⟨p, hp⟩ : ∃ z, (l.take i).map (·.serial) = z := ⟨_, rfl⟩
  rw [hp] at hinv hsn
  rw [hp]
  have hmg := mapS_get b.serial p
  refine W_skip (K13 _ _ ?_)
  refine W_seq fun Z14 K14 => ?_
  refine W_block ?_
  refine W_sr [2, 6, 8, 19, 20, 21] fun R hR => ?_
  simp only [go_sem, lk116, up116, lkX, upX, lkB, upB, CleanAll_mapB, packF, allIn1, Sg.get_ext, Sg.get_ext0, List.getElem?_cons_succ, List.getElem?_cons_zero, hx, blCells, blPV, hmg]
  refine hR _ _ ?_; clear hR R
  try simp only [go_sem, lk116, up116, lkX, upX, lkB, upB, CleanAll_mapB, packF, allIn1, Sg.get_ext, Sg.get_ext0, List.getElem?_cons_succ, List.getElem?_cons_zero, hx, blCells, blPV, hmg]
  refine W_seq fun Z16 K16 => ?_
  refine W_block ?_
  refine W_sr [2, 6, 8, 19, 20, 21, 25] fun R hR => ?_
  simp only [go_sem, lk116, up116, lkX, upX, lkB, upB, CleanAll_mapB, packF, allIn1, Sg.get_ext, Sg.get_ext0, List.getElem?_cons_succ, List.getElem?_cons_zero, hx, blCells, blPV, hmg]
  refine GCall_of (in_pc Y _ 1 1000000000 [b.serial] .exact (by simp)) ?_
  simp only [go_sem, lk116, up116, lkX, upX, lkB, upB, CleanAll_mapB, packF, allIn1, Sg.get_ext, Sg.get_ext0, List.getElem?_cons_succ, List.getElem?_cons_zero, hx, blCells, blPV, hmg]
  refine hR _ _ ?_; clear hR R
  try simp only [go_sem, lk116, up116, lkX, upX, lkB, upB, CleanAll_mapB, packF, allIn1, Sg.get_ext, Sg.get_ext0, List.getElem?_cons_succ, List.getElem?_cons_zero, hx, blCells, blPV, hmg]
  refine W_cond rfl (fun c4 => ?_) (fun c4 => ?_)
  ·
   try simp only [nrm] at c4
   refine W_sr [4] fun R hR => ?_
   simp only [go_sem, lk116, up116, lkX, upX, lkB, upB, CleanAll_mapB, packF, allIn1, Sg.get_ext, Sg.get_ext0, List.getElem?_cons_succ, List.getElem?_cons_zero, hx, blCells, blPV, hmg]
   refine hR _ _ ?_; clear hR R
   try simp only [go_sem, lk116, up116, lkX, upX, lkB, upB, CleanAll_mapB, packF, allIn1, Sg.get_ext, Sg.get_ext0, List.getElem?_cons_succ, List.getElem?_cons_zero, hx, blCells, blPV, hmg]
   refine W_ret ?_
   simp only [go_sem, lk116, up116, lkX, upX, lkB, upB, CleanAll_mapB, packF, allIn1, Sg.get_ext, Sg.get_ext0, List.getElem?_cons_succ, List.getElem?_cons_zero, hx, blCells, blPV, hmg]
   refine ⟨.inr (by trivial), ?_⟩
   first | refine Fsa hcl rfl ?_ | refine Fse hcl rfl ?_
   try simp only [go_sem]
   all_goals
    first | rfl | (simp_all; done) | (simp_all; omega) | (rw [← hres]; simp only [chkBls]; (repeat' split) <;> ((first | rfl | omega | (simp_all; done) | (simp_all; omega))))
  try simp only [nrm] at c4
  refine W_sr [2, 6, 8, 19, 20, 21, 31] fun R hR => ?_
  simp only [go_sem, lk116, up116, lkX, upX, lkB, upB, CleanAll_mapB, packF, allIn1, Sg.get_ext, Sg.get_ext0, List.getElem?_cons_succ, List.getElem?_cons_zero, hx, blCells, blPV, hmg]
  refine hR _ _ ?_; clear hR R
  try simp only [go_sem, lk116, up116, lkX, upX, lkB, upB, CleanAll_mapB, packF, allIn1, Sg.get_ext, Sg.get_ext0, List.getElem?_cons_succ, List.getElem?_cons_zero, hx, blCells, blPV, hmg]
  refine W_cond rfl (fun c5 => ?_) (fun c5 => ?_)
  ·
   try simp only [nrm] at c5
   refine W_sr [4] fun R hR => ?_
   simp only [go_sem, lk116, up116, lkX, upX, lkB, upB, CleanAll_mapB, packF, allIn1, Sg.get_ext, Sg.get_ext0, List.getElem?_cons_succ, List.getElem?_cons_zero, hx, blCells, blPV, hmg]
   refine hR _ _ ?_; clear hR R
   try simp only [go_sem, lk116, up116, lkX, upX, lkB, upB, CleanAll_mapB, packF, allIn1, Sg.get_ext, Sg.get_ext0, List.getElem?_cons_succ, List.getElem?_cons_zero, hx, blCells, blPV, hmg]
   refine W_ret ?_
   simp only [go_sem, lk116, up116, lkX, upX, lkB, upB, CleanAll_mapB, packF, allIn1, Sg.get_ext, Sg.get_ext0, List.getElem?_cons_succ, List.getElem?_cons_zero, hx, blCells, blPV, hmg]
   refine ⟨.inr (by trivial), ?_⟩
   first | refine Fsa hcl rfl ?_ | refine Fse hcl rfl ?_
   try simp only [go_sem]
   all_goals
    first | rfl | (simp_all; done) | (simp_all; omega) | (rw [← hres]; simp only [chkBls]; (repeat' split) <;> ((first | rfl | omega | (simp_all; done) | (simp_all; omega))))
  try simp only [nrm] at c5
  refine W_skip (K16 _ _ ?_)
  refine W_sr [2, 6, 8, 19, 20, 21] fun R hR => ?_
  simp only [go_sem, lk116, up116, lkX, upX, lkB, upB, CleanAll_mapB, packF, allIn1, Sg.get_ext, Sg.get_ext0, List.getElem?_cons_succ, List.getElem?_cons_zero, hx, blCells, blPV, hmg]
  refine hR _ _ ?_; clear hR R
  try simp only [go_sem, lk116, up116, lkX, upX, lkB, upB, CleanAll_mapB, packF, allIn1, Sg.get_ext, Sg.get_ext0, List.getElem?_cons_succ, List.getElem?_cons_zero, hx, blCells, blPV, hmg]
  refine W_sr [2, 6, 9, 19, 20, 21] fun R hR => ?_
  simp only [go_sem, lk116, up116, lkX, upX, lkB, upB, CleanAll_mapB, packF, allIn1, Sg.get_ext, Sg.get_ext0, List.getElem?_cons_succ, List.getElem?_cons_zero, hx, blCells, blPV, hmg]
  refine GCall_of (chkBl_pc Y _ c b hr (by have := hV.sg; omega) (by have := hV.mb; omega) (by have := hV.jr; omega)) ?_
  simp only [go_sem, lk116, up116, lkX, upX, lkB, upB, CleanAll_mapB, packF, allIn1, Sg.get_ext, Sg.get_ext0, List.getElem?_cons_succ, List.getElem?_cons_zero, hx, blCells, blPV, hmg]
  refine hR _ _ ?_; clear hR R
  try simp only [go_sem, lk116, up116, lkX, upX, lkB, upB, CleanAll_mapB, packF, allIn1, Sg.get_ext, Sg.get_ext0, List.getElem?_cons_succ, List.getElem?_cons_zero, hx, blCells, blPV, hmg]
  refine W_sr [2, 6, 9, 19, 20, 21, 43] fun R hR => ?_
  simp only [go_sem, lk116, up116, lkX, upX, lkB, upB, CleanAll_mapB, packF, allIn1, Sg.get_ext, Sg.get_ext0, List.getElem?_cons_succ, List.getElem?_cons_zero, hx, blCells, blPV, hmg]
  refine hR _ _ ?_; clear hR R
  try simp only [go_sem, lk116, up116, lkX, upX, lkB, upB, CleanAll_mapB, packF, allIn1, Sg.get_ext, Sg.get_ext0, List.getElem?_cons_succ, List.getElem?_cons_zero, hx, blCells, blPV, hmg]
  refine W_cond rfl (fun c6 => ?_) (fun c6 => ?_)
  ·
   try simp only [nrm] at c6
   refine W_sr [4] fun R hR => ?_
   simp only [go_sem, lk116, up116, lkX, upX, lkB, upB, CleanAll_mapB, packF, allIn1, Sg.get_ext, Sg.get_ext0, List.getElem?_cons_succ, List.getElem?_cons_zero, hx, blCells, blPV, hmg]
   refine hR _ _ ?_; clear hR R
   try simp only [go_sem, lk116, up116, lkX, upX, lkB, upB, CleanAll_mapB, packF, allIn1, Sg.get_ext, Sg.get_ext0, List.getElem?_cons_succ, List.getElem?_cons_zero, hx, blCells, blPV, hmg]
   refine W_ret ?_
   simp only [go_sem, lk116, up116, lkX, upX, lkB, upB, CleanAll_mapB, packF, allIn1, Sg.get_ext, Sg.get_ext0, List.getElem?_cons_succ, List.getElem?_cons_zero, hx, blCells, blPV, hmg]
   refine ⟨.inr (by trivial), ?_⟩
   first | refine Fsa hcl rfl ?_ | refine Fse hcl rfl ?_
   try simp only [go_sem]
   all_goals
    first | rfl | (simp_all; done) | (simp_all; omega) | (rw [← hres]; simp only [chkBls]; (repeat' split) <;> ((first | rfl | omega | (simp_all; done) | (simp_all; omega))))
  try simp only [nrm] at c6
  refine W_skip (K14 _ _ ?_)
  refine W_region [2, 6, 19, 20, 21] fun R hR => ?_
  simp only [go_sem, lk116, up116, lkX, upX, lkB, upB, CleanAll_mapB, packF, allIn1, Sg.get_ext, Sg.get_ext0, List.getElem?_cons_succ, List.getElem?_cons_zero, hx, blCells, blPV, hmg]
  try simp (disch := omega) only [wrapI, wrapU]
  refine hR _ _ ?_; clear hR R
  try simp only [go_sem, lk116, up116, lkX, upX, lkB, upB, CleanAll_mapB, packF, allIn1, Sg.get_ext, Sg.get_ext0, List.getElem?_cons_succ, List.getElem?_cons_zero, hx, blCells, blPV, hmg]
  refine ⟨i + 1, ?_, by (try simp only []); omega, ?_⟩
  ·refine Weak.trans (Weak.cutX 2 0 (by omega) (by omega) hcl (by simp only [go_sem, CleanAll_mapB] <;> omega) (by simp only [go_sem] <;> omega)) ?_
   simp only [go_sem]
   exact Weak.eq rfl (by rw [hsn, mapS_snoc])
  try dsimp only
  refine ⟨hi', ?_⟩
  rw [hsn, hinv]; simp [*]
 try simp only [nrm] at c3
 have hdrop : l.drop i = [] := List.drop_eq_nil_of_le (by omega)
 rw [hdrop] at hinv
 simp only [chkBlsF] at hinv
 refine W_exit ?_
 simp only [go_sem, lk116, up116, lkX, upX, lkB, upB, CleanAll_mapB, packF, allIn1, Sg.get_ext, Sg.get_ext0, List.getElem?_cons_succ, List.getElem?_cons_zero]
 refine K10 _ _ ?_
 refine W_sr [4] fun R hR => ?_
 simp only [go_sem, lk116, up116, lkX, upX, lkB, upB, CleanAll_mapB, packF, allIn1, Sg.get_ext, Sg.get_ext0, List.getElem?_cons_succ, List.getElem?_cons_zero]
 refine hR _ _ ?_; clear hR R
 try simp only [go_sem, lk116, up116, lkX, upX, lkB, upB, CleanAll_mapB, packF, allIn1, Sg.get_ext, Sg.get_ext0, List.getElem?_cons_succ, List.getElem?_cons_zero]
 refine W_ret ?_
 simp only [go_sem, lk116, up116, lkX, upX, lkB, upB, CleanAll_mapB, packF, allIn1, Sg.get_ext, Sg.get_ext0, List.getElem?_cons_succ, List.getElem?_cons_zero]
 refine ⟨.inr (by trivial), ?_⟩
 first | refine Fsa hcl rfl ?_ | refine Fse hcl rfl ?_
 try simp only [go_sem]
 all_goals
  first | rfl | (simp_all; done) | (simp_all; omega) | (rw [← hres]; simp only [chkBls]; (repeat' split) <;> ((first | rfl | omega | (simp_all; done) | (simp_all; omega))))
end Go.Proofs.YtpkkegbiddcodaaGreat.So
