/-
  Numbers that follow from numbers (bateriakit): the drum.
  Walks: drums made of numbers, spans (bateriakit).
  Walks: an order made of numbers (bateriakit).
  Walks: preferences made of numbers (bateriakit).
  Contests and ballots made of numbers may be (song, plain).
  What the results of a contest hang on: the ballots that count, in any order (song, plain).
  Ballots that do not count, left out; one more of somebody who has voted (song, plain).
  Standings sorted, and those that are kept: the plain law (song).
  Who can be kept, and who must be: the smallest sums (song, plain).
  A vote more: what it does to a round (song, plain).
  A contest with a vote more (song, plain).
  Walks: the document's check of contests and ballots (song).
  Walks: the document's ballots that count, who is ahead, who is kept (song).
  Walks: the document's standings and results (song).
  Walks: the document's results of rounds, and their songs (song).
  Rows of numbers, by place (song).
  Walks: who has not voted yet, and a standing with more (song, bateriaref04).
  Walks: may a song be kept, is it kept whatever happens (song, bateriaref04).
  Walks: what could still be, and how many votes a song needs (song, bateriaref04).
-/
import Derived.Test.YtnolifglhhjdnaaGreatPe
import Derived.CallsIn
import Derived.RangeFuncLeaves
import Derived.RangeFuncRecord
import Derived.OrdersIn
import Derived.Below
import Derived.Laws.World
import Derived.Laws.StructEq
import Derived.Laws.Append
import Derived.MapKept
import Derived.ProofKit
import Derived.Carry
import Derived.Handed
import Derived.ChangeCalls
import Derived.RangeFuncIn
import Derived.RangeFuncNested
import Derived.Test.YtnolifglhhjdnaaGreatProg
import Derived.KernelRfl
import Derived.IntWalk
import Derived.Sort.OwnSortedInts
import Derived.Lib.SlicesCompact
import Derived.Test.YtnolifglhhjdnaaGreatRows
import Derived.Shelf.Sort.Plain
import Derived.Shelf.Slices.In.SortNone
import Derived.Shelf.Small.Bits
import Derived.JoinedOf
set_option linter.unusedSimpArgs false
set_option linter.unusedVariables false
namespace Go.Proofs.YtnolifglhhjdnaaGreat
open Go Go.RowKit
set_option maxRecDepth 100000
abbrev D (α : Type) := Int → α × Int
def dret {α : Type} (a : α) : D α := fun b => (a, b)
def dbind {α β : Type} (m : D α) (f : α → D β) : D β := fun b => f (m b).1 (m b).2
def Holds {α : Type} (m : D α) (R : α → Prop) : Prop := ∀ b, R (m b).1
theorem Holds.ret {α : Type} {a : α} {R : α → Prop} (h : R a) : Holds (dret a) R := fun _ => h
theorem Holds.bind {α β : Type} {m : D α} {f : α → D β} {R : α → Prop} {S : β → Prop} (h : Holds m R) (k : ∀ a, R a → Holds (f a) S) : Holds (dbind m f) S := fun b => k _ (h b) _
theorem Holds.mono {α : Type} {m : D α} {R S : α → Prop} (h : Holds m R) (k : ∀ a, R a → S a) : Holds m S := fun b => k _ (h b)
def xorU (a b : Int) : Int := match arith .xor .u64 a b with | some (.int _ n) => n | _ => 0
def hitB (b : Int) : Int := IntKind.u64.wrap (IntKind.u64.wrap (b * 15074714826142052245) + 11400714819323198485)
def hitM (x : Int) : Int := IntKind.u64.wrap (xorU x (x.fdiv 4294967296) * 15760922415973212899)
def hitX (b : Int) : Int := xorU (hitM (hitM (hitB b))) ((hitM (hitM (hitB b))).fdiv 4294967296)
theorem wrapU_bd (n : Int) : 0 ≤ IntKind.u64.wrap n ∧ IntKind.u64.wrap n ≤ 18446744073709551615 := by
 have h : IntKind.u64.wrap n = n % 18446744073709551616 := rfl
 rw [h]; omega
theorem hitX_bd (b : Int) : 0 ≤ hitX b ∧ hitX b ≤ 18446744073709551615 := wrapU_bd _
def roll0 (n : Int) : D Int := fun b => if n < 2 then (0, b) else ((hitX b / 2) % n, hitB b)
noncomputable def roll : Int → D Int := Classical.choose (⟨roll0, rfl⟩ : ∃ f, f = roll0)
theorem roll_eq : roll = fun n b => if n < 2 then (0, b) else ((hitX b / 2) % n, hitB b) := Classical.choose_spec (⟨roll0, rfl⟩ : ∃ f, f = roll0)
noncomputable def mid (lo hi : Int) : D Int := fun b => (lo + (roll (hi - lo + 1) b).1, (roll (hi - lo + 1) b).2)
noncomputable def anyOf (l : List Int) : D Int := fun b => ((l[(roll l.length b).1.toNat]?).getD 0, (roll l.length b).2)
theorem roll_bd (n : Int) : Holds (roll n) fun r => 0 ≤ r ∧ r < max n 1 := by
 intro b
 rw [roll_eq]
 dsimp only
 have := hitX_bd b
 by_cases h : n < 2
 ·rw [if_pos h]; simp only []; omega
 ·rw [if_neg h]
  have h1 := Int.emod_nonneg (hitX b / 2) (show n ≠ 0 by omega)
  have h2 := Int.emod_lt_of_pos (hitX b / 2) (show 0 < n by omega)
  simp only []; omega
theorem mid_bd (lo hi : Int) (h : lo ≤ hi) : Holds (mid lo hi) fun r => lo ≤ r ∧ r ≤ hi := by
 intro b
 have := roll_bd (hi - lo + 1) b
 simp only [mid] at *
 omega
theorem anyOf_mem (l : List Int) (h : l ≠ []) : Holds (anyOf l) fun r => r ∈ l := by
 intro b
 have := roll_bd l.length b
 simp only [anyOf] at *
 have hl : 0 < l.length := by cases l with | nil => exact absurd rfl h | cons => simp
 have hlt : (roll (l.length : Int) b).1.toNat < l.length := by omega
 rw [List.getElem?_eq_getElem hlt]
 exact List.getElem_mem hlt
set_option maxHeartbeats 2000000 in
theorem hit_pc (Y : YEnv) (σ : Sg) (d : Nat) (b : Int) (hd : σ.store[d]? = some (some [.int .u64 b])) :
  PC Tryz.prog Y 39 [.ptr d 0] σ (.int .u64 (hitX b)) (σ.setVar d [.int .u64 (hitB b)]) := by
 refine PC_of_W Tryz.func39 rfl (by kernel_rfl) Tryz.ntmps39 (by simp) fun hcl hca => ?_
 have hlt := lt_of_get hd
 refine W_seq fun kz1 kq1 => ?_
 refine W_region [0] fun R hR => ?_
 simp only [go_sem, ldS_at hd, stX_at hd, ldS_sv hlt, stX_sv hlt, sv_ext hlt, sv_ext_sv hlt]
 refine hR _ _ (kq1 _ _ ?_); clear hR R; try clear kq1 kz1
 try simp only [go_sem, ldS_at hd, stX_at hd, ldS_sv hlt, stX_sv hlt, sv_ext hlt, sv_ext_sv hlt]
 refine W_seq fun kz2 kq2 => ?_
 refine W_region [0] fun R hR => ?_
 simp only [go_sem, ldS_at hd, stX_at hd, ldS_sv hlt, stX_sv hlt, sv_ext hlt, sv_ext_sv hlt]
 try simp (disch := omega) only [wrapI, wrapU]
 refine hR _ _ (kq2 _ _ ?_); clear hR R; try clear kq2 kz2
 try simp only [go_sem, ldS_at hd, stX_at hd, ldS_sv hlt, stX_sv hlt, sv_ext hlt, sv_ext_sv hlt]
 refine W_seq fun kz3 kq3 => ?_
 refine W_region [3] fun R hR => ?_
 simp only [go_sem, ldS_at hd, stX_at hd, ldS_sv hlt, stX_sv hlt, sv_ext hlt, sv_ext_sv hlt]
 refine hR _ _ (kq3 _ _ ?_); clear hR R; try clear kq3 kz3
 try simp only [go_sem, ldS_at hd, stX_at hd, ldS_sv hlt, stX_sv hlt, sv_ext hlt, sv_ext_sv hlt]
 refine W_seq fun kz4 kq4 => ?_
 refine W_region [3] fun R hR => ?_
 simp only [go_sem, ldS_at hd, stX_at hd, ldS_sv hlt, stX_sv hlt, sv_ext hlt, sv_ext_sv hlt]
 try simp (disch := omega) only [wrapI, wrapU]
 refine hR _ _ (kq4 _ _ ?_); clear hR R; try clear kq4 kz4
 try simp only [go_sem, ldS_at hd, stX_at hd, ldS_sv hlt, stX_sv hlt, sv_ext hlt, sv_ext_sv hlt]
 refine W_seq fun kz5 kq5 => ?_
 refine W_region [3] fun R hR => ?_
 simp only [go_sem, ldS_at hd, stX_at hd, ldS_sv hlt, stX_sv hlt, sv_ext hlt, sv_ext_sv hlt]
 try simp (disch := omega) only [wrapI, wrapU]
 refine hR _ _ (kq5 _ _ ?_); clear hR R; try clear kq5 kz5
 try simp only [go_sem, ldS_at hd, stX_at hd, ldS_sv hlt, stX_sv hlt, sv_ext hlt, sv_ext_sv hlt]
 refine W_seq fun kz6 kq6 => ?_
 refine W_region [2] fun R hR => ?_
 simp only [go_sem, ldS_at hd, stX_at hd, ldS_sv hlt, stX_sv hlt, sv_ext hlt, sv_ext_sv hlt]
 refine hR _ _ (kq6 _ _ ?_); clear hR R; try clear kq6 kz6
 try simp only [go_sem, ldS_at hd, stX_at hd, ldS_sv hlt, stX_sv hlt, sv_ext hlt, sv_ext_sv hlt]
 refine W_ret ?_
 simp only [go_sem, ldS_at hd, stX_at hd, ldS_sv hlt, stX_sv hlt, sv_ext hlt, sv_ext_sv hlt]
 refine ⟨.inr (by trivial), ?_⟩
 first | refine Fin_set hcl (by simp only [go_sem]) rfl (Wk_eq ?_ (by simp only [go_sem])) | refine Fin_set0 hcl (by simp only [go_sem]) rfl (Wk_eq ?_ (by simp only [go_sem]))
 try simp only [go_sem]
 all_goals
  simp only [hitX, hitM, hitB, xorU, go_sem]; simp (disch := omega) only [wrapU]
set_option maxHeartbeats 2000000 in
theorem Roll_lo (Y : YEnv) (σ : Sg) (d : Nat) (n : Int) (hn : n < 2) :
  PC Tryz.prog Y 33 [.ptr d 0, I n] σ (I 0) (σ) := by
 refine PC_of_W Tryz.func33 rfl (by kernel_rfl) Tryz.ntmps33 (by simp) fun hcl hca => ?_
 refine W_seq fun kz1 kq1 => ?_
 refine W_region [0, 1] fun R hR => ?_
 simp only [go_sem]
 refine hR _ _ (kq1 _ _ ?_); clear hR R; try clear kq1 kz1
 try simp only [go_sem]
 refine W_seq fun kz2 kq2 => ?_
 refine W_seq fun kz3 kq3 => ?_
 refine W_region [0, 1, 6] fun R hR => ?_
 simp only [go_sem]
 refine hR _ _ (kq3 _ _ ?_); clear hR R; try clear kq3 kz3
 try simp only [go_sem]
 refine W_cond rfl (fun c1 => ?_) (fun c1 => ?_)
 ·try simp only [nrm] at c1
  refine W_seq fun kz4 kq4 => ?_
  refine W_region [4] fun R hR => ?_
  simp only [go_sem]
  refine hR _ _ (kq4 _ _ ?_); clear hR R; try clear kq4 kz4
  try simp only [go_sem]
  refine W_ret ?_
  simp only [go_sem]
  refine ⟨.inr (by trivial), ?_⟩
  first | refine Fin_same hcl rfl (Wk_eq ?_ (by simp only [go_sem])) | refine Fin_self hcl rfl (Wk_eq ?_ (by simp only [go_sem]))
  try simp only [go_sem]
  all_goals
   first | rfl | (simp_all; done) | (simp_all; omega)
 ·try simp only [nrm] at c1
  exfalso
  omega
set_option maxHeartbeats 2000000 in
theorem Roll_hi (Y : YEnv) (σ : Sg) (d : Nat) (b : Int) (hd : σ.store[d]? = some (some [.int .u64 b])) (n : Int) (hn : 2 ≤ n) (hn2 : n < 2 ^ 62) :
  PC Tryz.prog Y 33 [.ptr d 0, I n] σ (I ((hitX b / 2) % n)) (σ.setVar d [.int .u64 (hitB b)]) := by
 refine PC_of_W Tryz.func33 rfl (by kernel_rfl) Tryz.ntmps33 (by simp) fun hcl hca => ?_
 have hlt := lt_of_get hd
 have hb := hitX_bd b
 have e1 : (hitX b).fdiv 2 = hitX b / 2 := Int.fdiv_eq_ediv_of_nonneg _ (by omega)
 have e2 : (hitX b / 2).tmod n = (hitX b / 2) % n := Int.tmod_eq_emod_of_nonneg (by omega)
 have h1 := Int.emod_nonneg (hitX b / 2) (show n ≠ 0 by omega)
 have h2 := Int.emod_lt_of_pos (hitX b / 2) (show 0 < n by omega)
 have e3 : ¬ n = 0 := by omega
 have e4 : IntKind.u64.wrap n = n := wrapU (by omega) (by omega)
 refine W_seq fun kz1 kq1 => ?_
 refine W_region [0, 1] fun R hR => ?_
 simp only [go_sem, ldS_at hd, stX_at hd, ldS_sv hlt, stX_sv hlt, sv_ext hlt, sv_ext_sv hlt]
 refine hR _ _ (kq1 _ _ ?_); clear hR R; try clear kq1 kz1
 try simp only [go_sem, ldS_at hd, stX_at hd, ldS_sv hlt, stX_sv hlt, sv_ext hlt, sv_ext_sv hlt]
 refine W_seq fun kz2 kq2 => ?_
 refine W_seq fun kz3 kq3 => ?_
 refine W_region [0, 1, 6] fun R hR => ?_
 simp only [go_sem, ldS_at hd, stX_at hd, ldS_sv hlt, stX_sv hlt, sv_ext hlt, sv_ext_sv hlt]
 refine hR _ _ (kq3 _ _ ?_); clear hR R; try clear kq3 kz3
 try simp only [go_sem, ldS_at hd, stX_at hd, ldS_sv hlt, stX_sv hlt, sv_ext hlt, sv_ext_sv hlt]
 refine W_cond rfl (fun c1 => ?_) (fun c1 => ?_)
 ·try simp only [nrm] at c1
  exfalso
  omega
 ·try simp only [nrm] at c1
  refine W_skip (kq2 _ _ ?_)
  refine W_seq fun kz4 kq4 => ?_
  refine W_region [4] fun R hR => ?_
  simp only [go_sem, ldS_at hd, stX_at hd, ldS_sv hlt, stX_sv hlt, sv_ext hlt, sv_ext_sv hlt, e4, e1, e2, e3]
  refine GCall_of (hit_pc Y _ d b hd) ?_
  simp only [go_sem, ldS_at hd, stX_at hd, ldS_sv hlt, stX_sv hlt, sv_ext hlt, sv_ext_sv hlt, e4, e1, e2, e3]
  try simp (disch := omega) only [wrapI, wrapU]
  refine hR _ _ (kq4 _ _ ?_); clear hR R; try clear kq4 kz4
  try simp only [go_sem, ldS_at hd, stX_at hd, ldS_sv hlt, stX_sv hlt, sv_ext hlt, sv_ext_sv hlt]
  refine W_ret ?_
  simp only [go_sem, ldS_at hd, stX_at hd, ldS_sv hlt, stX_sv hlt, sv_ext hlt, sv_ext_sv hlt]
  refine ⟨.inr (by trivial), ?_⟩
  first | refine Fin_set hcl (by simp only [go_sem]) rfl (Wk_eq ?_ (by simp only [go_sem])) | refine Fin_set0 hcl (by simp only [go_sem]) rfl (Wk_eq ?_ (by simp only [go_sem]))
  try simp only [go_sem]
  all_goals
   first | rfl | (simp_all; done) | (simp_all; omega)
theorem Roll_pc (Y : YEnv) (σ : Sg) (d : Nat) (b : Int) (hd : σ.store[d]? = some (some [.int .u64 b])) (n : Int) (hn2 : n < 2 ^ 62) : PC Tryz.prog Y 33 [.ptr d 0, I n] σ (I (roll n b).1) (σ.setVar d [.int .u64 (roll n b).2]) := by
 rw [roll_eq]
 dsimp only
 by_cases h : n < 2
 ·rw [if_pos h]; simp only []; rw [sv_self hd]; exact Roll_lo Y σ d n h
 ·rw [if_neg h]; exact Roll_hi Y σ d b hd n (by omega) hn2
set_option maxHeartbeats 2000000 in
theorem Mid_pc (Y : YEnv) (σ : Sg) (d : Nat) (b : Int) (hd : σ.store[d]? = some (some [.int .u64 b])) (lo hi : Int) (h1 : -2 ^ 60 ≤ lo) (h2 : lo ≤ 2 ^ 60) (h3 : -2 ^ 60 ≤ hi) (h4 : hi ≤ 2 ^ 60) :
  PC Tryz.prog Y 57 [.ptr d 0, I lo, I hi] σ (I (mid lo hi b).1) (σ.setVar d [.int .u64 (mid lo hi b).2]) := by
 refine PC_of_W Tryz.func57 rfl (by kernel_rfl) Tryz.ntmps57 (by simp) fun hcl hca => ?_
 have hlt := lt_of_get hd
 have hr := roll_bd (hi - lo + 1) b
 simp only [] at hr
 refine W_seq fun kz1 kq1 => ?_
 refine W_region [0, 1, 2] fun R hR => ?_
 simp only [go_sem, ldS_at hd, stX_at hd, ldS_sv hlt, stX_sv hlt, sv_ext hlt, sv_ext_sv hlt]
 refine hR _ _ (kq1 _ _ ?_); clear hR R; try clear kq1 kz1
 try simp only [go_sem, ldS_at hd, stX_at hd, ldS_sv hlt, stX_sv hlt, sv_ext hlt, sv_ext_sv hlt]
 refine W_seq fun kz2 kq2 => ?_
 refine W_region [6] fun R hR => ?_
 simp only [go_sem, ldS_at hd, stX_at hd, ldS_sv hlt, stX_sv hlt, sv_ext hlt, sv_ext_sv hlt]
 try simp (disch := omega) only [wrapI, wrapU]
 refine GCall_of (Roll_pc Y _ d b (by first | exact hd | exact sv_get hlt | exact get_svx hlt | exact get_extx hd) _ (by omega)) ?_
 simp only [go_sem, ldS_at hd, stX_at hd, ldS_sv hlt, stX_sv hlt, sv_ext hlt, sv_ext_sv hlt]
 try simp (disch := omega) only [wrapI, wrapU]
 refine hR _ _ (kq2 _ _ ?_); clear hR R; try clear kq2 kz2
 try simp only [go_sem, ldS_at hd, stX_at hd, ldS_sv hlt, stX_sv hlt, sv_ext hlt, sv_ext_sv hlt]
 refine W_ret ?_
 simp only [go_sem, ldS_at hd, stX_at hd, ldS_sv hlt, stX_sv hlt, sv_ext hlt, sv_ext_sv hlt]
 refine ⟨.inr (by trivial), ?_⟩
 first | refine Fin_set hcl (by simp only [go_sem]) rfl (Wk_eq ?_ (by simp only [go_sem])) | refine Fin_set0 hcl (by simp only [go_sem]) rfl (Wk_eq ?_ (by simp only [go_sem]))
 try simp only [go_sem]
 all_goals
  first | rfl | (simp_all; done) | (simp_all; omega)
set_option maxHeartbeats 2000000 in
theorem Any_pc (Y : YEnv) (σ : Sg) (d : Nat) (b : Int) (hd : σ.store[d]? = some (some [.int .u64 b])) (l : List Int) (hl : l ≠ []) (hl2 : l.length < 2 ^ 50) :
  PC Tryz.prog Y 58 [.ptr d 0, .isl (l.map I) .exact] σ (I (anyOf l b).1) (σ.setVar d [.int .u64 (anyOf l b).2]) := by
 refine PC_of_W Tryz.func58 rfl (by kernel_rfl) Tryz.ntmps58 (by simp) fun hcl hca => ?_
 have hlt := lt_of_get hd
 have hr := roll_bd l.length b
 simp only [] at hr
 have hl0 : 0 < l.length := by cases l with | nil => exact absurd rfl hl | cons => simp
 have hlt2 : (roll (l.length : Int) b).1.toNat < l.length := by omega
 obtain ⟨x, hx⟩ : ∃ x, l[(roll (l.length : Int) b).1.toNat]? = some x := ⟨_, List.getElem?_eq_getElem hlt2⟩
 have hnn := hr.1
 refine W_seq fun kz1 kq1 => ?_
 refine W_region [0, 1] fun R hR => ?_
 simp only [go_sem, ldS_at hd, stX_at hd, ldS_sv hlt, stX_sv hlt, sv_ext hlt, sv_ext_sv hlt]
 refine hR _ _ (kq1 _ _ ?_); clear hR R; try clear kq1 kz1
 try simp only [go_sem, ldS_at hd, stX_at hd, ldS_sv hlt, stX_sv hlt, sv_ext hlt, sv_ext_sv hlt]
 refine W_seq fun kz2 kq2 => ?_
 refine W_seq fun kz3 kq3 => ?_
 refine W_region [0, 1, 7] fun R hR => ?_
 simp only [go_sem, ldS_at hd, stX_at hd, ldS_sv hlt, stX_sv hlt, sv_ext hlt, sv_ext_sv hlt]
 refine hR _ _ (kq3 _ _ ?_); clear hR R; try clear kq3 kz3
 try simp only [go_sem, ldS_at hd, stX_at hd, ldS_sv hlt, stX_sv hlt, sv_ext hlt, sv_ext_sv hlt]
 refine W_cond rfl (fun c1 => ?_) (fun c1 => ?_)
 ·try simp only [nrm] at c1
  exfalso
  omega
 ·try simp only [nrm] at c1
  refine W_skip (kq2 _ _ ?_)
  refine W_seq fun kz4 kq4 => ?_
  refine W_region [4] fun R hR => ?_
  simp only [go_sem, ldS_at hd, stX_at hd, ldS_sv hlt, stX_sv hlt, sv_ext hlt, sv_ext_sv hlt, hnn, hx]
  refine GCall_of (Roll_pc Y _ d b (by first | exact hd | exact sv_get hlt | exact get_svx hlt | exact get_extx hd) _ (by omega)) ?_
  simp only [go_sem, ldS_at hd, stX_at hd, ldS_sv hlt, stX_sv hlt, sv_ext hlt, sv_ext_sv hlt, hnn, hx]
  refine hR _ _ (kq4 _ _ ?_); clear hR R; try clear kq4 kz4
  try simp only [go_sem, ldS_at hd, stX_at hd, ldS_sv hlt, stX_sv hlt, sv_ext hlt, sv_ext_sv hlt]
  refine W_ret ?_
  simp only [go_sem, ldS_at hd, stX_at hd, ldS_sv hlt, stX_sv hlt, sv_ext hlt, sv_ext_sv hlt]
  refine ⟨.inr (by trivial), ?_⟩
  first | refine Fin_set hcl (by simp only [go_sem]) rfl (Wk_eq ?_ (by simp only [go_sem])) | refine Fin_set0 hcl (by simp only [go_sem]) rfl (Wk_eq ?_ (by simp only [go_sem]))
  try simp only [go_sem]
  all_goals
   simp only [anyOf, hx, Option.getD_some]
def drumB : List Int → Int → Int
 | [], b => b
 | x :: r, b => drumB r (hitB (xorU b (IntKind.u64.wrap x)))
set_option maxHeartbeats 2000000 in
theorem DrumOf_pc (Y : YEnv) (σ : Sg) (nums : List Int) (hl : nums.length < 2 ^ 60) :
  PC Tryz.prog Y 8 [ints nums] σ (.ptr σ.store.length 0) (σ.ext [some [.int .u64 (drumB nums 2685821657736338717)]] []) := by
 refine PC_of_W Tryz.func8 rfl (by kernel_rfl) Tryz.ntmps8 (by simp) fun hcl hca => ?_
 refine W_seq fun kz1 kq1 => ?_
 refine W_region [0] fun R hR => ?_
 simp only [go_sem]
 refine hR _ _ (kq1 _ _ ?_); clear hR R; try clear kq1 kz1
 try simp only [go_sem]
 refine W_seq fun kz2 kq2 => ?_
 refine W_region [0, 3] fun R hR => ?_
 simp only [go_sem]
 refine hR _ _ (kq2 _ _ ?_); clear hR R; try clear kq2 kz2
 try simp only [go_sem]
 refine W_seq fun kz3 kq3 => ?_
 refine W_seq fun kz4 kq4 => ?_
 refine W_region [0, 3, 4] fun R hR => ?_
 simp only [go_sem]
 refine hR _ _ (kq4 _ _ ?_); clear hR R; try clear kq4 kz4
 try simp only [go_sem]
 refine W_block ?_
 refine W_loopT (α := Nat × Int) (fun ⟨i, b⟩ => [(4, I i)]) (fun ⟨i, b⟩ => σ.ext [some [.int .u64 b]] []) (fun ⟨i, b⟩ => i ≤ nums.length ∧ drumB nums 2685821657736338717 = drumB (nums.drop i) b) (fun ⟨i, b⟩ => nums.length - i) ((0, 2685821657736338717)) rfl (by first | rfl | (simp only [go_sem]; done) | (simp only [go_sem]; rfl)) (⟨Nat.zero_le _, rfl⟩) ?_
 rintro ⟨i, b⟩ ⟨hi, hb⟩
 refine W_seq fun kz5 kq5 => ?_
 refine W_seq fun kz6 kq6 => ?_
 refine W_region [0, 3, 4, 10] fun R hR => ?_
 simp only [go_sem]
 refine hR _ _ (kq6 _ _ ?_); clear hR R; try clear kq6 kz6
 try simp only [go_sem]
 refine W_cond rfl (fun c1 => ?_) (fun c1 => ?_)
 ·try simp only [nrm] at c1
  have hi' : i < nums.length := by first | assumption | omega
  obtain ⟨x, hx⟩ : ∃ x, nums[i]? = some x := ⟨nums[i], by simp [hi']⟩
  have hdrop : nums.drop i = x :: nums.drop (i + 1) := by
   rw [List.drop_eq_getElem_cons hi']; congr 1; exact (List.getElem?_eq_some_iff.1 hx).2
  rw [hdrop] at hb
  simp only [drumB] at hb
  refine W_skip (kq5 _ _ ?_)
  refine W_seq fun kz7 kq7 => ?_
  refine W_block ?_
  refine W_seq fun kz8 kq8 => ?_
  refine W_draw [0, 3, 4] [0, 1, 2, 3, 4, 5, 6, 7, 8, 9, 10, 11, 12, 13] [] [[], [], [1], [1, 2], [1, 2, 3], [], [], [5, 6], [5, 6, 7], [5, 6, 7, 8], [1, 2, 3, 4, 5, 6, 7, 8, 9], [0, 1, 2, 3, 4, 5, 6, 7, 8, 9, 10], [0, 1, 2, 3, 4, 5, 6, 7, 8, 9, 10, 11], [0, 1, 2, 3, 4, 5, 6, 7, 8, 9, 10, 11, 12]] mixed (by kernel_rfl) fun R hR => ?_
  simp only [go_sem, hx]
  try simp (disch := omega) only [wrapI, wrapU]
  try refine And.intro (by repeat' (first | refine And.intro ?_ ?_ | exact GOr_right (fun _ => by simp only [go_sem, hx]))) ?_
  refine hR _ _ (kq8 _ _ ?_); clear hR R; try clear kq8 kz8
  try simp only [go_sem, hx]
  refine W_region [0, 3, 4] fun R hR => ?_
  simp only [go_sem, hx]
  refine GCall_of (hit_pc Y _ _ _ (Sg.get_ext0 _ _ _ _)) ?_
  simp only [go_sem, hx]
  refine hR _ _ (kq7 _ _ ?_); clear hR R; try clear kq7 kz7
  try simp only [go_sem, hx]
  refine W_region [0, 3, 4] fun R hR => ?_
  simp only [go_sem, hx]
  try simp (disch := omega) only [wrapI, wrapU]
  refine hR _ _ ?_; clear hR R
  try simp only [go_sem, hx]
  refine ⟨(i + 1, hitB (xorU b (IntKind.u64.wrap x))), ?_, by (try simp only []); omega, ?_⟩
  ·exact Weak.eq (by rfl) (by simp only [xorU, go_sem]; simp (disch := omega) only [wrapU])
  ·try dsimp only
   exact ⟨hi', hb⟩
 ·try simp only [nrm] at c1
  have hdrop : nums.drop i = [] := List.drop_eq_nil_of_le (by omega)
  rw [hdrop] at hb
  simp only [drumB] at hb
  refine W_exit ?_
  simp only [go_sem]
  refine kq3 _ _ ?_
  refine W_seq fun kz9 kq9 => ?_
  refine W_region [2] fun R hR => ?_
  simp only [go_sem]
  refine hR _ _ (kq9 _ _ ?_); clear hR R; try clear kq9 kz9
  try simp only [go_sem]
  refine W_ret ?_
  simp only [go_sem]
  refine ⟨.inr (by trivial), ?_⟩
  rw [hb]; exact Fin_ext 1 0 hcl rfl (Wk_eq rfl (by simp only [go_sem] <;> omega)) (by show CleanLs _ _ _ _; simp only [go_sem])
  try simp only [go_sem]
  all_goals
   skip
def swapAt (l : List Int) (i k : Nat) : List Int := (l.set i ((l[k]?).getD 0)).set k ((l[i]?).getD 0)
theorem swapAt_len (l : List Int) (i k : Nat) : (swapAt l i k).length = l.length := by simp [swapAt]
theorem swapAt_perm {l : List Int} {i k : Nat} (hi : i < l.length) (hk : k < l.length) : (swapAt l i k).Perm l := by
 unfold swapAt
 rw [List.getElem?_eq_getElem hi, List.getElem?_eq_getElem hk]
 exact List.set_set_perm hi hk
noncomputable def orderA (n : Nat) : Nat → List Int → D (List Int)
 | 0, acc => dret acc
 | j + 1, acc => dbind (roll (((n - (j + 1) : Nat) : Int) + 1)) fun k => orderA n j (swapAt (acc ++ [((n - (j + 1) : Nat) : Int)]) (n - (j + 1)) k.toNat)
noncomputable def orderD (n : Nat) : D (List Int) := orderA n n []
theorem orderA_perm (n : Nat) : ∀ (j : Nat) (acc : List Int), j ≤ n → acc.Perm ((List.range (n - j)).map fun (i : Nat) => (i : Int)) → Holds (orderA n j acc) fun l => l.Perm ((List.range n).map fun (i : Nat) => (i : Int)) := by
 intro j
 induction j with
 | zero => intro acc _ h; exact .ret h
 | succ j ih =>
  intro acc hj h
  refine (roll_bd _).bind fun k hk => ih _ (by omega) ?_
  have hl : acc.length = n - (j + 1) := by rw [h.length_eq]; simp
  have hkl : k.toNat < (acc ++ [((n - (j + 1) : Nat) : Int)]).length := by simp; omega
  refine (swapAt_perm (by simp; omega) hkl).trans ?_
  have e : n - j = (n - (j + 1)) + 1 := by omega
  rw [e, List.range_succ, List.map_append]
  exact h.append_right _
theorem orderD_perm (n : Nat) : Holds (orderD n) fun l => l.Perm ((List.range n).map fun (i : Nat) => (i : Int)) := orderA_perm n n [] (Nat.le_refl _) (by simp)
theorem glI_of {l : List Int} {m : Nat} (h : l.length = m + 1) (n : Nat) : glI n l = .gsl (n + m) (m + 1) 1 := by
 cases l with
 | nil => simp at h
 | cons x l => simp only [List.length_cons] at h; simp only [glI]; rw [show l.length = m by omega]
theorem gsI_of {l : List Int} {m : Nat} (h : l.length = m + 1) : gsI l = List.replicate m none ++ [some (l.map I)] := by
 cases l with
 | nil => simp at h
 | cons x l => simp only [List.length_cons] at h; simp only [gsI]; rw [show l.length = m by omega]
theorem Weak.ungnilT {N : Nat} {lo : Nat × Nat} {E : Env} {σ : Sg} {t : Nat} (ht : E.get t = .gnil) : Weak N lo E σ (E.put (some t) (.isl [] .ro)) σ := by
 intro Ψ0 Ψ D a w hb le hr
 refine ⟨Ψ, le, hr.size, fun t' => ?_, hr.sg, hr.dsub, hr.defs⟩
 rw [get_put1]
 split
 ·rename_i e
  subst e
  have hv := hr.env t'
  rw [ht] at hv
  exact VR.of_gnil hv
 ·exact hr.env t'
theorem Weak.readI {N : Nat} {lo : Nat × Nat} {E : Env} {σ : Sg} {t : Nat} {A : List (Option (List PV))} {rm : List Nat} {ys : List LState} {out : List Int} (ht : E.get t = glI (σ.store.length + A.length) out) :
  Weak N lo E (σ.ext (A ++ gsI out) rm ys) (E.put (some t) (ints out)) (σ.ext (A ++ List.replicate out.length none) rm ys) := by
 cases out with
 | nil =>
  have h := Weak.ungnilT (N := N) (lo := lo) (E := E) (σ := σ.ext A rm ys) (t := t) ht
  simp only [gsI, List.append_nil, List.length_nil, List.replicate_zero]
  exact h
 | cons z zs =>
  have h := Weak.freeze (N := N) (lo := lo) (E := E) (σ := σ.ext (A ++ gsI (z :: zs)) rm ys) (t := t) (id := σ.store.length + (A.length + zs.length)) (len := zs.length + 1) (es := 1) (l := (z :: zs).map I) (by rw [ht]; simp only [glI, Nat.add_assoc]) (by rw [Sg.get_ext, rowC_ints]; exact gsI_get) (by simp) (fun q hq => by obtain ⟨x, _, rfl⟩ := List.mem_map.1 hq; rfl)
  rw [Sg.drop_ext, gsI_set] at h
  have e : List.replicate (z :: zs).length (none : Option (List PV)) = List.replicate zs.length none ++ [none] := by simp [List.replicate_succ']
  rw [e]
  exact h
set_option maxHeartbeats 4000000 in
theorem Order_pc (Y : YEnv) (σ : Sg) (d : Nat) (b : Int) (hd : σ.store[d]? = some (some [.int .u64 b])) (n : Nat) (hn : n < 2 ^ 40) :
  PC Tryz.prog Y 59 [.ptr d 0, I n] σ (ints (orderD n b).1) (σ.setVar d [.int .u64 (orderD n b).2]) := by
 refine PC_of_W Tryz.func59 rfl (by kernel_rfl) Tryz.ntmps59 (by simp) fun hcl hca => ?_
 have hlt := lt_of_get hd
 obtain ⟨res, hres⟩ : ∃ r, orderD n b = r := ⟨_, rfl⟩
 rw [hres]
 refine W_seq fun kz1 kq1 => ?_
 refine W_region [0, 1] fun R hR => ?_
 simp only [go_sem, ldS_at hd, stX_at hd, ldS_sv hlt, stX_sv hlt, sv_ext hlt, sv_ext_sv hlt]
 refine hR _ _ (kq1 _ _ ?_); clear hR R; try clear kq1 kz1
 try simp only [go_sem, ldS_at hd, stX_at hd, ldS_sv hlt, stX_sv hlt, sv_ext hlt, sv_ext_sv hlt]
 refine W_seq fun kz2 kq2 => ?_
 refine W_region [0, 1, 5] fun R hR => ?_
 simp only [go_sem, ldS_at hd, stX_at hd, ldS_sv hlt, stX_sv hlt, sv_ext hlt, sv_ext_sv hlt]
 refine hR _ _ (kq2 _ _ ?_); clear hR R; try clear kq2 kz2
 try simp only [go_sem, ldS_at hd, stX_at hd, ldS_sv hlt, stX_sv hlt, sv_ext hlt, sv_ext_sv hlt]
 refine W_seq fun kz3 kq3 => ?_
 refine W_seq fun kz4 kq4 => ?_
 refine W_region [0, 1, 5, 6] fun R hR => ?_
 simp only [go_sem, ldS_at hd, stX_at hd, ldS_sv hlt, stX_sv hlt, sv_ext hlt, sv_ext_sv hlt]
 refine hR _ _ (kq4 _ _ ?_); clear hR R; try clear kq4 kz4
 try simp only [go_sem, ldS_at hd, stX_at hd, ldS_sv hlt, stX_sv hlt, sv_ext hlt, sv_ext_sv hlt]
 refine W_block ?_
 refine W_weak (Weak.gnil (t := 5) rfl) ?_
 refine W_weak (Weak.keep [0, 1, 5, 6]) ?_
 simp only [go_sem]
 refine W_loopT (α := Nat × (List Int) × Int) (fun ⟨i, acc, b⟩ => [(5, glI σ.store.length acc), (6, I i)]) (fun ⟨i, acc, b⟩ => (σ.setVar d [.int .u64 b]).ext (gsI acc) []) (fun ⟨i, acc, b⟩ => i ≤ n ∧ acc.length = i ∧ res = orderA n (n - i) acc b) (fun ⟨i, acc, b⟩ => n - i) ((0, [], b)) rfl (by simp only [gsI, go_sem, sv_self hd]) (⟨Nat.zero_le _, rfl, hres.symm⟩) ?_
 rintro ⟨i, acc, b⟩ ⟨hi, hal, hinv⟩
 refine W_seq fun kz5 kq5 => ?_
 refine W_seq fun kz6 kq6 => ?_
 refine W_region [0, 1, 5, 6, 10] fun R hR => ?_
 simp only [go_sem, ldS_at hd, stX_at hd, ldS_sv hlt, stX_sv hlt, sv_ext hlt, sv_ext_sv hlt]
 refine hR _ _ (kq6 _ _ ?_); clear hR R; try clear kq6 kz6
 try simp only [go_sem, ldS_at hd, stX_at hd, ldS_sv hlt, stX_sv hlt, sv_ext hlt, sv_ext_sv hlt]
 refine W_cond rfl (fun c1 => ?_) (fun c1 => ?_)
 ·try simp only [nrm] at c1
  have hin : i < n := by first | omega | (simp at c1; omega)
  rw [show n - i = (n - (i + 1)) + 1 by omega] at hinv
  simp only [orderA, dbind] at hinv
  rw [show (n - (n - (i + 1) + 1) : Nat) = i by omega] at hinv
  have hkb := roll_bd ((i : Int) + 1) b
  obtain ⟨kz, hkz⟩ : ∃ z, (roll ((i : Int) + 1) b).1 = z := ⟨_, rfl⟩
  obtain ⟨b1, hb1⟩ : ∃ z, (roll ((i : Int) + 1) b).2 = z := ⟨_, rfl⟩
  simp only [hkz] at hkb
  obtain ⟨k, rfl⟩ : ∃ k : Nat, kz = k := ⟨kz.toNat, by omega⟩
  rw [hkz, hb1, Int.toNat_natCast] at hinv
  have hki : k < i + 1 := by omega
  have hL : (σ.setVar d [.int .u64 b1]).store.length = σ.store.length := sv_len
  have happ := appG_gl (σ := σ.setVar d [.int .u64 b1]) (A := []) (rm := []) (ys := []) (out := acc) (i : Int) (by omega)
  have hal2 : (acc ++ [(i : Int)]).length = i + 1 := by simp [hal]
  rw [glI_of hal2, gsI_of hal2] at happ
  obtain ⟨ac2, hac2⟩ : ∃ z, acc ++ [(i : Int)] = z := ⟨_, rfl⟩
  rw [hac2] at happ hal2 hinv
  simp only [go_sem, List.length_nil, hL] at happ
  obtain ⟨x, hx⟩ : ∃ z, ac2[i]? = some z := ⟨ac2[i]'(by omega), by simp⟩
  obtain ⟨y, hy⟩ : ∃ z, ac2[k]? = some z := ⟨ac2[k]'(by omega), by simp⟩
  have hsw : swapAt ac2 i k = (ac2.set i y).set k x := by simp only [swapAt, hx, hy, Option.getD_some]
  have hI1 : (i : Int) < ((i + 1 : Nat) : Int) := by omega
  have hI2 : (k : Int) < ((i + 1 : Nat) : Int) := by omega
  have hg1 : ∀ c : Option (List PV), (List.replicate i none ++ [c])[i]? = some c := fun c => by rw [List.getElem?_append_right (by simp)]; simp
  have hg2 : ∀ c c2 : Option (List PV), (List.replicate i none ++ [c]).set i c2 = List.replicate i none ++ [c2] := fun c c2 => by rw [List.set_append_right _ _ (by simp)]; simp
  have hm1 : i + 1 ≤ ac2.length := by omega
  have hm2 : k + 1 ≤ ac2.length := by omega
  have hsl : (swapAt ac2 i k).length = i + 1 := by rw [swapAt_len]; exact hal2
  refine W_skip (kq5 _ _ ?_)
  refine W_seq fun kz7 kq7 => ?_
  refine W_block ?_
  refine W_seq fun kz8 kq8 => ?_
  refine W_region [0, 1, 5, 6, 7] fun R hR => ?_
  simp only [go_sem, ldS_at hd, stX_at hd, ldS_sv hlt, stX_sv hlt, sv_ext hlt, sv_ext_sv hlt, hkz, hb1, hL]
  try simp (disch := omega) only [wrapI, wrapU]
  refine GCall_of (Roll_pc Y _ d b (by first | exact hd | exact sv_get hlt | exact get_svx hlt | exact get_extx hd) ((i : Int) + 1) (by omega)) ?_
  simp only [go_sem, ldS_at hd, stX_at hd, ldS_sv hlt, stX_sv hlt, sv_ext hlt, sv_ext_sv hlt, hkz, hb1, hL]
  try simp (disch := omega) only [wrapI, wrapU]
  refine hR _ _ (kq8 _ _ ?_); clear hR R; try clear kq8 kz8
  try simp only [go_sem, ldS_at hd, stX_at hd, ldS_sv hlt, stX_sv hlt, sv_ext hlt, sv_ext_sv hlt, hkz, hb1, hL]
  refine W_seq fun kz9 kq9 => ?_
  refine W_region [0, 1, 5, 6, 7] fun R hR => ?_
  simp only [go_sem, ldS_at hd, stX_at hd, ldS_sv hlt, stX_sv hlt, sv_ext hlt, sv_ext_sv hlt, hkz, hb1, hL, happ]
  try simp (disch := first | omega | (simp only [go_sem] <;> omega)) only [wrapI, wrapU, appX_exact, appX_tok]
  try simp only [go_sem, ldS_at hd, stX_at hd, ldS_sv hlt, stX_sv hlt, sv_ext hlt, sv_ext_sv hlt, hkz, hb1, hL, happ]
  refine hR _ _ (kq9 _ _ ?_); clear hR R; try clear kq9 kz9
  try simp only [go_sem, ldS_at hd, stX_at hd, ldS_sv hlt, stX_sv hlt, sv_ext hlt, sv_ext_sv hlt, hkz, hb1, hL]
  refine W_draw [0, 1, 5, 6] [0, 1, 2, 3, 4, 5, 6, 7, 8, 9, 10, 11, 12, 13, 14, 15] [(2, 15), (3, 15)] [[], [], [], [], [], [], [4, 5], [4, 5, 6], [], [], [8, 9], [8, 9, 10], [0, 1, 4, 5, 6, 7, 8, 9, 10, 11], [0, 1, 4, 5, 6, 7, 8, 9, 10, 11, 12], [0, 1, 2, 3, 4, 5, 6, 7, 8, 9, 10, 11, 12, 13], [0, 1, 2, 3, 4, 5, 6, 7, 8, 9, 10, 11, 12, 13, 14]] mixed (by kernel_rfl) fun R hR => ?_
  simp only [go_sem, ldS_at hd, stX_at hd, ldS_sv hlt, stX_sv hlt, sv_ext hlt, sv_ext_sv hlt, hkz, hb1, hL, hI1, hI2, iaM_nat (Int.ofNat_lt.1 hI1), iaM_nat (Int.ofNat_lt.1 hI2), Nat.mul_one, Nat.zero_add, hg1, hg2, hx, hy, hm1, hm2, List.getElem?_map, List.length_set]
  try refine And.intro (by repeat' (first | refine And.intro ?_ ?_ | exact GOr_right (fun _ => by simp only [go_sem, ldS_at hd, stX_at hd, ldS_sv hlt, stX_sv hlt, sv_ext hlt, sv_ext_sv hlt, hkz, hb1, hL, hI1, hI2, iaM_nat (Int.ofNat_lt.1 hI1), iaM_nat (Int.ofNat_lt.1 hI2), Nat.mul_one, Nat.zero_add, hg1, hg2, hx, hy, hm1, hm2, List.getElem?_map, List.length_set]))) ?_
  refine hR _ _ (kq7 _ _ ?_); clear hR R; try clear kq7 kz7
  try simp only [go_sem, ldS_at hd, stX_at hd, ldS_sv hlt, stX_sv hlt, sv_ext hlt, sv_ext_sv hlt, hkz, hb1, hL]
  refine W_region [0, 1, 5, 6] fun R hR => ?_
  simp only [go_sem, ldS_at hd, stX_at hd, ldS_sv hlt, stX_sv hlt, sv_ext hlt, sv_ext_sv hlt, hkz, hb1, hL]
  try simp (disch := omega) only [wrapI, wrapU]
  refine hR _ _ ?_; clear hR R
  try simp only [go_sem, ldS_at hd, stX_at hd, ldS_sv hlt, stX_sv hlt, sv_ext hlt, sv_ext_sv hlt, hkz, hb1, hL]
  refine ⟨(i + 1, swapAt ac2 i k, b1), ?_, by (try simp only []); omega, ?_⟩
  ·refine Weak.eq ?_ ?_
   ·simp only [go_sem, glI_of hsl]
    first | done | rfl | simp
   ·rw [gsI_of hsl, hsw]
  ·try dsimp only
   exact ⟨by omega, hsl, by rw [hinv]⟩
 ·try simp only [nrm] at c1
  have hie : n = i := by first | omega | (simp at c1; omega)
  subst hie
  rw [Nat.sub_self] at hinv
  simp only [orderA, dret] at hinv
  refine W_exit ?_
  simp only [go_sem, ldS_at hd, stX_at hd, ldS_sv hlt, stX_sv hlt, sv_ext hlt, sv_ext_sv hlt]
  refine kq3 _ _ ?_
  refine W_seq fun kz10 kq10 => ?_
  refine W_weak (Weak.readI (t := 5) (A := []) (out := acc) (by simp only [go_sem, sv_len])) ?_
  refine W_weak (Weak.keep [5]) ?_
  simp only [go_sem]
  refine W_region [4] fun R hR => ?_
  simp only [go_sem, ldS_at hd, stX_at hd, ldS_sv hlt, stX_sv hlt, sv_ext hlt, sv_ext_sv hlt]
  refine hR _ _ (kq10 _ _ ?_); clear hR R; try clear kq10 kz10
  try simp only [go_sem, ldS_at hd, stX_at hd, ldS_sv hlt, stX_sv hlt, sv_ext hlt, sv_ext_sv hlt]
  refine W_ret ?_
  simp only [go_sem, ldS_at hd, stX_at hd, ldS_sv hlt, stX_sv hlt, sv_ext hlt, sv_ext_sv hlt]
  refine ⟨.inr (by trivial), ?_⟩
  rw [hinv]; refine Fin_set hcl (by simp only [go_sem]) rfl (Wk_eq rfl ?_)
  try simp only [go_sem]
  all_goals
   simp only [go_sem]
theorem mem2 {a b r : Int} (h : r ∈ [a, b]) : r = a ∨ r = b := by simpa using h
theorem mem3 {a b c r : Int} (h : r ∈ [a, b, c]) : r = a ∨ r = b ∨ r = c := by simpa using h
theorem nodup_range (n : Nat) : ((List.range n).map fun (i : Nat) => (i : Int)).Nodup := by
 rw [List.nodup_iff_pairwise_ne, List.pairwise_map]
 refine List.Pairwise.imp ?_ (List.nodup_range (n := n))
 intro a b h e
 exact h (by omega)
theorem unl_true {b : Bool} {e : Int} (h : b = true) : unl b e = 0 := by unfold unl; rw [h]; rfl
theorem chkBl_of {c : Contest} {b : Ballot} (h : BlV c b) : chkBl c b = 0 := by
 have h1 : bl1 c b = 0 := unl_true (inR_true.2 (by have := h.rd; omega))
 have h2 : bl2 b = 0 := unl_true (inR_true.2 (by have := h.kd; omega))
 have h3 : bl3 c b = 0 := unl_true (inR_true.2 (by have := h.vt; omega))
 have h4 : bl4 c b = 0 := unl_true (inR_true.2 (by have := h.sg; omega))
 have h5 : bl5 c b = 0 := by
  have := h.pt
  unfold bl5
  split
  ·rename_i hk
   rw [if_pos hk] at this
   exact unl_true (by simp; omega)
  ·rename_i hk
   rw [if_neg hk] at this
   exact unl_true (inR_true.2 this)
 simp [chkBl, blEs, firstE, h1, h2, h3, h4, h5]
theorem blsF_ok {c : Contest} : ∀ {l : List Ballot} {p : List Int}, (∀ b, b ∈ l → BlV c b) → (p ++ l.map (·.serial)).Nodup → chkBlsF c p l = 0 := by
 intro l
 induction l with
 | nil => intro p _ _; rfl
 | cons b l ih =>
  intro p hb hn
  have h1 := hb b (by simp)
  have hin : inR b.serial 1 1000000000 = true := inR_true.2 h1.sr
  have hno : has p b.serial = false := by
   cases h : has p b.serial with
   | false => rfl
   | true =>
    have := has_iff.1 h
    rw [List.nodup_append] at hn
    exact absurd rfl (hn.2.2 _ this b.serial (by simp))
  simp only [chkBlsF, hin, hno, chkBl_of h1]
  simp only [Bool.not_true, Bool.false_eq_true, if_false, ne_eq, not_true]
  exact ih (fun x hx => hb x (by simp [hx])) (by simpa using hn)
theorem chkBls_of {c : Contest} {l : List Ballot} (hc : chkCn c = 0) (hl : l.length ≤ 300) (hb : ∀ b, b ∈ l → BlV c b) (hn : (l.map (·.serial)).Nodup) : chkBls c l = 0 := by
 unfold chkBls
 rw [if_neg (by simp [hc]), if_neg (by omega)]
 exact blsF_ok hb (by simpa using hn)
noncomputable def roundsC : Nat → Int → List Rnd → D (List Rnd)
 | 0, _, acc => dret acc
 | k + 1, keep, acc => if k = 0 then dbind (roll 4) fun a => dbind (roll 5) fun b => roundsC k 1 (acc ++ [⟨1, a, b⟩]) else dbind (mid 1 keep) fun kp => dbind (roll 4) fun a => dbind (roll 5) fun b => roundsC k kp (acc ++ [⟨kp, a, b⟩])
noncomputable def contestD (songs juries members : Int) : D Contest := dbind (mid 1 songs) fun s => dbind (roll (juries + 1)) fun j => dbind (roll (members + 1)) fun m => dbind (anyOf [0, 2, 10]) fun mo => dbind (mid 1 3) fun k =>
 dbind (roundsC k.toNat s []) fun rs => dret ⟨s, j, m, mo, rs⟩
theorem roundsC_ok : ∀ (k : Nat) (keep : Int) (acc : List Rnd), 1 ≤ keep → (k = 0 → keep = 1) → Holds (roundsC k keep acc) fun l => ∃ r, l = acc ++ r ∧ r.length = k ∧ chkRds keep r = 0 := by
 intro k
 induction k with
 | zero => intro keep acc _ h0; exact .ret ⟨[], by simp, rfl, by simp [chkRds, h0 rfl]⟩
 | succ k ih =>
  intro keep acc hk _
  have step : ∀ {kp a b : Int}, 1 ≤ kp ∧ kp ≤ keep → 0 ≤ a ∧ a < 4 → 0 ≤ b ∧ b < 5 → ∀ l, (∃ r, l = (acc ++ [(⟨kp, a, b⟩ : Rnd)]) ++ r ∧ r.length = k ∧ chkRds kp r = 0) → ∃ r, l = acc ++ r ∧ r.length = k + 1 ∧ chkRds keep r = 0 := by
   rintro kp a b hkp ha hb l ⟨r, h1, h2, h3⟩
   refine ⟨⟨kp, a, b⟩ :: r, by rw [h1]; simp, by simp [h2], ?_⟩
   have : chkRd keep ⟨kp, a, b⟩ = true := by
    simp only [chkRd, allIn, List.all_cons, List.all_nil, Bool.and_true, Bool.and_eq_true, inR_true]
    omega
   simp only [chkRds, this, Bool.not_true, Bool.false_eq_true, if_false]
   exact h3
  simp only [roundsC]
  split
  ·rename_i h0
   subst h0
   exact (roll_bd 4).bind fun a ha => (roll_bd 5).bind fun b hb => (ih 1 _ (by omega) (fun _ => rfl)).mono (step (by omega) (by omega) (by omega))
  ·rename_i h0
   exact (mid_bd 1 keep hk).bind fun kp hkp => (roll_bd 4).bind fun a ha => (roll_bd 5).bind fun b hb => (ih kp _ hkp.1 (fun e => absurd e h0)).mono (step hkp (by omega) (by omega))
structure CnMade (c : Contest) (songs juries members : Int) : Prop where
 ok : chkCn c = 0
 sg : 1 ≤ c.songs ∧ c.songs ≤ songs
 jr : 0 ≤ c.juries ∧ c.juries ≤ juries
 mb : 0 ≤ c.members ∧ c.members ≤ members
 ms : 0 ≤ c.most ∧ c.most ≤ 10
 rl : 1 ≤ c.rounds.length ∧ c.rounds.length ≤ 3
theorem contestD_ok {songs juries members : Int} (h1 : 1 ≤ songs ∧ songs ≤ 8) (h2 : 0 ≤ juries ∧ juries ≤ 8) (h3 : 0 ≤ members ∧ members ≤ 1000) : Holds (contestD songs juries members) fun c => CnMade c songs juries members := by
 unfold contestD
 refine (mid_bd 1 songs h1.1).bind fun s hs => (roll_bd (juries + 1)).bind fun j hj => (roll_bd (members + 1)).bind fun m hm => (anyOf_mem [0, 2, 10] (by simp)).bind fun mo hmo => (mid_bd 1 3 (by omega)).bind fun k hk => (roundsC_ok k.toNat s [] hs.1 (fun e => by omega)).bind fun rs hrs => .ret ?_
 obtain ⟨r, e1, e2, e3⟩ := hrs
 simp only [List.nil_append] at e1
 subst e1
 have hmo2 : 0 ≤ mo ∧ mo ≤ 10 := by rcases mem3 hmo with h | h | h <;> omega
 refine ⟨?_, hs, by simp only; omega, by simp only; omega, hmo2, by simp only; omega⟩
 unfold chkCn
 have e : chkCn0 ⟨s, j, m, mo, rs⟩ = true := by
  simp only [chkCn0, allIn1, Bool.and_eq_true, inR_true]
  omega
 simp only [e, Bool.not_true, Bool.false_eq_true, if_false]
 rw [if_neg (by omega), if_neg (by omega)]
 exact e3
def serAt (ser : List Int) (i : Nat) : Int := (ser[i]?).getD 0 + 1
noncomputable def ballotsC (c : Contest) (ser : List Int) : Nat → Nat → List Ballot → D (List Ballot)
 | 0, _, acc => dret acc
 | k + 1, i, acc => dbind (roll c.rounds.length) fun rd => dbind (anyOf [1, 2]) fun kd => dbind (roll c.songs) fun sg =>
  if (if c.members = 0 then 1 else if c.juries = 0 then 2 else kd) = 1 then dbind (roll c.juries) fun v => dbind (mid 0 c.most) fun p => ballotsC c ser k (i + 1) (acc ++ [⟨serAt ser i, rd, 1, v, sg, p⟩])
  else dbind (roll c.members) fun v => ballotsC c ser k (i + 1) (acc ++ [⟨serAt ser i, rd, 2, v, sg, 0⟩])
noncomputable def ballotsD (c : Contest) (most : Int) : D (List Ballot) := if c.juries + c.members = 0 then dret [] else dbind (roll (most + 1)) fun k => dbind (orderD (3 * (k.toNat + 1))) fun ser => ballotsC c ser k.toNat 0 []
theorem ballotsC_ok {c : Contest} {songs juries members : Int} (hc : CnMade c songs juries members) (h0 : c.juries + c.members ≠ 0) {ser : List Int} (hs : ∀ x, x ∈ ser → 0 ≤ x ∧ x < 100000) : ∀ (k i : Nat) (acc : List Ballot), i + k ≤ ser.length → (∀ b, b ∈ acc → BlV c b) → acc.map (·.serial) = (List.range i).map (serAt ser) →
  Holds (ballotsC c ser k i acc) fun l => l.length = acc.length + k ∧ (∀ b, b ∈ l → BlV c b) ∧ l.map (·.serial) = (List.range (i + k)).map (serAt ser) := by
 intro k
 induction k with
 | zero => intro i acc _ h2 h3; exact .ret ⟨rfl, h2, h3⟩
 | succ k ih =>
  intro i acc h1 h2 h3
  have hsg := hc.sg
  have hjr := hc.jr
  have hmb := hc.mb
  have hms := hc.ms
  have hrl := hc.rl
  have hser : 1 ≤ serAt ser i ∧ serAt ser i ≤ 1000000000 := by
   have hi : i < ser.length := by omega
   have := hs ser[i] (by simp)
   unfold serAt
   simp [hi]; omega
  have step : ∀ b : Ballot, BlV c b → b.serial = serAt ser i → Holds (ballotsC c ser k (i + 1) (acc ++ [b])) fun l => l.length = acc.length + (k + 1) ∧ (∀ b, b ∈ l → BlV c b) ∧ l.map (·.serial) = (List.range (i + (k + 1))).map (serAt ser) := by
   intro b hb e
   refine (ih (i + 1) (acc ++ [b]) (by omega) (fun x hx => ?_) ?_).mono fun l hl => ⟨by rw [hl.1]; simp; omega, hl.2.1, by rw [hl.2.2]; congr 2; omega⟩
   ·rcases List.mem_append.1 hx with hx | hx
    ·exact h2 x hx
    ·simp only [List.mem_singleton] at hx
     subst hx
     exact hb
   ·rw [List.map_append, h3, List.range_succ, List.map_append]
    simp [e]
  simp only [ballotsC]
  refine (roll_bd c.rounds.length).bind fun rd hrd => (anyOf_mem [1, 2] (by simp)).bind fun kd hkd => (roll_bd c.songs).bind fun sg hsg2 => ?_
  by_cases hk : (if c.members = 0 then (1 : Int) else if c.juries = 0 then 2 else kd) = 1
  ·rw [if_pos hk]
   refine (roll_bd c.juries).bind fun v hv => (mid_bd 0 c.most hms.1).bind fun p hp => step _ ⟨hser, by simp only; omega, .inl rfl, ?_, by simp only; omega, ?_⟩ rfl
   ·simp only
    rw [if_neg (by omega)]
    split at hk
    ·omega
    ·split at hk
     ·omega
     ·omega
   ·simp only
    rw [if_neg (by omega)]
    exact hp
  ·rw [if_neg hk]
   refine (roll_bd c.members).bind fun v hv => step _ ⟨hser, by simp only; omega, .inr rfl, ?_, by simp only; omega, ?_⟩ rfl
   ·simp only [if_true]
    split at hk
    ·omega
    ·omega
   ·simp only [if_true]
    omega
theorem ballotsD_ok {c : Contest} {songs juries members : Int} (hc : CnMade c songs juries members) {most : Int} (hm : 0 ≤ most ∧ most ≤ 300) : Holds (ballotsD c most) fun l => (l.length : Int) ≤ most ∧ (∀ b, b ∈ l → BlV c b) ∧ (l.map (·.serial)).Nodup ∧ ∀ b, b ∈ l → b.serial < 1000 * 1000 := by
 unfold ballotsD
 split
 ·exact .ret ⟨by simp; omega, by simp, by simp, by simp⟩
 ·rename_i h0
  refine (roll_bd (most + 1)).bind fun k hk => (orderD_perm (3 * (k.toNat + 1))).bind fun ser hser => ?_
  have hsl : ser.length = 3 * (k.toNat + 1) := by rw [hser.length_eq]; simp
  have hsb : ∀ x, x ∈ ser → 0 ≤ x ∧ x < 100000 := fun x hx => by
   obtain ⟨i, h1, rfl⟩ := List.mem_map.1 (hser.mem_iff.1 hx)
   have := List.mem_range.1 h1
   omega
  refine (ballotsC_ok hc h0 hsb k.toNat 0 [] (by omega) (by simp) rfl).mono fun l hl => ?_
  obtain ⟨h1, h2, h3⟩ := hl
  have hat : ∀ i (hi : i < ser.length), serAt ser i = ser[i] + 1 := fun i hi => by simp [serAt, hi]
  refine ⟨by rw [h1]; simp; omega, h2, ?_, fun b hb => ?_⟩
  ·rw [h3, Nat.zero_add, List.nodup_iff_pairwise_ne, List.pairwise_map]
   refine List.Pairwise.imp_of_mem ?_ (List.nodup_range (n := k.toNat))
   intro a b ha hb hne e
   have ha2 := List.mem_range.1 ha
   have hb2 := List.mem_range.1 hb
   rw [hat a (by omega), hat b (by omega)] at e
   have hnd := hser.nodup_iff.2 (nodup_range _)
   exact hne ((List.getElem_inj hnd).1 (by omega))
  ·have hmem : b.serial ∈ l.map (·.serial) := List.mem_map.2 ⟨b, hb, rfl⟩
   rw [h3] at hmem
   obtain ⟨i, hi, e⟩ := List.mem_map.1 hmem
   have hi2 := List.mem_range.1 hi
   rw [hat i (by omega)] at e
   have := hsb ser[i] (by simp)
   omega
theorem sig_m {rd : Int} {ss : List Int} {l : List Ballot} (g : Voice → Int) : ((voices rd ss l l.length).map fun e => g e.1).sum = ((balOf l (voices rd ss l l.length)).map fun b => g (keyOf b)).sum := by
 have hall := (voices_spec rd ss l l.length).en
 generalize voices rd ss l l.length = m at hall
 unfold balOf
 induction m with
 | nil => rfl
 | cons x m ih =>
  obtain ⟨k, o, h1, h2, h3, h4, _⟩ := hall x (by simp)
  rw [List.filterMap_cons, h1, Int.toNat_natCast, h3]
  simp only [List.map_cons, List.sum_cons, h4]
  rw [ih fun e he => hall e (by simp [he])]
theorem rdsT_get {l : List Ballot} : ∀ {rs : List Rnd} {i : Nat} {ss : List Int} {k : Nat} {t : Tally}, (rdsT l rs i ss)[k]? = some t → ∃ r, rs[k]? = some r ∧ t = countT r ((i + k : Nat) : Int) t.songs l := by
 intro rs
 induction rs with
 | nil => intro i ss k t h; simp [rdsT] at h
 | cons r rs ih =>
  intro i ss k t h
  cases k with
  | zero =>
   simp only [rdsT, List.getElem?_cons_zero, Option.some.injEq] at h
   subst h
   exact ⟨r, rfl, rfl⟩
  | succ k =>
   simp only [rdsT, List.getElem?_cons_succ] at h
   obtain ⟨r', h1, h2⟩ := ih h
   exact ⟨r', h1, by rw [show i + (k + 1) = i + 1 + k by omega]; exact h2⟩
def Ahd (a b : Std) : Prop := aheadS a b < 0
instance {a b : Std} : Decidable (Ahd a b) := by unfold Ahd; exact inferInstance
theorem cmpI_lt {a b : Int} (h : a < b) : cmpI a b = -1 := by unfold cmpI; rw [if_pos h]
theorem cmpI_gt {a b : Int} (h : b < a) : cmpI a b = 1 := by unfold cmpI; rw [if_neg (by omega), if_pos h]
theorem cmpI_self {a : Int} : cmpI a a = 0 := by unfold cmpI; rw [if_neg (by omega), if_neg (by omega)]
theorem ahd_iff {a b : Std} : Ahd a b ↔ b.score < a.score ∨ (a.score = b.score ∧ (b.points < a.points ∨ (a.points = b.points ∧ a.song < b.song))) := by
 unfold Ahd aheadS
 rcases Int.lt_trichotomy a.score b.score with h1 | h1 | h1
 ·rw [cmpI_gt h1]; simp [orI]; omega
 ·rw [h1, cmpI_self]
  rcases Int.lt_trichotomy a.points b.points with h2 | h2 | h2
  ·rw [cmpI_gt h2]; simp [orI]; omega
  ·rw [h2, cmpI_self]
   rcases Int.lt_trichotomy a.song b.song with h3 | h3 | h3
   ·rw [cmpI_lt h3]; simp [orI]; omega
   ·rw [h3, cmpI_self]; simp [orI]
   ·rw [cmpI_gt h3]; simp [orI]; omega
  ·rw [cmpI_lt h2]; simp [orI]; omega
 ·rw [cmpI_lt h1]; simp [orI]; omega
theorem Ahd.trans {a b c : Std} (h : Ahd a b) (k : Ahd b c) : Ahd a c := by rw [ahd_iff] at *; omega
theorem Ahd.irrefl {a : Std} : ¬ Ahd a a := by rw [ahd_iff]; omega
theorem Ahd.asymm {a b : Std} (h : Ahd a b) : ¬ Ahd b a := fun k => Ahd.irrefl (h.trans k)
theorem not_ahd {a b : Std} (h : a.song ≠ b.song) (k : ¬ Ahd a b) : Ahd b a := by rw [ahd_iff] at *; omega
theorem notAhd_trans {a b c : Std} (h : ¬ Ahd b a) (k : ¬ Ahd c b) : ¬ Ahd c a := by rw [ahd_iff] at *; omega
theorem sink_len (j : Nat) (l : List Std) : (sink j l).length = l.length := (sink_perm j l).length_eq
def SrtX (l : List Std) (i j : Nat) : Prop := ∀ p q a b, p < q → q ≤ i → q ≠ j → l[p]? = some a → l[q]? = some b → ¬ Ahd b a
def Srt (l : List Std) (i : Nat) : Prop := ∀ p q a b, p < q → q ≤ i → l[p]? = some a → l[q]? = some b → ¬ Ahd b a
theorem sink_srt (i : Nat) : ∀ (j : Nat) (l : List Std), j ≤ i → i < l.length → SrtX l i j → Srt (sink j l) i := by
 intro j
 induction j with
 | zero => intro l _ _ h p q a b hpq hq; exact h p q a b hpq hq (by omega)
 | succ j ih =>
  intro l hj hl h
  obtain ⟨x, hx⟩ : ∃ x, l[j + 1]? = some x := ⟨l[j + 1]'(by omega), by simp⟩
  obtain ⟨y, hy⟩ : ∃ y, l[j]? = some y := ⟨l[j]'(by omega), by simp⟩
  simp only [sink, hx, hy]
  split
  ·rename_i hlt
   refine ih _ (by omega) (by simpa using hl) ?_
   have g : ∀ r, ((l.set (j + 1) y).set j x)[r]? = if r = j then some x else if r = j + 1 then some y else l[r]? := by
    intro r
    by_cases e : r = j
    ·subst e; rw [if_pos rfl, List.getElem?_set_self (by simp; omega)]
    ·rw [if_neg e, List.getElem?_set_ne (fun h => e h.symm)]
     by_cases e2 : r = j + 1
     ·subst e2; rw [if_pos rfl, List.getElem?_set_self (by omega)]
     ·rw [if_neg e2, List.getElem?_set_ne (fun h => e2 h.symm)]
   intro p q a b hpq hq hne ha hb
   rw [g] at ha hb
   rw [if_neg hne] at hb
   by_cases e1 : q = j + 1
   ·rw [if_pos e1] at hb
    cases hb
    by_cases e2 : p = j
    ·rw [if_pos e2] at ha
     cases ha
     exact Ahd.asymm hlt
    ·rw [if_neg e2, if_neg (by omega)] at ha
     exact h p j _ _ (by omega) (by omega) (by omega) ha hy
   ·rw [if_neg e1] at hb
    by_cases e2 : p = j
    ·rw [if_pos e2] at ha
     cases ha
     exact h (j + 1) q _ _ (by omega) hq (by omega) hx hb
    ·rw [if_neg e2] at ha
     by_cases e3 : p = j + 1
     ·rw [if_pos e3] at ha
      cases ha
      exact h j q _ _ (by omega) hq (by omega) hy hb
     ·rw [if_neg e3] at ha
      exact h p q a b hpq hq (by omega) ha hb
  ·rename_i hnlt
   intro p q a b hpq hq ha hb
   by_cases e : q = j + 1
   ·subst e
    rw [hx] at hb
    cases hb
    by_cases e2 : p = j
    ·subst e2
     rw [hy] at ha
     cases ha
     exact hnlt
    ·exact notAhd_trans (h p j a y (by omega) (by omega) (by omega) ha hy) hnlt
   ·exact h p q a b hpq hq e ha hb
theorem sinkAll_srt : ∀ (k i : Nat) (l : List Std), 0 < i → i + k ≤ l.length → Srt l (i - 1) → Srt (sinkAll k i l) (i + k - 1) := by
 intro k
 induction k with
 | zero => intro i l _ _ h; exact h
 | succ k ih =>
  intro i l hi hl h
  simp only [sinkAll]
  have h1 := sink_srt i i l (Nat.le_refl _) (by omega) (fun p q a b hpq hq hne ha hb => h p q a b hpq (by omega) ha hb)
  have h2 := ih (i + 1) (sink i l) (by omega) (by rw [sink_len]; omega) (by rw [Nat.add_sub_cancel]; exact h1)
  rw [show i + (k + 1) - 1 = i + 1 + k - 1 by omega]
  exact h2
theorem sortSd_srt (l : List Std) {p q : Nat} {a b : Std} (hpq : p < q) (ha : (sortSd l)[p]? = some a) (hb : (sortSd l)[q]? = some b) : ¬ Ahd b a := by
 have hq := (List.getElem?_eq_some_iff.1 hb).1
 rw [sortSd_len] at hq
 have := sinkAll_srt (l.length - 1) 1 l (by omega) (by omega) (fun p q a b hpq hq => by omega)
 exact this p q a b hpq (by omega) ha hb
def insZ (x : Int) : List Int → List Int
 | [] => [x]
 | y :: l => if x ≤ y then x :: y :: l else y :: insZ x l
def isortZ : List Int → List Int
 | [] => []
 | x :: l => insZ x (isortZ l)
def Asc (l : List Int) : Prop := l.Pairwise (· ≤ ·)
theorem insZ_perm (x : Int) : ∀ l, (insZ x l).Perm (x :: l) := by
 intro l
 induction l with
 | nil => exact .refl _
 | cons y l ih =>
  simp only [insZ]
  split
  ·exact .refl _
  ·exact (List.Perm.cons y ih).trans (.swap x y l)
theorem isortZ_perm : ∀ l, (isortZ l).Perm l := by
 intro l
 induction l with
 | nil => exact .refl _
 | cons x l ih => exact (insZ_perm x _).trans (.cons x ih)
theorem insZ_asc (x : Int) : ∀ {l : List Int}, Asc l → Asc (insZ x l) := by
 intro l
 induction l with
 | nil => intro _; simp [insZ, Asc]
 | cons y l ih =>
  intro h
  obtain ⟨h1, h2⟩ := List.pairwise_cons.1 h
  simp only [insZ]
  split
  ·exact List.pairwise_cons.2 ⟨fun z hz => by
    rcases List.mem_cons.1 hz with rfl | hz
    ·assumption
    ·have := h1 z hz; omega, h⟩
  ·refine List.pairwise_cons.2 ⟨fun z hz => ?_, ih h2⟩
   rcases List.mem_cons.1 ((insZ_perm x l).mem_iff.1 hz) with rfl | hz
   ·omega
   ·exact h1 z hz
theorem isortZ_asc : ∀ l, Asc (isortZ l) := by
 intro l
 induction l with
 | nil => exact .nil
 | cons x l ih => exact insZ_asc x ih
theorem asc_perm : ∀ {a b : List Int}, a.Perm b → Asc a → Asc b → a = b := by
 intro a
 induction a with
 | nil => intro b h _ _; exact (List.nil_perm.1 h).symm
 | cons x a ih =>
  intro b h ha hb
  cases b with
  | nil => exact absurd h.length_eq (by simp)
  | cons y b =>
   obtain ⟨a1, a2⟩ := List.pairwise_cons.1 ha
   obtain ⟨b1, b2⟩ := List.pairwise_cons.1 hb
   have e : x = y := by
    have hx : x ∈ y :: b := h.mem_iff.1 (by simp)
    have hy : y ∈ x :: a := h.mem_iff.2 (by simp)
    rcases List.mem_cons.1 hx with rfl | hx
    ·rfl
    ·rcases List.mem_cons.1 hy with rfl | hy
     ·rfl
     ·have := a1 y hy; have := b1 x hx; omega
   subst e
   rw [ih (List.Perm.cons_inv h) a2 b2]
theorem sortI_isort (l : List Int) : sortI l = isortZ l := by
 refine asc_perm ((List.mergeSort_perm l _).trans (isortZ_perm l).symm) ?_ (isortZ_asc l)
 have := List.pairwise_mergeSort (le := fun x y : Int => decide (x ≤ y)) (by simp; omega) (by simp; omega) l
 exact this.imp (by simp)
def rank (l : List Std) (x : Std) : Nat := l.countP fun y => decide (Ahd y x)
theorem rank_perm {a b : List Std} (h : a.Perm b) (x : Std) : rank a x = rank b x := h.countP_eq _
theorem rank_at : ∀ {l : List Std} {i : Nat} {x : Std}, l.Pairwise Ahd → l[i]? = some x → rank l x = i := by
 intro l
 induction l with
 | nil => intro i x _ h; simp at h
 | cons y l ih =>
  intro i x hp h
  obtain ⟨h1, h2⟩ := List.pairwise_cons.1 hp
  cases i with
  | zero =>
   simp only [List.getElem?_cons_zero, Option.some.injEq] at h
   subst h
   unfold rank
   rw [List.countP_eq_zero]
   intro z hz
   rcases List.mem_cons.1 hz with rfl | hz
   ·simp [Ahd.irrefl]
   ·simp [(h1 z hz).asymm]
  | succ i =>
   simp only [List.getElem?_cons_succ] at h
   have := ih h2 h
   unfold rank at this ⊢
   rw [List.countP_cons, this]
   simp [h1 x (List.mem_of_getElem? h)]
theorem sortSd_pw {l : List Std} (h : (l.map (·.song)).Nodup) : (sortSd l).Pairwise Ahd := by
 rw [List.pairwise_iff_getElem]
 intro i j hi hj hij
 have hnd : ((sortSd l).map (·.song)).Nodup := ((sortSd_perm l).map _).nodup_iff.2 h
 refine not_ahd (fun e => ?_) (sortSd_srt (l := l) hij (by simp [hi]) (by simp [hj]))
 have := (List.pairwise_iff_getElem.1 (List.nodup_iff_pairwise_ne.1 hnd)) i j (by simpa using hi) (by simpa using hj) hij
 simp only [List.getElem_map] at this
 exact this e.symm
theorem mem_take_iff {α : Type} {l : List α} {n : Nat} {x : α} : x ∈ l.take n ↔ ∃ i, i < n ∧ l[i]? = some x := by
 rw [List.mem_iff_getElem?]
 constructor
 ·rintro ⟨i, hi⟩
  rw [List.getElem?_take] at hi
  split at hi
  ·rename_i h; exact ⟨i, h, hi⟩
  ·cases hi
 ·rintro ⟨i, h1, h2⟩
  exact ⟨i, by rw [List.getElem?_take_of_lt h1]; exact h2⟩
theorem take_rank {l : List Std} (h : (l.map (·.song)).Nodup) (n : Nat) : ((sortSd l).take n).Perm (l.filter fun x => decide (rank l x < n)) := by
 have hp := sortSd_perm l
 have hpw := sortSd_pw h
 have hnl : l.Nodup := by
  rw [List.nodup_iff_pairwise_ne, List.pairwise_map] at h
  rw [List.nodup_iff_pairwise_ne]
  exact h.imp fun hn e => hn (by rw [e])
 refine (List.perm_ext_iff_of_nodup ((List.take_sublist _ _).nodup (hp.nodup_iff.2 hnl)) (hnl.sublist List.filter_sublist)).2 fun x => ?_
 rw [mem_take_iff, List.mem_filter, decide_eq_true_eq]
 constructor
 ·rintro ⟨i, h1, h2⟩
  refine ⟨hp.mem_iff.1 (List.mem_of_getElem? h2), ?_⟩
  rw [← rank_perm hp, rank_at hpw h2]; exact h1
 ·rintro ⟨h1, h2⟩
  obtain ⟨i, hi⟩ := List.mem_iff_getElem?.1 (hp.mem_iff.2 h1)
  rw [← rank_perm hp, rank_at hpw hi] at h2
  exact ⟨i, h2, hi⟩
theorem sortI_perm {a b : List Int} (h : a.Perm b) : sortI a = sortI b := by
 rw [sortI_isort, sortI_isort]
 exact asc_perm ((isortZ_perm a).trans (h.trans (isortZ_perm b).symm)) (isortZ_asc a) (isortZ_asc b)
theorem sortI_asc {a : List Int} (h : Asc a) : sortI a = a := by
 rw [sortI_isort]
 exact asc_perm (isortZ_perm a) (isortZ_asc a) h
def Up (l : List Int) : Prop := l.Pairwise (· < ·)
theorem Up.nodup {l : List Int} (h : Up l) : l.Nodup := by
 rw [List.nodup_iff_pairwise_ne]
 exact h.imp fun q => by omega
theorem kept_rank {l : List Std} (h : Up (l.map (·.song))) (n : Nat) : keptS n l = (l.filter fun x => decide (rank l x < n)).map (·.song) := by
 unfold keptS
 rw [sortI_perm ((take_rank h.nodup n).map _)]
 refine sortI_asc ?_
 have : Up ((l.filter fun x => decide (rank l x < n)).map (·.song)) := h.sublist (List.filter_sublist.map _)
 exact this.imp fun q => by omega
theorem kept_up {l : List Std} (h : Up (l.map (·.song))) (n : Nat) : Up (keptS n l) := by
 rw [kept_rank h]
 exact h.sublist (List.filter_sublist.map _)
theorem asc_min : ∀ {S B R : List Int}, Asc S → S.Perm (B ++ R) → (S.take B.length).sum ≤ B.sum := by
 intro S
 induction S with
 | nil =>
  intro B R _ h
  have := h.length_eq
  simp at this
  have hb : B = [] := List.eq_nil_of_length_eq_zero (by omega)
  subst hb
  simp
 | cons x S ih =>
  intro B R ha hp
  obtain ⟨ha1, ha2⟩ := List.pairwise_cons.1 ha
  have hx : x ∈ B ++ R := hp.mem_iff.1 (by simp)
  by_cases hB : x ∈ B
  ·obtain ⟨B1, B2, rfl⟩ := List.append_of_mem hB
   have hp2 : S.Perm ((B1 ++ B2) ++ R) := by
    have : (x :: S).Perm (x :: ((B1 ++ B2) ++ R)) := by
     refine hp.trans ?_
     simp only [List.append_assoc, List.cons_append]
     exact List.perm_middle
    exact this.cons_inv
   have := ih ha2 hp2
   have e1 : (B1 ++ x :: B2).length = (B1 ++ B2).length + 1 := by simp; omega
   rw [e1, List.take_succ_cons, List.sum_cons]
   simp only [List.sum_append, List.sum_cons] at this ⊢
   omega
  ·have hR : x ∈ R := by
    rcases List.mem_append.1 hx with h | h
    ·exact absurd h hB
    ·exact h
   obtain ⟨R1, R2, rfl⟩ := List.append_of_mem hR
   have hp2 : S.Perm (B ++ (R1 ++ R2)) := by
    have : (x :: S).Perm (x :: (B ++ (R1 ++ R2))) := by
     refine hp.trans ?_
     have q : (B ++ (R1 ++ x :: R2)) = (B ++ R1) ++ x :: R2 := by simp
     rw [q]
     refine List.perm_middle.trans ?_
     rw [List.append_assoc]
    exact this.cons_inv
   have h1 := ih ha2 hp2
   cases hb : B with
   | nil => simp
   | cons b B' =>
    subst hb
    have hl := hp2.length_eq
    simp only [List.length_append, List.length_cons] at hl
    have hn : B'.length < S.length := by omega
    rw [List.length_cons, List.take_succ_cons, List.sum_cons]
    rw [List.length_cons, List.take_add_one, List.getElem?_eq_getElem hn, Option.toList_some, List.sum_append] at h1
    have := ha1 S[B'.length] (by simp)
    simp only [List.sum_cons, List.sum_nil] at h1 ⊢
    omega
theorem min_sum {L B R : List Int} (h : L.Perm (B ++ R)) : ((sortI L).take B.length).sum ≤ B.sum := by
 rw [sortI_isort]
 exact asc_min (isortZ_asc L) ((isortZ_perm L).trans h)
theorem perm_lift {α β : Type} (f : α → β) : ∀ {L : List β} {P : List α}, (P.map f).Perm L → ∃ P' : List α, P'.Perm P ∧ P'.map f = L := by
 intro L
 induction L with
 | nil =>
  intro P h
  have := h.length_eq
  simp at this
  subst this
  exact ⟨[], .refl _, rfl⟩
 | cons y L ih =>
  intro P h
  have hy : y ∈ P.map f := h.mem_iff.2 (by simp)
  obtain ⟨p, hp, rfl⟩ := List.mem_map.1 hy
  obtain ⟨P1, P2, rfl⟩ := List.append_of_mem hp
  have h2 : ((P1 ++ P2).map f).Perm L := by
   have : (f p :: (P1 ++ P2).map f).Perm (f p :: L) := by
    refine List.Perm.trans ?_ h
    simp only [List.map_append, List.map_cons]
    exact List.perm_middle.symm
   exact this.cons_inv
  obtain ⟨P', h3, h4⟩ := ih h2
  exact ⟨p :: P', (List.Perm.cons p h3).trans List.perm_middle.symm, by simp [h4]⟩
theorem nodup_of_map2 {α β : Type} {f : α → β} {l : List α} (h : (l.map f).Nodup) : l.Nodup := nodup_of_map h
structure Attack (t : Tally) (c : Contest) (own : Std) (s fr : Int) (C : List Int) (f : Int → Nat) : Prop where
 nd : C.Nodup
 ln : (C.length : Int) = t.rd.keep
 mm : ∀ x, x ∈ C → x ∈ t.songs ∧ x ≠ s
 ah : ∀ x, x ∈ C → aheadV t c own x (f x) = true
 sm : (C.map fun x => (f x : Int)).sum ≤ fr
def prs (t : Tally) (c : Contest) (own : Std) (s fr : Int) (l : List Int) : List (Int × Int) := l.flatMap fun x => (needOne t c own s fr x).map fun v => (x, v)
theorem prs_snd (t : Tally) (c : Contest) (own : Std) (s fr : Int) (l : List Int) : (prs t c own s fr l).map (·.2) = needsT t c own s fr l := by
 unfold prs needsT
 rw [List.map_flatMap]
 congr 1
 funext x
 rw [List.map_map]
 exact (List.map_congr_left fun v _ => rfl).trans (List.map_id _)
theorem mem_prs {t : Tally} {c : Contest} {own : Std} {s fr : Int} {l : List Int} {p : Int × Int} : p ∈ prs t c own s fr l ↔ p.1 ∈ l ∧ p.1 ≠ s ∧ ∃ v, findV (aheadV t c own p.1) (fr + 1).toNat 0 = some v ∧ p.2 = v := by
 unfold prs
 rw [List.mem_flatMap]
 constructor
 ·rintro ⟨x, hx, h⟩
  obtain ⟨v, hv, rfl⟩ := List.mem_map.1 h
  unfold needOne at hv
  split at hv
  ·cases hv
  ·rename_i hne
   split at hv
   ·rename_i v' hf
    simp only [List.mem_singleton] at hv
    exact ⟨hx, hne, v', hf, hv⟩
   ·cases hv
 ·rintro ⟨h1, h2, v, h3, h4⟩
  refine ⟨p.1, h1, List.mem_map.2 ⟨p.2, ?_, rfl⟩⟩
  unfold needOne
  rw [if_neg h2, h3, h4]
  simp
theorem prs_nodup {t : Tally} {c : Contest} {own : Std} {s fr : Int} : ∀ {l : List Int}, l.Nodup → ((prs t c own s fr l).map (·.1)).Nodup := by
 intro l
 induction l with
 | nil => intro _; simp [prs]
 | cons x l ih =>
  intro h
  obtain ⟨h1, h2⟩ := List.nodup_cons.1 h
  have e : prs t c own s fr (x :: l) = (needOne t c own s fr x).map (fun v => (x, v)) ++ prs t c own s fr l := by simp [prs]
  rw [e, List.map_append, List.nodup_append]
  refine ⟨?_, ih h2, fun a ha b hb e2 => ?_⟩
  ·have := needOne_len t c own s fr x
   match hn : needOne t c own s fr x with
   | [] => simp
   | [v] => simp
   | a :: b :: r => rw [hn] at this; simp at this
  ·obtain ⟨p, hp, rfl⟩ := List.mem_map.1 ha
   obtain ⟨v, _, rfl⟩ := List.mem_map.1 hp
   obtain ⟨q, hq, rfl⟩ := List.mem_map.1 hb
   simp only at e2
   exact h1 (e2 ▸ (mem_prs.1 hq).1)
theorem findV_some {p : Nat → Bool} : ∀ {k i v : Nat}, i ≤ v → v < i + k → p v = true → ∃ w, findV p k i = some w ∧ w ≤ v := by
 intro k
 induction k with
 | zero => intro i v h1 h2; omega
 | succ k ih =>
  intro i v h1 h2 h3
  simp only [findV]
  split
  ·exact ⟨i, rfl, h1⟩
  ·rename_i hn
   have : i ≠ v := by rintro rfl; exact hn h3
   exact ih (by omega) (by omega) h3
theorem sum_le {α : Type} {f g : α → Int} : ∀ {l : List α}, (∀ x, x ∈ l → f x ≤ g x) → (l.map f).sum ≤ (l.map g).sum := by
 intro l
 induction l with
 | nil => intro _; simp
 | cons x l ih =>
  intro h
  have h1 := ih fun y hy => h y (by simp [hy])
  have h2 := h x (by simp)
  simp only [List.map_cons, List.sum_cons]
  omega
theorem sum_nn {α : Type} {f : α → Int} {l : List α} (h : ∀ x, x ∈ l → 0 ≤ f x) : 0 ≤ (l.map f).sum := by
 have := sum_le (f := fun _ : α => 0) (g := f) (l := l) h
 have e : (l.map fun _ => (0 : Int)).sum = 0 := by
  clear this h
  induction l with
  | nil => rfl
  | cons x l ih => simp [ih]
 omega
theorem mem_le_sum {α : Type} {f : α → Int} {l : List α} (h : ∀ x, x ∈ l → 0 ≤ f x) {x : α} (hx : x ∈ l) : f x ≤ (l.map f).sum := by
 obtain ⟨l1, l2, rfl⟩ := List.append_of_mem hx
 have h1 := sum_nn (f := f) (l := l1) fun y hy => h y (by simp [hy])
 have h2 := sum_nn (f := f) (l := l2) fun y hy => h y (by simp [hy])
 simp only [List.map_append, List.map_cons, List.sum_append, List.sum_cons]
 omega
theorem must_iff {t : Tally} {c : Contest} {s : Int} (hn : t.songs.Nodup) (hk : 1 ≤ t.rd.keep) : mustT t c s = false ↔ ∃ C f, Attack t c (stdT t s 0 0) s (freeT t c) C f := by
 obtain ⟨own, hown⟩ : ∃ z, stdT t s 0 0 = z := ⟨_, rfl⟩
 obtain ⟨fr, hfr⟩ : ∃ z, freeT t c = z := ⟨_, rfl⟩
 obtain ⟨kn, hkn⟩ : ∃ z : Nat, t.rd.keep = z := ⟨t.rd.keep.toNat, by omega⟩
 have hm : mustT t c s = if ((needsT t c own s fr t.songs).length : Int) < t.rd.keep then true else decide (fr < ((sortI (needsT t c own s fr t.songs)).take t.rd.keep.toNat).sum) := by unfold mustT; rw [hown, hfr]
 rw [hm, hown, hfr, hkn, Int.toNat_natCast]
 obtain ⟨P, hP⟩ : ∃ z, prs t c own s fr t.songs = z := ⟨_, rfl⟩
 have hsnd := prs_snd t c own s fr t.songs
 rw [hP] at hsnd
 have hnd := prs_nodup (t := t) (c := c) (own := own) (s := s) (fr := fr) hn
 rw [hP] at hnd
 have hmem : ∀ p, p ∈ P ↔ p.1 ∈ t.songs ∧ p.1 ≠ s ∧ ∃ v, findV (aheadV t c own p.1) (fr + 1).toNat 0 = some v ∧ p.2 = v := fun p => by rw [← hP]; exact mem_prs
 constructor
 ·intro h
  split at h
  ·cases h
  ·rename_i hlen
   have hsum := of_decide_eq_false h
   have hpm : (P.map (·.2)).Perm (sortI (needsT t c own s fr t.songs)) := by rw [hsnd]; exact (List.mergeSort_perm _ _).symm
   obtain ⟨P', h1, h2⟩ := perm_lift (fun p : Int × Int => p.2) hpm
   have hPl : P'.length = (needsT t c own s fr t.songs).length := by rw [h1.length_eq, ← hsnd]; simp
   refine ⟨(P'.take kn).map (·.1), fun x => (findV (aheadV t c own x) (fr + 1).toNat 0).getD 0, ?_, ?_, ?_, ?_, ?_⟩
   ·exact (((h1.map (·.1)).nodup_iff.2 hnd)).sublist ((List.take_sublist _ _).map _)
   ·rw [List.length_map, List.length_take, hPl, hkn]
    omega
   ·intro x hx
    obtain ⟨p, hp, rfl⟩ := List.mem_map.1 hx
    obtain ⟨q1, q2, _⟩ := (hmem p).1 (h1.mem_iff.1 (List.mem_of_mem_take hp))
    exact ⟨q1, q2⟩
   ·intro x hx
    obtain ⟨p, hp, rfl⟩ := List.mem_map.1 hx
    obtain ⟨_, _, v, q3, _⟩ := (hmem p).1 (h1.mem_iff.1 (List.mem_of_mem_take hp))
    rw [q3]
    exact (findV_lt q3).2.2
   ·have e : ((P'.take kn).map (·.1)).map (fun x => (((findV (aheadV t c own x) (fr + 1).toNat 0).getD 0 : Nat) : Int)) = (P'.take kn).map (·.2) := by
     rw [List.map_map]
     refine List.map_congr_left fun p hp => ?_
     obtain ⟨_, _, v, q3, q4⟩ := (hmem p).1 (h1.mem_iff.1 (List.mem_of_mem_take hp))
     simp only [Function.comp, q3, Option.getD_some, q4]
    rw [e, List.map_take, h2]
    omega
 ·rintro ⟨C, f, h⟩
  have hfx : ∀ x, x ∈ C → (f x : Int) ≤ fr := fun x hx => Int.le_trans (mem_le_sum (f := fun x => (f x : Int)) (fun _ _ => by omega) hx) h.sm
  have hN : ∀ x, x ∈ C → ∃ w, findV (aheadV t c own x) (fr + 1).toNat 0 = some w ∧ w ≤ f x := fun x hx => findV_some (Nat.zero_le _) (by have := hfx x hx; omega) (h.ah x hx)
  obtain ⟨g, hg⟩ : ∃ g : Int → Nat, ∀ x, g x = (findV (aheadV t c own x) (fr + 1).toNat 0).getD 0 := ⟨_, fun _ => rfl⟩
  have hgC : ∀ x, x ∈ C → findV (aheadV t c own x) (fr + 1).toNat 0 = some (g x) ∧ g x ≤ f x := fun x hx => by
   obtain ⟨w, h1, h2⟩ := hN x hx
   rw [hg, h1]
   exact ⟨rfl, h2⟩
  have hCP : (C.map fun x => (x, (g x : Int))).Perm (P.filter fun p => decide (p.1 ∈ C)) := by
   refine (List.perm_ext_iff_of_nodup ?_ ((nodup_of_map2 hnd).sublist List.filter_sublist)).2 fun p => ?_
   ·refine nodup_of_map2 (f := (·.1)) ?_
    rw [List.map_map]
    have : ((·.1) ∘ fun x => (x, (g x : Int))) = (id : Int → Int) := rfl
    rw [this, List.map_id]
    exact h.nd
   ·rw [List.mem_filter, decide_eq_true_eq]
    constructor
    ·intro hp
     obtain ⟨x, hx, rfl⟩ := List.mem_map.1 hp
     obtain ⟨q1, q2⟩ := h.mm x hx
     exact ⟨(hmem _).2 ⟨q1, q2, g x, (hgC x hx).1, rfl⟩, hx⟩
    ·rintro ⟨hp, hx⟩
     obtain ⟨_, _, v, q3, q4⟩ := (hmem p).1 hp
     rw [(hgC p.1 hx).1] at q3
     injection q3 with q3
     exact List.mem_map.2 ⟨p.1, hx, by rw [q3, ← q4]⟩
  have hperm : (needsT t c own s fr t.songs).Perm (C.map (fun x => (g x : Int)) ++ (P.filter fun p => !decide (p.1 ∈ C)).map (·.2)) := by
   rw [← hsnd]
   have h1 := (List.filter_append_perm (fun p : Int × Int => decide (p.1 ∈ C)) P).symm.map (·.2)
   rw [List.map_append] at h1
   refine h1.trans (List.Perm.append_right _ ?_)
   have h2 := (hCP.map (·.2)).symm
   rw [List.map_map] at h2
   exact h2
  have hlen : C.length = kn := by have := h.ln; omega
  have hle := hperm.length_eq
  rw [List.length_append, List.length_map] at hle
  rw [if_neg (by omega)]
  refine decide_eq_false ?_
  have h3 := min_sum hperm
  rw [List.length_map, hlen] at h3
  have h4 := sum_le (f := fun x => (g x : Int)) (g := fun x => (f x : Int)) (l := C) fun x hx => by have := (hgC x hx).2; omega
  have := h.sm
  omega
theorem std_score (t : Tally) (s p v : Int) : (stdT t s p v).score = t.rd.jury * (t.pts s.toNat + p) + t.rd.member * (t.vts s.toNat + v) := rfl
structure Bet (x y : Std) : Prop where
 sc : y.score ≤ x.score
 pt : y.points ≤ x.points
 sg : x.song = y.song
theorem Ahd.bet {x x' o o' : Std} (h : Ahd x' o') (hx : Bet x x') (ho : Bet o' o) : Ahd x o := by
 obtain ⟨a1, a2, a3⟩ := hx
 obtain ⟨b1, b2, b3⟩ := ho
 rw [ahd_iff] at *
 omega
theorem std_bet {t t' : Tally} {s p v p' v' : Int} (hr : t'.rd = t.rd) (hj : 0 ≤ t.rd.jury) (hm : 0 ≤ t.rd.member) (hp : t.pts s.toNat + p ≤ t'.pts s.toNat + p') (hv : t.vts s.toNat + v ≤ t'.vts s.toNat + v') : Bet (stdT t' s p' v') (stdT t s p v) := by
 refine ⟨?_, hp, rfl⟩
 rw [std_score, std_score, hr]
 exact Int.add_le_add (Int.mul_le_mul_of_nonneg_left hp hj) (Int.mul_le_mul_of_nonneg_left hv hm)
section
variable {c : Contest} {b : Ballot} {t t' : Tally}
theorem gM_key : gM (keyOf b) = if b.kind = 2 then 1 else 0 := rfl
theorem gJ_key (hk : b.kind = 1 ∨ b.kind = 2) (s : Int) : gJ s (keyOf b) = if b.kind = 1 ∧ b.song = s then 1 else 0 := by
 unfold gJ keyOf
 simp only
 rcases hk with h | h
 ·simp [h]
 ·simp [h]
end
theorem voters_le {n : Int} (hn : 0 ≤ n) {p : Voice → Bool} : ∀ {m : List (Voice × Int)}, (m.map (·.1)).Nodup → (∀ e, e ∈ m → p e.1 = true → 0 ≤ e.1.2.1 ∧ e.1.2.1 < n) → (∀ e e', e ∈ m → e' ∈ m → p e.1 = true → p e'.1 = true → e.1.2.1 = e'.1.2.1 → e.1 = e'.1) → ((m.map fun e => if p e.1 then (1 : Int) else 0).sum : Int) ≤ n := by
 intro m h1 h2 h3
 have e1 : ((m.map fun e => if p e.1 then (1 : Int) else 0).sum : Int) = ((m.filter fun e => p e.1).length : Int) := by
  clear h1 h2 h3
  induction m with
  | nil => rfl
  | cons e m ih =>
   simp only [List.map_cons, List.sum_cons, List.filter_cons, ih]
   split
   ·simp only [List.length_cons]; omega
   ·omega
 rw [e1]
 have hnd : ((m.filter fun e => p e.1).map fun e => e.1.2.1.toNat).Nodup := by
  have hm : (m.filter fun e => p e.1).Nodup := (nodup_of_map2 h1).sublist List.filter_sublist
  rw [List.nodup_iff_pairwise_ne, List.pairwise_map]
  rw [List.nodup_iff_pairwise_ne] at hm
  have hm1 : ((m.filter fun e => p e.1).map (·.1)).Nodup := h1.sublist (List.filter_sublist.map _)
  rw [List.nodup_iff_pairwise_ne, List.pairwise_map] at hm1
  refine List.Pairwise.imp_of_mem ?_ hm1
  intro a b ha hb hne e
  obtain ⟨a1, a2⟩ := List.mem_filter.1 ha
  obtain ⟨b1, b2⟩ := List.mem_filter.1 hb
  have q1 := h2 a a1 a2
  have q2 := h2 b b1 b2
  exact hne (h3 a b a1 b1 a2 b2 (by omega))
 have := nodup_len hnd (n := n.toNat) fun j hj => by
  obtain ⟨e, he, rfl⟩ := List.mem_map.1 hj
  obtain ⟨q1, q2⟩ := List.mem_filter.1 he
  have := h2 e q1 q2
  omega
 rw [List.length_map] at this
 omega
theorem free_nn {c : Contest} {l : List Ballot} {r : Rnd} {rd : Int} {ss : List Int} (hmb : 0 ≤ c.members) (hb : ∀ b, b ∈ l → BlV c b) : 0 ≤ freeT (countT r rd ss l) c := by
 have sp := voices_spec rd ss l l.length
 have he : ∀ e, e ∈ voices rd ss l l.length → ∃ b, b ∈ l ∧ e.1 = keyOf b := fun e h => by
  obtain ⟨k, b, _, _, h3, h4, _⟩ := sp.en e h
  exact ⟨b, List.mem_of_getElem? h3, h4⟩
 have := voters_le hmb (p := fun v => decide (v.1 = 2)) sp.nd (fun e h hp => by
  obtain ⟨b, h1, h2⟩ := he e h
  simp only [decide_eq_true_eq] at hp
  rw [h2] at hp ⊢
  have hk : b.kind = 2 := hp
  have := (hb b h1).vt
  rw [if_pos hk] at this
  exact this) (fun e e' h h' hp hp' heq => by
  obtain ⟨b, _, h2⟩ := he e h
  obtain ⟨b', _, h2'⟩ := he e' h'
  simp only [decide_eq_true_eq] at hp hp'
  rw [h2] at hp heq ⊢
  rw [h2'] at hp' heq ⊢
  have hk : b.kind = 2 := hp
  have hk' : b'.kind = 2 := hp'
  have hv : b.voter = b'.voter := heq
  unfold keyOf
  rw [if_pos hk, if_pos hk', hk, hk', hv])
 have e : (voices rd ss l l.length).map (fun e => gM e.1) = (voices rd ss l l.length).map fun e => if (fun v : Voice => decide (v.1 = 2)) e.1 then (1 : Int) else 0 := by
  refine List.map_congr_left fun e _ => ?_
  unfold gM
  by_cases h : e.1.1 = 2
  ·simp [h]
  ·simp [h]
 show 0 ≤ c.members - ((voices rd ss l l.length).map fun e => gM e.1).sum
 rw [e]
 exact Int.sub_nonneg.2 this
theorem toN_up (n : Nat) : Up (toN n) := by
 unfold Up toN
 rw [List.pairwise_map]
 exact List.pairwise_lt_range.imp fun h => by omega
theorem rdsT_up {l : List Ballot} : ∀ {rs : List Rnd} {i : Nat} {ss : List Int}, Up ss → ∀ t, t ∈ rdsT l rs i ss → Up t.songs := by
 intro rs
 induction rs with
 | nil => intro i ss _ t h; cases h
 | cons r rs ih =>
  intro i ss hu t h
  simp only [rdsT, List.mem_cons] at h
  rcases h with rfl | h
  ·exact hu
  ·refine ih ?_ t h
   exact kept_up (by rw [allT_song]; exact hu) _
theorem roundsT_up {c : Contest} {l : List Ballot} {t : Tally} (h : t ∈ roundsT c l) : Up t.songs := by
 refine rdsT_up ?_ t h
 exact toN_up _
theorem staysD_at {c : Contest} {l : List Ballot} {k : Nat} {t : Tally} (h : chkBls c l = 0) (ht : (roundsT c l)[k]? = some t) : staysD c l k = ((toI c.songs).map (staysV t c), 0) := by
 have hlt : k < c.rounds.length := by
  have := (List.getElem?_eq_some_iff.1 ht).1
  have e : (roundsT c l).length = c.rounds.length := rdsT_len
  omega
 unfold staysD
 rw [if_neg (by simp [h]), if_neg (by rw [inR_true.2 (by omega)]; simp), Int.toNat_natCast, ht]
def chkB1 (c : Contest) (p : List Ballot) (b : Ballot) : Int := if inR b.serial 1 1000000000 = false then 2 else if has (p.map (·.serial)) b.serial = true then 8 else chkBl c b
theorem chkBl_bad {c : Contest} {b : Ballot} (h1 : bl1 c b = 0) (hk1 : b.kind ≠ 1) (hk2 : b.kind ≠ 2) : chkBl c b = 3 := by
 have h2 : bl2 b = 3 := by
  unfold bl2 unl
  have : inR b.kind 1 2 = false := by
   cases h : inR b.kind 1 2 with
   | false => rfl
   | true => have := inR_true.1 h; omega
  rw [this]; rfl
 simp [chkBl, blEs, firstE, h1, h2]
theorem chkF_step {c : Contest} {p l : List Ballot} {b : Ballot} : chkBlsF c (p.map (·.serial)) (b :: l) = if chkB1 c p b ≠ 0 then chkB1 c p b else chkBlsF c ((p ++ [b]).map (·.serial)) l := by
 by_cases h1 : inR b.serial 1 1000000000 = true
 ·by_cases h2 : has (p.map (·.serial)) b.serial = true
  ·simp [chkBlsF, chkB1, h1, h2]
  ·simp [chkBlsF, chkB1, h1, h2]
 ·simp [chkBlsF, chkB1, h1]
set_option maxHeartbeats 8000000 in
theorem rCheck_pc (Y : YEnv) (σ : Sg) (c : Contest) (hr : c.rounds.length < 2 ^ 40) :
  PC Tryz.prog Y 26 [cnPV c] σ (I (chkCn c)) (σ) := by
 refine PC_of_W Tryz.func26 rfl (by kernel_rfl) Tryz.ntmps26 (by simp) fun hcl hca => ?_
 obtain ⟨res, hres⟩ : ∃ r, chkCn c = r := ⟨_, rfl⟩
 rw [hres]
 refine W_seq fun kz1 kq1 => ?_
 refine W_region [1] fun R hR => ?_
 simp only [go_sem, cnCells]
 refine hR _ _ (kq1 _ _ ?_); clear hR R; try clear kq1 kz1
 try simp only [go_sem, cnCells]
 refine W_seq fun kz2 kq2 => ?_
 refine W_seq fun kz3 kq3 => ?_
 refine W_regionJ [1, 27] [(27, .bool (!(chkCn0 c)))] ?_ fun R hR => ?_
 ·refine kq3 _ _ ?_
  simp only [go_sem, cnCells]
  refine W_cond rfl (fun c1 => ?_) (fun c1 => ?_)
  ·try simp only [nrm] at c1
   refine W_seq fun kz4 kq4 => ?_
   refine W_region [2] fun R hR => ?_
   simp only [go_sem, cnCells]
   refine hR _ _ (kq4 _ _ ?_); clear hR R; try clear kq4 kz4
   try simp only [go_sem, cnCells]
   refine W_ret ?_
   simp only [go_sem, cnCells]
   refine ⟨.inr (by trivial), ?_⟩
   first | refine Fin_same hcl rfl (Wk_eq ?_ (by simp only [go_sem])) | refine Fin_self hcl rfl (Wk_eq ?_ (by simp only [go_sem]))
   try simp only [go_sem]
   all_goals
    rw [← hres]; unfold chkCn; rw [if_pos (by simpa using c1)]
  ·try simp only [nrm] at c1
   refine W_skip (kq2 _ _ ?_)
   refine W_seq fun kz5 kq5 => ?_
   refine W_seq fun kz6 kq6 => ?_
   refine W_region [1, 31] fun R hR => ?_
   simp only [go_sem, cnCells]
   refine hR _ _ (kq6 _ _ ?_); clear hR R; try clear kq6 kz6
   try simp only [go_sem, cnCells]
   refine W_cond rfl (fun c2 => ?_) (fun c2 => ?_)
   ·try simp only [nrm] at c2
    refine W_seq fun kz7 kq7 => ?_
    refine W_region [2] fun R hR => ?_
    simp only [go_sem, cnCells]
    refine hR _ _ (kq7 _ _ ?_); clear hR R; try clear kq7 kz7
    try simp only [go_sem, cnCells]
    refine W_ret ?_
    simp only [go_sem, cnCells]
    refine ⟨.inr (by trivial), ?_⟩
    first | refine Fin_same hcl rfl (Wk_eq ?_ (by simp only [go_sem])) | refine Fin_self hcl rfl (Wk_eq ?_ (by simp only [go_sem]))
    try simp only [go_sem]
    all_goals
     rw [← hres]; unfold chkCn; rw [if_neg (by simpa using c1), if_pos (by omega)]
   ·try simp only [nrm] at c2
    refine W_skip (kq5 _ _ ?_)
    refine W_seq fun kz8 kq8 => ?_
    refine W_seq fun kz9 kq9 => ?_
    refine W_region [1, 35] fun R hR => ?_
    simp only [go_sem, cnCells]
    refine hR _ _ (kq9 _ _ ?_); clear hR R; try clear kq9 kz9
    try simp only [go_sem, cnCells]
    refine W_cond rfl (fun c3 => ?_) (fun c3 => ?_)
    ·try simp only [nrm] at c3
     refine W_seq fun kz10 kq10 => ?_
     refine W_region [2] fun R hR => ?_
     simp only [go_sem, cnCells]
     refine hR _ _ (kq10 _ _ ?_); clear hR R; try clear kq10 kz10
     try simp only [go_sem, cnCells]
     refine W_ret ?_
     simp only [go_sem, cnCells]
     refine ⟨.inr (by trivial), ?_⟩
     first | refine Fin_same hcl rfl (Wk_eq ?_ (by simp only [go_sem])) | refine Fin_self hcl rfl (Wk_eq ?_ (by simp only [go_sem]))
     try simp only [go_sem]
     all_goals
      rw [← hres]; unfold chkCn; rw [if_neg (by simpa using c1), if_neg (by omega), if_pos (by omega)]
    ·try simp only [nrm] at c3
     refine W_skip (kq8 _ _ ?_)
     refine W_seq fun kz11 kq11 => ?_
     refine W_region [1, 3] fun R hR => ?_
     simp only [go_sem, cnCells]
     refine hR _ _ (kq11 _ _ ?_); clear hR R; try clear kq11 kz11
     try simp only [go_sem, cnCells]
     refine W_seq fun kz12 kq12 => ?_
     refine W_seq fun kz13 kq13 => ?_
     refine W_region [1, 3, 4] fun R hR => ?_
     simp only [go_sem, cnCells]
     refine hR _ _ (kq13 _ _ ?_); clear hR R; try clear kq13 kz13
     try simp only [go_sem, cnCells]
     refine W_block ?_
     refine W_loopS (α := Nat × Int) (fun ⟨i, sg⟩ => [(3, I sg), (4, I i)]) (fun ⟨i, sg⟩ => i ≤ c.rounds.length ∧ res = chkRds sg (c.rounds.drop i)) (fun ⟨i, sg⟩ => c.rounds.length - i) ((0, c.songs)) rfl (⟨Nat.zero_le _, by rw [← hres]; unfold chkCn; rw [if_neg (by simpa using c1), if_neg (by omega), if_neg (by omega)]; rfl⟩) ?_
     rintro ⟨i, sg⟩ ⟨hi, hinv⟩
     refine W_seq fun kz14 kq14 => ?_
     refine W_seq fun kz15 kq15 => ?_
     refine W_region [1, 3, 4, 42] fun R hR => ?_
     simp only [go_sem, cnCells]
     refine hR _ _ (kq15 _ _ ?_); clear hR R; try clear kq15 kz15
     try simp only [go_sem, cnCells]
     refine W_cond rfl (fun c4 => ?_) (fun c4 => ?_)
     ·try simp only [nrm] at c4
      have hi' : i < c.rounds.length := by first | assumption | omega
      obtain ⟨r, hx⟩ : ∃ r, c.rounds[i]? = some r := ⟨c.rounds[i], by simp [hi']⟩
      have hdrop : c.rounds.drop i = r :: c.rounds.drop (i + 1) := by
       rw [List.drop_eq_getElem_cons hi']; congr 1; exact (List.getElem?_eq_some_iff.1 hx).2
      rw [hdrop] at hinv
      simp only [chkRds] at hinv
      refine W_skip (kq14 _ _ ?_)
      refine W_seq fun kz16 kq16 => ?_
      refine W_block ?_
      refine W_seq fun kz17 kq17 => ?_
      refine W_region [1, 3, 4, 5] fun R hR => ?_
      simp only [go_sem, cnCells, hx]
      refine hR _ _ (kq17 _ _ ?_); clear hR R; try clear kq17 kz17
      try simp only [go_sem, cnCells, hx]
      refine W_seq fun kz18 kq18 => ?_
      refine W_seq fun kz19 kq19 => ?_
      refine W_regionJ [1, 4, 5, 66] [(66, .bool (!(chkRd sg r)))] ?_ fun R hR => ?_
      ·refine kq19 _ _ ?_
       simp only [go_sem, cnCells, hx]
       refine W_cond rfl (fun c5 => ?_) (fun c5 => ?_)
       ·try simp only [nrm] at c5
        refine W_seq fun kz20 kq20 => ?_
        refine W_region [2] fun R hR => ?_
        simp only [go_sem, cnCells, hx]
        refine hR _ _ (kq20 _ _ ?_); clear hR R; try clear kq20 kz20
        try simp only [go_sem, cnCells, hx]
        refine W_ret ?_
        simp only [go_sem, cnCells, hx]
        refine ⟨.inr (by trivial), ?_⟩
        first | refine Fin_same hcl rfl (Wk_eq ?_ (by simp only [go_sem])) | refine Fin_self hcl rfl (Wk_eq ?_ (by simp only [go_sem]))
        try simp only [go_sem]
        all_goals
         rw [hinv, if_pos (by simp [c5])]
       ·try simp only [nrm] at c5
        refine W_skip (kq18 _ _ ?_)
        refine W_region [1, 3, 4] fun R hR => ?_
        simp only [go_sem, cnCells, hx]
        refine hR _ _ (kq16 _ _ ?_); clear hR R; try clear kq16 kz16
        try simp only [go_sem, cnCells, hx]
        refine W_region [1, 3, 4] fun R hR => ?_
        simp only [go_sem, cnCells, hx]
        try simp (disch := omega) only [wrapI, wrapU]
        refine hR _ _ ?_; clear hR R
        try simp only [go_sem, cnCells, hx]
        refine ⟨(i + 1, r.keep), ?_, by (try simp only []); omega, ?_⟩
        ·refine Weak.trans (Weak.cutX 1 0 (by omega) (by omega) hcl (by simp only [go_sem] <;> omega) (by simp only [go_sem] <;> omega)) ?_
         simp only [go_sem]
         exact Weak.eq (by first | rfl | (simp only [go_sem]; done) | (simp only [go_sem]; rfl) | (simp [go_sem]; done) | (simp [go_sem]; omega)) (by first | rfl | (simp only [go_sem]; done) | (simp [go_sem]; done))
        ·try dsimp only
         refine ⟨hi', ?_⟩
         rw [hinv, if_neg (by simp [c5])]
      ·simp only [go_sem, cnCells, hx]
       refine GCall_of (within_pc Y _ r.jury 0 1000) ?_
       simp only [go_sem, cnCells, hx]
       refine GWant_split (fun g1 => ?_) (fun g1 => ?_)
       ·try simp only [Bool.not_eq_true', Bool.not_eq_false'] at g1
        have n1 := g1; try simp only [nrm] at n1
        simp only [go_sem, cnCells, hx, g1]
        refine GCall_of (within_pc Y _ r.member 0 1000) ?_
        simp only [go_sem, cnCells, hx, g1]
        refine GWant_split (fun g2 => ?_) (fun g2 => ?_)
        ·try simp only [Bool.not_eq_true', Bool.not_eq_false'] at g2
         have n2 := g2; try simp only [nrm] at n2
         simp only [go_sem, cnCells, hx, g1, g2]
         refine GCall_of (within_pc Y _ r.keep 1 sg) ?_
         simp only [go_sem, cnCells, hx, g1, g2]
         refine hR _ ?_
         all_goals try simp only [go_sem, cnCells, hx]
         all_goals
          first | rfl | (simp [chkRd, allIn, *]; done) | (simp_all [chkRd, allIn]; done)
        ·try simp only [Bool.not_eq_true', Bool.not_eq_false'] at g2
         have n2 := g2; try simp only [nrm] at n2
         simp only [go_sem, cnCells, hx, g1, g2]
         refine hR _ ?_
         all_goals try simp only [go_sem, cnCells, hx]
         all_goals
          first | rfl | (simp [chkRd, allIn, *]; done) | (simp_all [chkRd, allIn]; done)
       ·try simp only [Bool.not_eq_true', Bool.not_eq_false'] at g1
        have n1 := g1; try simp only [nrm] at n1
        simp only [go_sem, cnCells, hx, g1]
        refine hR _ ?_
        all_goals try simp only [go_sem, cnCells, hx]
        all_goals
         first | rfl | (simp [chkRd, allIn, *]; done) | (simp_all [chkRd, allIn]; done)
     ·try simp only [nrm] at c4
      have hdrop : c.rounds.drop i = [] := List.drop_eq_nil_of_le (by omega)
      rw [hdrop] at hinv
      simp only [chkRds] at hinv
      refine W_exit ?_
      simp only [go_sem, cnCells]
      refine kq12 _ _ ?_
      refine W_seq fun kz21 kq21 => ?_
      refine W_seq fun kz22 kq22 => ?_
      refine W_region [70] fun R hR => ?_
      simp only [go_sem, cnCells]
      refine hR _ _ (kq22 _ _ ?_); clear hR R; try clear kq22 kz22
      try simp only [go_sem, cnCells]
      refine W_cond rfl (fun c6 => ?_) (fun c6 => ?_)
      ·try simp only [nrm] at c6
       refine W_seq fun kz23 kq23 => ?_
       refine W_region [2] fun R hR => ?_
       simp only [go_sem, cnCells]
       refine hR _ _ (kq23 _ _ ?_); clear hR R; try clear kq23 kz23
       try simp only [go_sem, cnCells]
       refine W_ret ?_
       simp only [go_sem, cnCells]
       refine ⟨.inr (by trivial), ?_⟩
       first | refine Fin_same hcl rfl (Wk_eq ?_ (by simp only [go_sem])) | refine Fin_self hcl rfl (Wk_eq ?_ (by simp only [go_sem]))
       try simp only [go_sem]
       all_goals
        rw [hinv, if_neg (by omega)]
      ·try simp only [nrm] at c6
       refine W_skip (kq21 _ _ ?_)
       refine W_seq fun kz24 kq24 => ?_
       refine W_region [2] fun R hR => ?_
       simp only [go_sem, cnCells]
       refine hR _ _ (kq24 _ _ ?_); clear hR R; try clear kq24 kz24
       try simp only [go_sem, cnCells]
       refine W_ret ?_
       simp only [go_sem, cnCells]
       refine ⟨.inr (by trivial), ?_⟩
       first | refine Fin_same hcl rfl (Wk_eq ?_ (by simp only [go_sem])) | refine Fin_self hcl rfl (Wk_eq ?_ (by simp only [go_sem]))
       try simp only [go_sem]
       all_goals
        rw [hinv, if_pos (by omega)]
 ·simp only [go_sem, cnCells]
  refine GCall_of (within_pc Y _ c.songs 1 8) ?_
  simp only [go_sem, cnCells]
  refine GWant_split (fun g3 => ?_) (fun g3 => ?_)
  ·try simp only [Bool.not_eq_true', Bool.not_eq_false'] at g3
   have n3 := g3; try simp only [nrm] at n3
   simp only [go_sem, cnCells, g3]
   refine GCall_of (within_pc Y _ c.juries 0 8) ?_
   simp only [go_sem, cnCells, g3]
   refine GWant_split (fun g4 => ?_) (fun g4 => ?_)
   ·try simp only [Bool.not_eq_true', Bool.not_eq_false'] at g4
    have n4 := g4; try simp only [nrm] at n4
    simp only [go_sem, cnCells, g3, g4]
    refine GCall_of (within_pc Y _ c.members 0 1000) ?_
    simp only [go_sem, cnCells, g3, g4]
    refine GWant_split (fun g5 => ?_) (fun g5 => ?_)
    ·try simp only [Bool.not_eq_true', Bool.not_eq_false'] at g5
     have n5 := g5; try simp only [nrm] at n5
     simp only [go_sem, cnCells, g3, g4, g5]
     refine GCall_of (within_pc Y _ c.most 0 100) ?_
     simp only [go_sem, cnCells, g3, g4, g5]
     refine hR _ ?_
     all_goals try simp only [go_sem, cnCells]
     all_goals
      first | rfl | (simp [chkCn0, allIn1, *]; done) | (simp_all [chkCn0, allIn1]; done)
    ·try simp only [Bool.not_eq_true', Bool.not_eq_false'] at g5
     have n5 := g5; try simp only [nrm] at n5
     simp only [go_sem, cnCells, g3, g4, g5]
     refine hR _ ?_
     all_goals try simp only [go_sem, cnCells]
     all_goals
      first | rfl | (simp [chkCn0, allIn1, *]; done) | (simp_all [chkCn0, allIn1]; done)
   ·try simp only [Bool.not_eq_true', Bool.not_eq_false'] at g4
    have n4 := g4; try simp only [nrm] at n4
    simp only [go_sem, cnCells, g3, g4]
    refine hR _ ?_
    all_goals try simp only [go_sem, cnCells]
    all_goals
     first | rfl | (simp [chkCn0, allIn1, *]; done) | (simp_all [chkCn0, allIn1]; done)
  ·try simp only [Bool.not_eq_true', Bool.not_eq_false'] at g3
   have n3 := g3; try simp only [nrm] at n3
   simp only [go_sem, cnCells, g3]
   refine hR _ ?_
   all_goals try simp only [go_sem, cnCells]
   all_goals
    first | rfl | (simp [chkCn0, allIn1, *]; done) | (simp_all [chkCn0, allIn1]; done)
set_option maxHeartbeats 8000000 in
theorem rchkB_pc (Y : YEnv) (σ : Sg) (c : Contest) (p : List Ballot) (b : Ballot) (o : Own) (hV : CnV c) (hp : p.length < 2 ^ 40) :
    PC Tryz.prog Y 63 [cnPV c, .isl (p.map blPV) o, blPV b] σ (I (chkB1 c p b)) (σ) := by
  refine PC_of_W Tryz.func63 rfl (by kernel_rfl) Tryz.ntmps63 (by simp) fun hcl hca => ?_
  have h1 := hV.sg
  have h2 := hV.jr
  have h3 := hV.mb
  have h4 := hV.rl
  have hw1 : IntKind.i64.wrap ((c.rounds.length : Int) - 1) = (c.rounds.length : Int) - 1 := wrapI (by omega) (by omega)
  have hw2 : IntKind.i64.wrap (c.juries - 1) = c.juries - 1 := wrapI (by omega) (by omega)
  have hw3 : IntKind.i64.wrap (c.songs - 1) = c.songs - 1 := wrapI (by omega) (by omega)
  have hw4 : IntKind.i64.wrap (c.members - 1) = c.members - 1 := wrapI (by omega) (by omega)
  obtain ⟨res, hres⟩ : ∃ r, chkB1 c p b = r := ⟨_, rfl⟩
  rw [hres]
  refine W_seq fun kz1 kq1 => ?_
  refine W_region [1, 3, 5] fun R hR => ?_
  simp only [go_sem, cnCells, blCells]
  refine hR _ _ (kq1 _ _ ?_); clear hR R; try clear kq1 kz1
  try simp only [go_sem, cnCells, blCells]
  refine W_seq fun kz2 kq2 => ?_
  refine W_seq fun kz3 kq3 => ?_
  refine W_region [1, 3, 5, 11] fun R hR => ?_
  simp only [go_sem, cnCells, blCells]
  refine GCall_of (within_pc Y _ b.serial 1 1000000000) ?_
  simp only [go_sem, cnCells, blCells]
  refine hR _ _ (kq3 _ _ ?_); clear hR R; try clear kq3 kz3
  try simp only [go_sem, cnCells, blCells]
  refine W_cond rfl (fun c1 => ?_) (fun c1 => ?_)
  · -- c1 true
    try simp only [nrm] at c1
    refine W_seq fun kz4 kq4 => ?_
    refine W_region [6] fun R hR => ?_
    simp only [go_sem, cnCells, blCells]
    refine hR _ _ (kq4 _ _ ?_); clear hR R; try clear kq4 kz4
    try simp only [go_sem, cnCells, blCells]
    refine W_ret ?_
    simp only [go_sem, cnCells, blCells]
    refine ⟨.inr (by trivial), ?_⟩
    first | refine Fin_same hcl rfl (Wk_eq ?_ (by simp only [go_sem])) | refine Fin_self hcl rfl (Wk_eq ?_ (by simp only [go_sem]))
    try simp only [go_sem]
    all_goals
      rw [← hres]; unfold chkB1; rw [if_pos (by simpa using c1)]
  · -- c1 false
    try simp only [nrm] at c1
    refine W_skip (kq2 _ _ ?_)
    refine W_seq fun kz5 kq5 => ?_
    refine W_seq fun kz6 kq6 => ?_
    refine W_region [1, 3, 5, 7] fun R hR => ?_
    simp only [go_sem, cnCells, blCells]
    refine hR _ _ (kq6 _ _ ?_); clear hR R; try clear kq6 kz6
    try simp only [go_sem, cnCells, blCells]
    refine W_block ?_
    refine W_loopS (α := Nat) (fun (i : Nat) => [(7, I i)]) (fun (i : Nat) => i ≤ p.length ∧ has ((p.take i).map (·.serial)) b.serial = false) (fun (i : Nat) => p.length - i) (0) rfl (⟨Nat.zero_le _, rfl⟩) ?_
    rintro i ⟨hi, hno⟩
    refine W_seq fun kz7 kq7 => ?_
    refine W_seq fun kz8 kq8 => ?_
    refine W_region [1, 3, 5, 7, 15] fun R hR => ?_
    simp only [go_sem, cnCells, blCells]
    refine hR _ _ (kq8 _ _ ?_); clear hR R; try clear kq8 kz8
    try simp only [go_sem, cnCells, blCells]
    refine W_cond rfl (fun c2 => ?_) (fun c2 => ?_)
    · -- c2 true
      try simp only [nrm] at c2
      have hi' : i < p.length := by first | assumption | omega
      obtain ⟨q, hx⟩ : ∃ q, p[i]? = some q := ⟨p[i], by simp [hi']⟩
      have hdrop : p.drop i = q :: p.drop (i + 1) := by
        rw [List.drop_eq_getElem_cons hi']; congr 1; exact (List.getElem?_eq_some_iff.1 hx).2
      have hil : (i : Int) < (p.length : Int) := by omega
      refine W_skip (kq7 _ _ ?_)
      refine W_seq fun kz9 kq9 => ?_
      refine W_block ?_
      refine W_seq fun kz10 kq10 => ?_
      refine W_draw [1, 3, 5, 7, 25] [0, 1, 2, 3, 4, 5, 6, 7] [] [[], [], [0, 1], [0, 1, 2], [0, 1, 2, 3], [], [5], [0, 1, 2, 3, 4, 5, 6]] mixed (by kernel_rfl) fun R hR => ?_
      simp only [go_sem, cnCells, blCells, hx, hil]
      try refine And.intro (by repeat' (first | refine And.intro ?_ ?_ | exact GOr_right (fun _ => by simp only [go_sem, cnCells, blCells, hx, hil]))) ?_
      refine hR _ _ (kq10 _ _ ?_); clear hR R; try clear kq10 kz10
      try simp only [go_sem, cnCells, blCells, hx, hil]
      refine W_cond rfl (fun c3 => ?_) (fun c3 => ?_)
      · -- c3 true
        try simp only [nrm] at c3
        refine W_seq fun kz11 kq11 => ?_
        refine W_region [6] fun R hR => ?_
        simp only [go_sem, cnCells, blCells, hx, hil]
        refine hR _ _ (kq11 _ _ ?_); clear hR R; try clear kq11 kz11
        try simp only [go_sem, cnCells, blCells, hx, hil]
        refine W_ret ?_
        simp only [go_sem, cnCells, blCells, hx, hil]
        refine ⟨.inr (by trivial), ?_⟩
        first | refine Fin_same hcl rfl (Wk_eq ?_ (by simp only [go_sem])) | refine Fin_self hcl rfl (Wk_eq ?_ (by simp only [go_sem]))
        try simp only [go_sem]
        all_goals
          rw [← hres]; unfold chkB1; rw [if_neg (by simpa using c1), if_pos]
          rw [has_iff]
          exact List.mem_map.2 ⟨q, List.mem_of_getElem? hx, by omega⟩
      · -- c3 false
        try simp only [nrm] at c3
        refine W_skip (kq9 _ _ ?_)
        refine W_region [1, 3, 5, 7] fun R hR => ?_
        simp only [go_sem, cnCells, blCells, hx, hil]
        try simp (disch := omega) only [wrapI, wrapU]
        refine hR _ _ ?_; clear hR R
        try simp only [go_sem, cnCells, blCells, hx, hil]
        refine ⟨i + 1, ?_, by (try simp only []); omega, ?_⟩
        · first | exact Weak.refl | exact Weak.eq (by first | rfl | (simp only [go_sem]; done) | (simp only [go_sem]; rfl) | (simp [go_sem]; done) | (simp [go_sem]; omega)) (by first | rfl | (simp only [go_sem]; done) | (simp [go_sem]; done))
        · try dsimp only
          refine ⟨hi', ?_⟩
          rw [List.take_add_one, hx]
          simp only [Option.toList_some, List.map_append, List.map_cons, List.map_nil]
          simp only [has] at hno ⊢
          rw [List.any_append, hno]
          simp
          first | omega | exact c3
    · -- c2 false
      try simp only [nrm] at c2
      have hie : p.length = i := by omega
      rw [← hie, List.take_length] at hno
      have hB : res = chkBl c b := by rw [← hres]; unfold chkB1; rw [if_neg (by simpa using c1), if_neg (by rw [hno]; simp)]
      refine W_exit ?_
      simp only [go_sem, cnCells, blCells]
      refine kq5 _ _ ?_
      refine W_seq fun kz12 kq12 => ?_
      refine W_seq fun kz13 kq13 => ?_
      refine W_region [3, 5, 33] fun R hR => ?_
      simp only [go_sem, cnCells, blCells, hw1]
      try simp (disch := omega) only [wrapI, wrapU]
      refine GCall_of (within_pc Y _ b.round 0 ((c.rounds.length : Int) - 1)) ?_
      simp only [go_sem, cnCells, blCells, hw1]
      try simp (disch := omega) only [wrapI, wrapU]
      refine hR _ _ (kq13 _ _ ?_); clear hR R; try clear kq13 kz13
      try simp only [go_sem, cnCells, blCells]
      refine W_cond rfl (fun c4 => ?_) (fun c4 => ?_)
      · -- c4 true
        try simp only [nrm] at c4
        refine W_seq fun kz14 kq14 => ?_
        refine W_region [6] fun R hR => ?_
        simp only [go_sem, cnCells, blCells]
        refine hR _ _ (kq14 _ _ ?_); clear hR R; try clear kq14 kz14
        try simp only [go_sem, cnCells, blCells]
        refine W_ret ?_
        simp only [go_sem, cnCells, blCells]
        refine ⟨.inr (by trivial), ?_⟩
        first | refine Fin_same hcl rfl (Wk_eq ?_ (by simp only [go_sem])) | refine Fin_self hcl rfl (Wk_eq ?_ (by simp only [go_sem]))
        try simp only [go_sem]
        all_goals
          rw [hB]
          first
          | (rw [chkBl_bad (by unfold bl1 unl; simp [c4]) (by omega) (by omega)])
          | (unfold chkBl blEs bl1 bl2 bl3 bl4 bl5 unl
             simp_all [firstE, inR]; done)
          | (unfold chkBl blEs bl1 bl2 bl3 bl4 bl5 unl
             simp_all [firstE, inR]
             omega)
      · -- c4 false
        try simp only [nrm] at c4
        refine W_skip (kq12 _ _ ?_)
        refine W_seq fun kz15 kq15 => ?_
        refine W_seq fun kz16 kq16 => ?_
        refine W_region [3, 5, 35] fun R hR => ?_
        simp only [go_sem, cnCells, blCells]
        refine hR _ _ (kq16 _ _ ?_); clear hR R; try clear kq16 kz16
        try simp only [go_sem, cnCells, blCells]
        refine W_block ?_
        refine W_seq fun kz17 kq17 => ?_
        refine W_region [3, 5, 35, 36] fun R hR => ?_
        simp only [go_sem, cnCells, blCells]
        refine hR _ _ (kq17 _ _ ?_); clear hR R; try clear kq17 kz17
        try simp only [go_sem, cnCells, blCells]
        refine W_cond rfl (fun c5 => ?_) (fun c5 => ?_)
        · -- c5 true
          try simp only [nrm] at c5
          refine W_seq fun kz18 kq18 => ?_
          refine W_seq fun kz19 kq19 => ?_
          refine W_regionJ [3, 5, 53] [(53, .bool (!(inR b.voter 0 (c.juries - 1)) || !(inR b.song 0 (c.songs - 1))))] ?_ fun R hR => ?_
          · refine kq19 _ _ ?_
            simp only [go_sem, cnCells, blCells]
            refine W_cond rfl (fun c6 => ?_) (fun c6 => ?_)
            · -- c6 true
              try simp only [nrm] at c6
              refine W_seq fun kz20 kq20 => ?_
              refine W_region [6] fun R hR => ?_
              simp only [go_sem, cnCells, blCells]
              refine hR _ _ (kq20 _ _ ?_); clear hR R; try clear kq20 kz20
              try simp only [go_sem, cnCells, blCells]
              refine W_ret ?_
              simp only [go_sem, cnCells, blCells]
              refine ⟨.inr (by trivial), ?_⟩
              first | refine Fin_same hcl rfl (Wk_eq ?_ (by simp only [go_sem])) | refine Fin_self hcl rfl (Wk_eq ?_ (by simp only [go_sem]))
              try simp only [go_sem]
              all_goals
                rw [hB]
                first
                | (rw [chkBl_bad (by unfold bl1 unl; simp [c4]) (by omega) (by omega)])
                | (unfold chkBl blEs bl1 bl2 bl3 bl4 bl5 unl
                   simp_all [firstE, inR]; done)
                | (unfold chkBl blEs bl1 bl2 bl3 bl4 bl5 unl
                   simp_all [firstE, inR]
                   omega)
            · -- c6 false
              try simp only [nrm] at c6
              refine W_skip (kq18 _ _ ?_)
              refine W_seq fun kz21 kq21 => ?_
              refine W_seq fun kz22 kq22 => ?_
              refine W_region [59] fun R hR => ?_
              simp only [go_sem, cnCells, blCells]
              refine GCall_of (within_pc Y _ b.points 0 c.most) ?_
              simp only [go_sem, cnCells, blCells]
              refine hR _ _ (kq22 _ _ ?_); clear hR R; try clear kq22 kz22
              try simp only [go_sem, cnCells, blCells]
              refine W_cond rfl (fun c7 => ?_) (fun c7 => ?_)
              · -- c7 true
                try simp only [nrm] at c7
                refine W_seq fun kz23 kq23 => ?_
                refine W_region [6] fun R hR => ?_
                simp only [go_sem, cnCells, blCells]
                refine hR _ _ (kq23 _ _ ?_); clear hR R; try clear kq23 kz23
                try simp only [go_sem, cnCells, blCells]
                refine W_ret ?_
                simp only [go_sem, cnCells, blCells]
                refine ⟨.inr (by trivial), ?_⟩
                first | refine Fin_same hcl rfl (Wk_eq ?_ (by simp only [go_sem])) | refine Fin_self hcl rfl (Wk_eq ?_ (by simp only [go_sem]))
                try simp only [go_sem]
                all_goals
                  rw [hB]
                  first
                  | (rw [chkBl_bad (by unfold bl1 unl; simp [c4]) (by omega) (by omega)])
                  | (unfold chkBl blEs bl1 bl2 bl3 bl4 bl5 unl
                     simp_all [firstE, inR]; done)
                  | (unfold chkBl blEs bl1 bl2 bl3 bl4 bl5 unl
                     simp_all [firstE, inR]
                     omega)
              · -- c7 false
                try simp only [nrm] at c7
                refine W_skip (kq21 _ _ ?_)
                refine W_seq fun kz24 kq24 => ?_
                refine W_region [6] fun R hR => ?_
                simp only [go_sem, cnCells, blCells]
                refine hR _ _ (kq24 _ _ ?_); clear hR R; try clear kq24 kz24
                try simp only [go_sem, cnCells, blCells]
                refine W_ret ?_
                simp only [go_sem, cnCells, blCells]
                refine ⟨.inr (by trivial), ?_⟩
                first | refine Fin_same hcl rfl (Wk_eq ?_ (by simp only [go_sem])) | refine Fin_self hcl rfl (Wk_eq ?_ (by simp only [go_sem]))
                try simp only [go_sem]
                all_goals
                  rw [hB]
                  first
                  | (rw [chkBl_bad (by unfold bl1 unl; simp [c4]) (by omega) (by omega)])
                  | (unfold chkBl blEs bl1 bl2 bl3 bl4 bl5 unl
                     simp_all [firstE, inR]; done)
                  | (unfold chkBl blEs bl1 bl2 bl3 bl4 bl5 unl
                     simp_all [firstE, inR]
                     omega)
          · simp only [go_sem, cnCells, blCells, hw2, hw3]
            try simp (disch := omega) only [wrapI, wrapU]
            refine GCall_of (within_pc Y _ b.voter 0 (c.juries - 1)) ?_
            simp only [go_sem, cnCells, blCells, hw2, hw3]
            refine GWant_split (fun g1 => ?_) (fun g1 => ?_)
            · try simp only [Bool.not_eq_true', Bool.not_eq_false'] at g1
              have n1 := g1; try simp only [nrm] at n1
              try simp (disch := omega) only [wrapI, wrapU] at n1
              simp only [go_sem, cnCells, blCells, hw2, hw3, g1]
              try simp (disch := omega) only [wrapI, wrapU]
              refine GCall_of (within_pc Y _ b.song 0 (c.songs - 1)) ?_
              simp only [go_sem, cnCells, blCells, hw2, hw3, g1]
              try simp (disch := omega) only [wrapI, wrapU]
              refine hR _ ?_
              all_goals try simp only [go_sem, cnCells, blCells, hw2, hw3]
              all_goals
                first | rfl | (simp [*]; done) | (simp_all; done)
            · try simp only [Bool.not_eq_true', Bool.not_eq_false'] at g1
              have n1 := g1; try simp only [nrm] at n1
              try simp (disch := omega) only [wrapI, wrapU] at n1
              simp only [go_sem, cnCells, blCells, hw2, hw3, g1]
              try simp (disch := omega) only [wrapI, wrapU]
              refine hR _ ?_
              all_goals try simp only [go_sem, cnCells, blCells, hw2, hw3]
              all_goals
                first | rfl | (simp [*]; done) | (simp_all; done)
        · -- c5 false
          try simp only [nrm] at c5
          refine W_seq fun kz25 kq25 => ?_
          refine W_region [3, 5, 60] fun R hR => ?_
          simp only [go_sem, cnCells, blCells]
          refine hR _ _ (kq25 _ _ ?_); clear hR R; try clear kq25 kz25
          try simp only [go_sem, cnCells, blCells]
          refine W_cond rfl (fun c8 => ?_) (fun c8 => ?_)
          · -- c8 true
            try simp only [nrm] at c8
            refine W_seq fun kz26 kq26 => ?_
            refine W_seq fun kz27 kq27 => ?_
            refine W_regionJ [5, 77] [(77, .bool (!(inR b.voter 0 (c.members - 1)) || !(inR b.song 0 (c.songs - 1))))] ?_ fun R hR => ?_
            · refine kq27 _ _ ?_
              simp only [go_sem, cnCells, blCells]
              refine W_cond rfl (fun c9 => ?_) (fun c9 => ?_)
              · -- c9 true
                try simp only [nrm] at c9
                refine W_seq fun kz28 kq28 => ?_
                refine W_region [6] fun R hR => ?_
                simp only [go_sem, cnCells, blCells]
                refine hR _ _ (kq28 _ _ ?_); clear hR R; try clear kq28 kz28
                try simp only [go_sem, cnCells, blCells]
                refine W_ret ?_
                simp only [go_sem, cnCells, blCells]
                refine ⟨.inr (by trivial), ?_⟩
                first | refine Fin_same hcl rfl (Wk_eq ?_ (by simp only [go_sem])) | refine Fin_self hcl rfl (Wk_eq ?_ (by simp only [go_sem]))
                try simp only [go_sem]
                all_goals
                  rw [hB]
                  first
                  | (rw [chkBl_bad (by unfold bl1 unl; simp [c4]) (by omega) (by omega)])
                  | (unfold chkBl blEs bl1 bl2 bl3 bl4 bl5 unl
                     simp_all [firstE, inR]; done)
                  | (unfold chkBl blEs bl1 bl2 bl3 bl4 bl5 unl
                     simp_all [firstE, inR]
                     omega)
              · -- c9 false
                try simp only [nrm] at c9
                refine W_skip (kq26 _ _ ?_)
                refine W_seq fun kz29 kq29 => ?_
                refine W_seq fun kz30 kq30 => ?_
                refine W_region [80] fun R hR => ?_
                simp only [go_sem, cnCells, blCells]
                refine hR _ _ (kq30 _ _ ?_); clear hR R; try clear kq30 kz30
                try simp only [go_sem, cnCells, blCells]
                refine W_cond rfl (fun c10 => ?_) (fun c10 => ?_)
                · -- c10 true
                  try simp only [nrm] at c10
                  refine W_seq fun kz31 kq31 => ?_
                  refine W_region [6] fun R hR => ?_
                  simp only [go_sem, cnCells, blCells]
                  refine hR _ _ (kq31 _ _ ?_); clear hR R; try clear kq31 kz31
                  try simp only [go_sem, cnCells, blCells]
                  refine W_ret ?_
                  simp only [go_sem, cnCells, blCells]
                  refine ⟨.inr (by trivial), ?_⟩
                  first | refine Fin_same hcl rfl (Wk_eq ?_ (by simp only [go_sem])) | refine Fin_self hcl rfl (Wk_eq ?_ (by simp only [go_sem]))
                  try simp only [go_sem]
                  all_goals
                    rw [hB]
                    first
                    | (rw [chkBl_bad (by unfold bl1 unl; simp [c4]) (by omega) (by omega)])
                    | (unfold chkBl blEs bl1 bl2 bl3 bl4 bl5 unl
                       simp_all [firstE, inR]; done)
                    | (unfold chkBl blEs bl1 bl2 bl3 bl4 bl5 unl
                       simp_all [firstE, inR]
                       omega)
                · -- c10 false
                  try simp only [nrm] at c10
                  refine W_skip (kq29 _ _ ?_)
                  refine W_seq fun kz32 kq32 => ?_
                  refine W_region [6] fun R hR => ?_
                  simp only [go_sem, cnCells, blCells]
                  refine hR _ _ (kq32 _ _ ?_); clear hR R; try clear kq32 kz32
                  try simp only [go_sem, cnCells, blCells]
                  refine W_ret ?_
                  simp only [go_sem, cnCells, blCells]
                  refine ⟨.inr (by trivial), ?_⟩
                  first | refine Fin_same hcl rfl (Wk_eq ?_ (by simp only [go_sem])) | refine Fin_self hcl rfl (Wk_eq ?_ (by simp only [go_sem]))
                  try simp only [go_sem]
                  all_goals
                    rw [hB]
                    first
                    | (rw [chkBl_bad (by unfold bl1 unl; simp [c4]) (by omega) (by omega)])
                    | (unfold chkBl blEs bl1 bl2 bl3 bl4 bl5 unl
                       simp_all [firstE, inR]; done)
                    | (unfold chkBl blEs bl1 bl2 bl3 bl4 bl5 unl
                       simp_all [firstE, inR]
                       omega)
            · simp only [go_sem, cnCells, blCells, hw4, hw3]
              try simp (disch := omega) only [wrapI, wrapU]
              refine GCall_of (within_pc Y _ b.voter 0 (c.members - 1)) ?_
              simp only [go_sem, cnCells, blCells, hw4, hw3]
              refine GWant_split (fun g2 => ?_) (fun g2 => ?_)
              · try simp only [Bool.not_eq_true', Bool.not_eq_false'] at g2
                have n2 := g2; try simp only [nrm] at n2
                try simp (disch := omega) only [wrapI, wrapU] at n2
                simp only [go_sem, cnCells, blCells, hw4, hw3, g2]
                try simp (disch := omega) only [wrapI, wrapU]
                refine GCall_of (within_pc Y _ b.song 0 (c.songs - 1)) ?_
                simp only [go_sem, cnCells, blCells, hw4, hw3, g2]
                try simp (disch := omega) only [wrapI, wrapU]
                refine hR _ ?_
                all_goals try simp only [go_sem, cnCells, blCells, hw4, hw3]
                all_goals
                  first | rfl | (simp [*]; done) | (simp_all; done)
              · try simp only [Bool.not_eq_true', Bool.not_eq_false'] at g2
                have n2 := g2; try simp only [nrm] at n2
                try simp (disch := omega) only [wrapI, wrapU] at n2
                simp only [go_sem, cnCells, blCells, hw4, hw3, g2]
                try simp (disch := omega) only [wrapI, wrapU]
                refine hR _ ?_
                all_goals try simp only [go_sem, cnCells, blCells, hw4, hw3]
                all_goals
                  first | rfl | (simp [*]; done) | (simp_all; done)
          · -- c8 false
            try simp only [nrm] at c8
            refine W_skip (kq15 _ _ ?_)
            refine W_seq fun kz33 kq33 => ?_
            refine W_region [6] fun R hR => ?_
            simp only [go_sem, cnCells, blCells]
            refine hR _ _ (kq33 _ _ ?_); clear hR R; try clear kq33 kz33
            try simp only [go_sem, cnCells, blCells]
            refine W_ret ?_
            simp only [go_sem, cnCells, blCells]
            refine ⟨.inr (by trivial), ?_⟩
            first | refine Fin_same hcl rfl (Wk_eq ?_ (by simp only [go_sem])) | refine Fin_self hcl rfl (Wk_eq ?_ (by simp only [go_sem]))
            try simp only [go_sem]
            all_goals
              rw [hB]
              first
              | (rw [chkBl_bad (by unfold bl1 unl; simp [c4]) (by omega) (by omega)])
              | (unfold chkBl blEs bl1 bl2 bl3 bl4 bl5 unl
                 simp_all [firstE, inR]; done)
              | (unfold chkBl blEs bl1 bl2 bl3 bl4 bl5 unl
                 simp_all [firstE, inR]
                 omega)
set_option maxHeartbeats 8000000 in
theorem rchkBls_pc (Y : YEnv) (σ : Sg) (c : Contest) (l : List Ballot) (hr : c.rounds.length < 2 ^ 40) (hl : l.length < 2 ^ 40) :
  PC Tryz.prog Y 28 [cnPV c, bls l] σ (I (chkBls c l)) (σ) := by
 refine PC_of_W Tryz.func28 rfl (by kernel_rfl) Tryz.ntmps28 (by simp) fun hcl hca => ?_
 obtain ⟨res, hres⟩ : ∃ r, chkBls c l = r := ⟨_, rfl⟩
 rw [hres]
 refine W_seq fun kz1 kq1 => ?_
 refine W_region [1, 2] fun R hR => ?_
 simp only [go_sem]
 refine hR _ _ (kq1 _ _ ?_); clear hR R; try clear kq1 kz1
 try simp only [go_sem]
 refine W_seq fun kz2 kq2 => ?_
 refine W_seq fun kz3 kq3 => ?_
 refine W_region [1, 2, 5] fun R hR => ?_
 simp only [go_sem]
 refine GCall_of (rCheck_pc Y _ c hr) ?_
 simp only [go_sem]
 refine hR _ _ (kq3 _ _ ?_); clear hR R; try clear kq3 kz3
 try simp only [go_sem]
 refine W_seq fun kz4 kq4 => ?_
 refine W_region [1, 2, 5, 11] fun R hR => ?_
 simp only [go_sem]
 refine hR _ _ (kq4 _ _ ?_); clear hR R; try clear kq4 kz4
 try simp only [go_sem]
 refine W_cond rfl (fun c1 => ?_) (fun c1 => ?_)
 ·try simp only [nrm] at c1
  refine W_seq fun kz5 kq5 => ?_
  refine W_region [4] fun R hR => ?_
  simp only [go_sem]
  refine hR _ _ (kq5 _ _ ?_); clear hR R; try clear kq5 kz5
  try simp only [go_sem]
  refine W_ret ?_
  simp only [go_sem]
  refine ⟨.inr (by trivial), ?_⟩
  first | refine Fin_same hcl rfl (Wk_eq ?_ (by simp only [go_sem])) | refine Fin_self hcl rfl (Wk_eq ?_ (by simp only [go_sem]))
  try simp only [go_sem]
  all_goals
   rw [← hres]; unfold chkBls; rw [if_pos (by simpa using c1)]
 ·try simp only [nrm] at c1
  refine W_skip (kq2 _ _ ?_)
  refine W_seq fun kz6 kq6 => ?_
  refine W_seq fun kz7 kq7 => ?_
  refine W_region [1, 2, 15] fun R hR => ?_
  simp only [go_sem]
  refine hR _ _ (kq7 _ _ ?_); clear hR R; try clear kq7 kz7
  try simp only [go_sem]
  refine W_cond rfl (fun c2 => ?_) (fun c2 => ?_)
  ·try simp only [nrm] at c2
   refine W_seq fun kz8 kq8 => ?_
   refine W_region [4] fun R hR => ?_
   simp only [go_sem]
   refine hR _ _ (kq8 _ _ ?_); clear hR R; try clear kq8 kz8
   try simp only [go_sem]
   refine W_ret ?_
   simp only [go_sem]
   refine ⟨.inr (by trivial), ?_⟩
   first | refine Fin_same hcl rfl (Wk_eq ?_ (by simp only [go_sem])) | refine Fin_self hcl rfl (Wk_eq ?_ (by simp only [go_sem]))
   try simp only [go_sem]
   all_goals
    rw [← hres]; unfold chkBls; rw [if_neg (by simp [c1]), if_pos (by omega)]
  ·try simp only [nrm] at c2
   refine W_skip (kq6 _ _ ?_)
   refine W_seq fun kz9 kq9 => ?_
   refine W_seq fun kz10 kq10 => ?_
   refine W_region [1, 2, 6] fun R hR => ?_
   simp only [go_sem]
   refine hR _ _ (kq10 _ _ ?_); clear hR R; try clear kq10 kz10
   try simp only [go_sem]
   refine W_block ?_
   have hV := cnV_of c1
   refine W_loopS (α := Nat) (fun (i : Nat) => [(6, I i)]) (fun (i : Nat) => i ≤ l.length ∧ res = chkBlsF c ((l.take i).map (·.serial)) (l.drop i)) (fun (i : Nat) => l.length - i) (0) rfl (⟨Nat.zero_le _, by rw [← hres]; unfold chkBls; rw [if_neg (by simp [c1]), if_neg (by omega)]; rfl⟩) ?_
   rintro i ⟨hi, hinv⟩
   refine W_seq fun kz11 kq11 => ?_
   refine W_seq fun kz12 kq12 => ?_
   refine W_region [1, 2, 6, 19] fun R hR => ?_
   simp only [go_sem]
   refine hR _ _ (kq12 _ _ ?_); clear hR R; try clear kq12 kz12
   try simp only [go_sem]
   refine W_cond rfl (fun c3 => ?_) (fun c3 => ?_)
   ·try simp only [nrm] at c3
    have hi' : i < l.length := by first | assumption | omega
    obtain ⟨b, hx⟩ : ∃ b, l[i]? = some b := ⟨l[i], by simp [hi']⟩
    have hdrop : l.drop i = b :: l.drop (i + 1) := by
     rw [List.drop_eq_getElem_cons hi']; congr 1; exact (List.getElem?_eq_some_iff.1 hx).2
    rw [hdrop, chkF_step] at hinv
    have hil : (i : Int) < (l.length : Int) := by omega
    have hi0 : (0 : Int) ≤ (i : Int) := by omega
    have hile : i ≤ l.length := hi
    have hsn : l.take (i + 1) = l.take i ++ [b] := by rw [List.take_add_one, hx]; rfl
    rw [← hsn] at hinv
    refine W_skip (kq11 _ _ ?_)
    refine W_seq fun kz13 kq13 => ?_
    refine W_block ?_
    refine W_seq fun kz14 kq14 => ?_
    refine W_draw [1, 2, 6, 7] [0, 1, 2, 3, 4, 5, 6, 7, 8, 9] [] [[], [], [], [1, 2], [], [], [4, 5], [4, 5, 6], [0, 1, 2, 3, 4, 5, 6, 7], [0, 1, 2, 3, 4, 5, 6, 7, 8]] mixed (by kernel_rfl) fun R hR => ?_
    simp only [go_sem, hx, hx, hil, hile, hi0, ← List.map_take]
    refine GCall_of (rchkB_pc Y _ c (l.take i) b _ hV (by rw [List.length_take]; omega)) ?_
    simp only [go_sem, hx, hx, hil, hile, hi0, ← List.map_take]
    try refine And.intro (by repeat' (first | refine And.intro ?_ ?_ | exact GOr_right (fun _ => by simp only [go_sem, hx, hx, hil, hile, hi0, ← List.map_take]))) ?_
    refine hR _ _ (kq14 _ _ ?_); clear hR R; try clear kq14 kz14
    try simp only [go_sem, hx]
    refine W_seq fun kz15 kq15 => ?_
    refine W_region [1, 2, 6, 7, 32] fun R hR => ?_
    simp only [go_sem, hx]
    refine hR _ _ (kq15 _ _ ?_); clear hR R; try clear kq15 kz15
    try simp only [go_sem, hx]
    refine W_cond rfl (fun c4 => ?_) (fun c4 => ?_)
    ·try simp only [nrm] at c4
     refine W_seq fun kz16 kq16 => ?_
     refine W_region [4] fun R hR => ?_
     simp only [go_sem, hx]
     refine hR _ _ (kq16 _ _ ?_); clear hR R; try clear kq16 kz16
     try simp only [go_sem, hx]
     refine W_ret ?_
     simp only [go_sem, hx]
     refine ⟨.inr (by trivial), ?_⟩
     first | refine Fin_same hcl rfl (Wk_eq ?_ (by simp only [go_sem])) | refine Fin_self hcl rfl (Wk_eq ?_ (by simp only [go_sem]))
     try simp only [go_sem]
     all_goals
      rw [hinv, if_pos c4]
    ·try simp only [nrm] at c4
     refine W_skip (kq13 _ _ ?_)
     refine W_region [1, 2, 6] fun R hR => ?_
     simp only [go_sem, hx]
     try simp (disch := omega) only [wrapI, wrapU]
     refine hR _ _ ?_; clear hR R
     try simp only [go_sem, hx]
     refine ⟨i + 1, ?_, by (try simp only []); omega, ?_⟩
     ·first | exact Weak.refl | exact Weak.eq (by first | rfl | (simp only [go_sem]; done) | (simp only [go_sem]; rfl) | (simp [go_sem]; done) | (simp [go_sem]; omega)) (by first | rfl | (simp only [go_sem]; done) | (simp [go_sem]; done))
     ·try dsimp only
      refine ⟨hi', ?_⟩
      rw [hinv, if_neg (by simp [c4])]
   ·try simp only [nrm] at c3
    have hdrop : l.drop i = [] := List.drop_eq_nil_of_le (by omega)
    rw [hdrop] at hinv
    simp only [chkBlsF] at hinv
    refine W_exit ?_
    simp only [go_sem]
    refine kq9 _ _ ?_
    refine W_seq fun kz17 kq17 => ?_
    refine W_region [4] fun R hR => ?_
    simp only [go_sem]
    refine hR _ _ (kq17 _ _ ?_); clear hR R; try clear kq17 kz17
    try simp only [go_sem]
    refine W_ret ?_
    simp only [go_sem]
    refine ⟨.inr (by trivial), ?_⟩
    first | refine Fin_same hcl rfl (Wk_eq ?_ (by simp only [go_sem])) | refine Fin_self hcl rfl (Wk_eq ?_ (by simp only [go_sem]))
    try simp only [go_sem]
    all_goals
     rw [hinv]
theorem key_iff {x b : Ballot} : keyOf x = keyOf b ↔ x.kind = b.kind ∧ x.voter = b.voter ∧ (x.kind = 2 ∨ x.song = b.song) := by
 unfold keyOf
 rw [Prod.mk.injEq, Prod.mk.injEq]
 constructor
 ·rintro ⟨h1, h2, h3⟩
  refine ⟨h1, h2, ?_⟩
  by_cases h : x.kind = 2
  ·exact .inl h
  ·rw [if_neg h, if_neg (by omega)] at h3
   exact .inr h3
 ·rintro ⟨h1, h2, h3⟩
  refine ⟨h1, h2, ?_⟩
  by_cases h : x.kind = 2
  ·rw [if_pos h, if_pos (by omega)]
  ·rw [if_neg h, if_neg (by omega)]
   rcases h3 with h3 | h3
   ·exact absurd h3 h
   ·exact h3
def badB (rd : Int) (ss : List Int) (b x : Ballot) : Bool := decide (keyOf x = keyOf b) && isIn rd ss x && decide (x.serial < b.serial)
theorem badB_eq {rd : Int} {ss : List Int} {b x : Ballot} (hb : b.round = rd) : badB rd ss b x = (decide (x.kind = b.kind) && (decide (x.voter = b.voter) && (decide (x.round = b.round) && (has ss x.song && ((decide (x.kind = 2) || decide (x.song = b.song)) && decide (x.serial < b.serial)))))) := by
 unfold badB isIn
 rw [← hb, Bool.eq_iff_iff]
 simp only [Bool.and_eq_true, decide_eq_true_eq, Bool.or_eq_true, key_iff]
 constructor
 ·rintro ⟨⟨⟨h1, h2, h3⟩, h4, h5⟩, h6⟩
  exact ⟨h1, h2, h4, h5, h3, h6⟩
 ·rintro ⟨h1, h2, h4, h5, h3, h6⟩
  exact ⟨⟨⟨h1, h2, h3⟩, h4, h5⟩, h6⟩
theorem cntB_eq {l : List Ballot} {rd : Int} {ss : List Int} {b : Ballot} : cntB l rd ss b = (isIn rd ss b && l.all fun x => !(badB rd ss b x)) := rfl
set_option maxHeartbeats 8000000 in
theorem rcnt_pc (Y : YEnv) (σ : Sg) (l : List Ballot) (rd : Int) (ss : List Int) (b : Ballot) (hl : l.length < 2 ^ 40) (hs : ss.length < 2 ^ 40) :
  PC Tryz.prog Y 48 [bls l, I rd, ints ss, blPV b] σ (.bool (cntB l rd ss b)) (σ) := by
 refine PC_of_W Tryz.func48 rfl (by kernel_rfl) Tryz.ntmps48 (by simp) fun hcl hca => ?_
 obtain ⟨res, hres⟩ : ∃ r, cntB l rd ss b = r := ⟨_, rfl⟩
 rw [hres]
 refine W_seq fun kz1 kq1 => ?_
 refine W_region [0, 1, 2, 7] fun R hR => ?_
 simp only [go_sem, blCells]
 refine hR _ _ (kq1 _ _ ?_); clear hR R; try clear kq1 kz1
 try simp only [go_sem, blCells]
 refine W_seq fun kz2 kq2 => ?_
 refine W_seq fun kz3 kq3 => ?_
 refine W_regionJ [0, 2, 7, 21] [(21, .bool (!(isIn rd ss b)))] ?_ fun R hR => ?_
 ·refine kq3 _ _ ?_
  simp only [go_sem, blCells]
  refine W_cond rfl (fun c1 => ?_) (fun c1 => ?_)
  ·try simp only [nrm] at c1
   refine W_seq fun kz4 kq4 => ?_
   refine W_region [8] fun R hR => ?_
   simp only [go_sem, blCells]
   refine hR _ _ (kq4 _ _ ?_); clear hR R; try clear kq4 kz4
   try simp only [go_sem, blCells]
   refine W_ret ?_
   simp only [go_sem, blCells]
   refine ⟨.inr (by trivial), ?_⟩
   first | refine Fin_same hcl rfl (Wk_eq ?_ (by simp only [go_sem])) | refine Fin_self hcl rfl (Wk_eq ?_ (by simp only [go_sem]))
   try simp only [go_sem]
   all_goals
    rw [← hres, cntB_eq]; rw [show isIn rd ss b = false by simpa using c1]; rfl
  ·try simp only [nrm] at c1
   have hin : isIn rd ss b = true := by simpa using c1
   have hbr : b.round = rd := by
    simp only [isIn, Bool.and_eq_true, decide_eq_true_eq] at hin
    exact hin.1
   refine W_skip (kq2 _ _ ?_)
   refine W_seq fun kz5 kq5 => ?_
   refine W_seq fun kz6 kq6 => ?_
   refine W_region [0, 2, 7, 9] fun R hR => ?_
   simp only [go_sem, blCells]
   refine hR _ _ (kq6 _ _ ?_); clear hR R; try clear kq6 kz6
   try simp only [go_sem, blCells]
   refine W_block ?_
   refine W_loopS (α := Nat) (fun (i : Nat) => [(9, I i)]) (fun (i : Nat) => i ≤ l.length ∧ ∀ x, x ∈ l.take i → badB rd ss b x = false) (fun (i : Nat) => l.length - i) (0) rfl (⟨Nat.zero_le _, fun x h => absurd h (by simp)⟩) ?_
   rintro i ⟨hi, hno⟩
   refine W_seq fun kz7 kq7 => ?_
   refine W_seq fun kz8 kq8 => ?_
   refine W_region [0, 2, 7, 9, 25] fun R hR => ?_
   simp only [go_sem, blCells]
   refine hR _ _ (kq8 _ _ ?_); clear hR R; try clear kq8 kz8
   try simp only [go_sem, blCells]
   refine W_cond rfl (fun c2 => ?_) (fun c2 => ?_)
   ·try simp only [nrm] at c2
    have hi' : i < l.length := by first | assumption | omega
    obtain ⟨x, hx⟩ : ∃ x, l[i]? = some x := ⟨l[i], by simp [hi']⟩
    have hdrop : l.drop i = x :: l.drop (i + 1) := by
     rw [List.drop_eq_getElem_cons hi']; congr 1; exact (List.getElem?_eq_some_iff.1 hx).2
    have hil : (i : Int) < (l.length : Int) := by omega
    have hbd := badB_eq (ss := ss) (x := x) hbr
    refine W_skip (kq7 _ _ ?_)
    refine W_seq fun kz9 kq9 => ?_
    refine W_block ?_
    refine W_seq fun kz10 kq10 => ?_
    refine W_region [0, 2, 7, 9, 10] fun R hR => ?_
    simp only [go_sem, blCells, hx, hil]
    refine hR _ _ (kq10 _ _ ?_); clear hR R; try clear kq10 kz10
    try simp only [go_sem, blCells, hx, hil]
    refine W_seq fun kz11 kq11 => ?_
    refine W_regionJ [0, 2, 7, 9, 75] [(75, .bool (badB rd ss b x))] ?_ fun R hR => ?_
    ·refine kq11 _ _ ?_
     simp only [go_sem, blCells, hx, hil]
     refine W_cond rfl (fun c3 => ?_) (fun c3 => ?_)
     ·try simp only [nrm] at c3
      refine W_seq fun kz12 kq12 => ?_
      refine W_region [8] fun R hR => ?_
      simp only [go_sem, blCells, hx, hil]
      refine hR _ _ (kq12 _ _ ?_); clear hR R; try clear kq12 kz12
      try simp only [go_sem, blCells, hx, hil]
      refine W_ret ?_
      simp only [go_sem, blCells, hx, hil]
      refine ⟨.inr (by trivial), ?_⟩
      first | refine Fin_same hcl rfl (Wk_eq ?_ (by simp only [go_sem])) | refine Fin_self hcl rfl (Wk_eq ?_ (by simp only [go_sem]))
      try simp only [go_sem]
      all_goals
       rw [← hres, cntB_eq]
       have : (l.all fun x => !(badB rd ss b x)) = false := by
        rw [List.all_eq_false]
        exact ⟨x, List.mem_of_getElem? hx, by simp [c3]⟩
       rw [this, Bool.and_false]
     ·try simp only [nrm] at c3
      refine W_skip (kq9 _ _ ?_)
      refine W_region [0, 2, 7, 9] fun R hR => ?_
      simp only [go_sem, blCells, hx, hil]
      try simp (disch := omega) only [wrapI, wrapU]
      refine hR _ _ ?_; clear hR R
      try simp only [go_sem, blCells, hx, hil]
      refine ⟨i + 1, ?_, by (try simp only []); omega, ?_⟩
      ·refine Weak.trans (Weak.cutX 1 0 (by omega) (by omega) hcl (by simp only [go_sem] <;> omega) (by simp only [go_sem] <;> omega)) ?_
       simp only [go_sem]
       exact Weak.eq (by first | rfl | (simp only [go_sem]; done) | (simp only [go_sem]; rfl) | (simp [go_sem]; done) | (simp [go_sem]; omega)) (by first | rfl | (simp only [go_sem]; done) | (simp [go_sem]; done))
      ·try dsimp only
       refine ⟨hi', fun y hy => ?_⟩
       rw [List.take_add_one, hx] at hy
       rcases List.mem_append.1 hy with h | h
       ·exact hno y h
       ·simp at h
        subst h
        simpa using c3
    ·simp only [go_sem, blCells, hx, hil]
     refine GWant_split (fun g1 => ?_) (fun g1 => ?_)
     ·try simp only [Bool.not_eq_true', Bool.not_eq_false'] at g1
      have n1 := g1; try simp only [nrm] at n1
      simp only [go_sem, blCells, hx, hil, g1]
      refine GWant_split (fun g2 => ?_) (fun g2 => ?_)
      ·try simp only [Bool.not_eq_true', Bool.not_eq_false'] at g2
       have n2 := g2; try simp only [nrm] at n2
       simp only [go_sem, blCells, hx, hil, g1, g2]
       refine GWant_split (fun g3 => ?_) (fun g3 => ?_)
       ·try simp only [Bool.not_eq_true', Bool.not_eq_false'] at g3
        have n3 := g3; try simp only [nrm] at n3
        simp only [go_sem, blCells, hx, hil, g1, g2, g3]
        refine GCall_of (rhas_pc Y _ ss x.song .ro (by omega)) ?_
        simp only [go_sem, blCells, hx, hil, g1, g2, g3]
        refine GWant_split (fun g4 => ?_) (fun g4 => ?_)
        ·try simp only [Bool.not_eq_true', Bool.not_eq_false'] at g4
         have n4 := g4; try simp only [nrm] at n4
         simp only [go_sem, blCells, hx, hil, g1, g2, g3, g4]
         refine GWant_split (fun g5 => ?_) (fun g5 => ?_)
         ·try simp only [Bool.not_eq_true', Bool.not_eq_false'] at g5
          have n5 := g5; try simp only [nrm] at n5
          simp only [go_sem, blCells, hx, hil, g1, g2, g3, g4, g5]
          refine GWant_split (fun g6 => ?_) (fun g6 => ?_)
          ·try simp only [Bool.not_eq_true', Bool.not_eq_false'] at g6
           have n6 := g6; try simp only [nrm] at n6
           simp only [go_sem, blCells, hx, hil, g1, g2, g3, g4, g5, g6]
           refine hR _ ?_
           all_goals try simp only [go_sem, blCells, hx, hil]
           all_goals
            first | rfl | (rw [hbd]; simp [*]; done) | (rw [hbd]; simp_all; done)
          ·try simp only [Bool.not_eq_true', Bool.not_eq_false'] at g6
           have n6 := g6; try simp only [nrm] at n6
           simp only [go_sem, blCells, hx, hil, g1, g2, g3, g4, g5, g6]
           refine hR _ ?_
           all_goals try simp only [go_sem, blCells, hx, hil]
           all_goals
            first | rfl | (rw [hbd]; simp [*]; done) | (rw [hbd]; simp_all; done)
         ·try simp only [Bool.not_eq_true', Bool.not_eq_false'] at g5
          have n5 := g5; try simp only [nrm] at n5
          simp only [go_sem, blCells, hx, hil, g1, g2, g3, g4, g5]
          refine hR _ ?_
          all_goals try simp only [go_sem, blCells, hx, hil]
          all_goals
           first | rfl | (rw [hbd]; simp [*]; done) | (rw [hbd]; simp_all; done)
        ·try simp only [Bool.not_eq_true', Bool.not_eq_false'] at g4
         have n4 := g4; try simp only [nrm] at n4
         simp only [go_sem, blCells, hx, hil, g1, g2, g3, g4]
         refine hR _ ?_
         all_goals try simp only [go_sem, blCells, hx, hil]
         all_goals
          first | rfl | (rw [hbd]; simp [*]; done) | (rw [hbd]; simp_all; done)
       ·try simp only [Bool.not_eq_true', Bool.not_eq_false'] at g3
        have n3 := g3; try simp only [nrm] at n3
        simp only [go_sem, blCells, hx, hil, g1, g2, g3]
        refine hR _ ?_
        all_goals try simp only [go_sem, blCells, hx, hil]
        all_goals
         first | rfl | (rw [hbd]; simp [*]; done) | (rw [hbd]; simp_all; done)
      ·try simp only [Bool.not_eq_true', Bool.not_eq_false'] at g2
       have n2 := g2; try simp only [nrm] at n2
       simp only [go_sem, blCells, hx, hil, g1, g2]
       refine hR _ ?_
       all_goals try simp only [go_sem, blCells, hx, hil]
       all_goals
        first | rfl | (rw [hbd]; simp [*]; done) | (rw [hbd]; simp_all; done)
     ·try simp only [Bool.not_eq_true', Bool.not_eq_false'] at g1
      have n1 := g1; try simp only [nrm] at n1
      simp only [go_sem, blCells, hx, hil, g1]
      refine hR _ ?_
      all_goals try simp only [go_sem, blCells, hx, hil]
      all_goals
       first | rfl | (rw [hbd]; simp [*]; done) | (rw [hbd]; simp_all; done)
   ·try simp only [nrm] at c2
    have hie : l.length = i := by omega
    rw [← hie, List.take_length] at hno
    refine W_exit ?_
    simp only [go_sem, blCells]
    refine kq5 _ _ ?_
    refine W_seq fun kz13 kq13 => ?_
    refine W_region [8] fun R hR => ?_
    simp only [go_sem, blCells]
    refine hR _ _ (kq13 _ _ ?_); clear hR R; try clear kq13 kz13
    try simp only [go_sem, blCells]
    refine W_ret ?_
    simp only [go_sem, blCells]
    refine ⟨.inr (by trivial), ?_⟩
    first | refine Fin_same hcl rfl (Wk_eq ?_ (by simp only [go_sem])) | refine Fin_self hcl rfl (Wk_eq ?_ (by simp only [go_sem]))
    try simp only [go_sem]
    all_goals
     rw [← hres, cntB_eq, hin]
     have : (l.all fun x => !(badB rd ss b x)) = true := by
      rw [List.all_eq_true]
      exact fun x hx => by rw [hno x hx]; rfl
     rw [this]; rfl
 ·simp only [go_sem, blCells]
  refine GWant_split (fun g7 => ?_) (fun g7 => ?_)
  ·try simp only [Bool.not_eq_true', Bool.not_eq_false'] at g7
   have n7 := g7; try simp only [nrm] at n7
   simp only [go_sem, blCells, g7]
   refine GCall_of (rhas_pc Y _ ss b.song .ro (by omega)) ?_
   simp only [go_sem, blCells, g7]
   refine hR _ ?_
   all_goals try simp only [go_sem, blCells]
   all_goals
    first | rfl | (simp [isIn, *]; done) | (simp_all [isIn]; done)
  ·try simp only [Bool.not_eq_true', Bool.not_eq_false'] at g7
   have n7 := g7; try simp only [nrm] at n7
   simp only [go_sem, blCells, g7]
   refine hR _ ?_
   all_goals try simp only [go_sem, blCells]
   all_goals
    first | rfl | (simp [isIn, *]; done) | (simp_all [isIn]; done)
set_option maxHeartbeats 2000000 in
theorem rAhead_pc (Y : YEnv) (σ : Sg) (a b : Std) :
  PC Tryz.prog Y 77 [sdPV a, sdPV b] σ (.bool (decide (Ahd a b))) (σ) := by
 refine PC_of_W Tryz.func77 rfl (by kernel_rfl) Tryz.ntmps77 (by simp) fun hcl hca => ?_
 refine W_seq fun kz1 kq1 => ?_
 refine W_region [2, 3] fun R hR => ?_
 simp only [go_sem, sdCells]
 refine hR _ _ (kq1 _ _ ?_); clear hR R; try clear kq1 kz1
 try simp only [go_sem, sdCells]
 refine W_seq fun kz2 kq2 => ?_
 refine W_seq fun kz3 kq3 => ?_
 refine W_region [2, 3, 9] fun R hR => ?_
 simp only [go_sem, sdCells]
 refine hR _ _ (kq3 _ _ ?_); clear hR R; try clear kq3 kz3
 try simp only [go_sem, sdCells]
 refine W_cond rfl (fun c1 => ?_) (fun c1 => ?_)
 ·try simp only [nrm] at c1
  refine W_seq fun kz4 kq4 => ?_
  refine W_region [4] fun R hR => ?_
  simp only [go_sem, sdCells]
  refine hR _ _ (kq4 _ _ ?_); clear hR R; try clear kq4 kz4
  try simp only [go_sem, sdCells]
  refine W_ret ?_
  simp only [go_sem, sdCells]
  refine ⟨.inr (by trivial), ?_⟩
  first | refine Fin_same hcl rfl (Wk_eq ?_ (by simp only [go_sem])) | refine Fin_self hcl rfl (Wk_eq ?_ (by simp only [go_sem]))
  try simp only [go_sem]
  all_goals
   congr 1; rw [decide_eq_decide, ahd_iff]; omega
 ·try simp only [nrm] at c1
  refine W_skip (kq2 _ _ ?_)
  refine W_seq fun kz5 kq5 => ?_
  refine W_seq fun kz6 kq6 => ?_
  refine W_region [2, 3, 19] fun R hR => ?_
  simp only [go_sem, sdCells]
  refine hR _ _ (kq6 _ _ ?_); clear hR R; try clear kq6 kz6
  try simp only [go_sem, sdCells]
  refine W_cond rfl (fun c2 => ?_) (fun c2 => ?_)
  ·try simp only [nrm] at c2
   refine W_seq fun kz7 kq7 => ?_
   refine W_region [4] fun R hR => ?_
   simp only [go_sem, sdCells]
   refine hR _ _ (kq7 _ _ ?_); clear hR R; try clear kq7 kz7
   try simp only [go_sem, sdCells]
   refine W_ret ?_
   simp only [go_sem, sdCells]
   refine ⟨.inr (by trivial), ?_⟩
   first | refine Fin_same hcl rfl (Wk_eq ?_ (by simp only [go_sem])) | refine Fin_self hcl rfl (Wk_eq ?_ (by simp only [go_sem]))
   try simp only [go_sem]
   all_goals
    congr 1; rw [decide_eq_decide, ahd_iff]; omega
  ·try simp only [nrm] at c2
   refine W_skip (kq5 _ _ ?_)
   refine W_seq fun kz8 kq8 => ?_
   refine W_region [4] fun R hR => ?_
   simp only [go_sem, sdCells]
   refine hR _ _ (kq8 _ _ ?_); clear hR R; try clear kq8 kz8
   try simp only [go_sem, sdCells]
   refine W_ret ?_
   simp only [go_sem, sdCells]
   refine ⟨.inr (by trivial), ?_⟩
   first | refine Fin_same hcl rfl (Wk_eq ?_ (by simp only [go_sem])) | refine Fin_self hcl rfl (Wk_eq ?_ (by simp only [go_sem]))
   try simp only [go_sem]
   all_goals
    congr 1; rw [decide_eq_decide, ahd_iff]; omega
set_option maxHeartbeats 4000000 in
theorem rKept_pc (Y : YEnv) (σ : Sg) (l : List Std) (i : Nat) (x : Std) (keep : Int) (o : Own) (hx : l[i]? = some x) (hl : l.length < 2 ^ 40) :
  PC Tryz.prog Y 50 [.isl (l.map sdPV) o, I i, I keep] σ (.bool (decide ((rank l x : Int) < keep))) (σ) := by
 refine PC_of_W Tryz.func50 rfl (by kernel_rfl) Tryz.ntmps50 (by simp) fun hcl hca => ?_
 have hil : (i : Int) < (l.length : Int) := by have := (List.getElem?_eq_some_iff.1 hx).1; omega
 refine W_seq fun kz1 kq1 => ?_
 refine W_region [0, 1, 2] fun R hR => ?_
 simp only [go_sem]
 refine hR _ _ (kq1 _ _ ?_); clear hR R; try clear kq1 kz1
 try simp only [go_sem]
 refine W_seq fun kz2 kq2 => ?_
 refine W_region [0, 1, 2, 7] fun R hR => ?_
 simp only [go_sem]
 refine hR _ _ (kq2 _ _ ?_); clear hR R; try clear kq2 kz2
 try simp only [go_sem]
 refine W_seq fun kz3 kq3 => ?_
 refine W_seq fun kz4 kq4 => ?_
 refine W_region [0, 1, 2, 7, 8] fun R hR => ?_
 simp only [go_sem]
 refine hR _ _ (kq4 _ _ ?_); clear hR R; try clear kq4 kz4
 try simp only [go_sem]
 refine W_block ?_
 refine W_loopS (α := Nat × Nat) (fun ⟨k, n⟩ => [(7, I n), (8, I k)]) (fun ⟨k, n⟩ => k ≤ l.length ∧ n = (l.take k).countP (fun z => decide (Ahd z x)) ∧ n ≤ k) (fun ⟨k, n⟩ => l.length - k) ((0, 0)) rfl (⟨Nat.zero_le _, rfl, Nat.le_refl _⟩) ?_
 rintro ⟨k, n⟩ ⟨hk, hn, hnk⟩
 refine W_seq fun kz5 kq5 => ?_
 refine W_seq fun kz6 kq6 => ?_
 refine W_region [0, 1, 2, 7, 8, 12] fun R hR => ?_
 simp only [go_sem]
 refine hR _ _ (kq6 _ _ ?_); clear hR R; try clear kq6 kz6
 try simp only [go_sem]
 refine W_cond rfl (fun c1 => ?_) (fun c1 => ?_)
 ·try simp only [nrm] at c1
  have hk' : k < l.length := by first | omega | (simp at c1; omega)
  obtain ⟨y, hy⟩ : ∃ z, l[k]? = some z := ⟨l[k], by simp [hk']⟩
  have hkl : (k : Int) < (l.length : Int) := by omega
  have hw1 : IntKind.i64.wrap ((n : Int) + 1) = ((n + 1 : Nat) : Int) := by rw [wrapI (by omega) (by omega)]; omega
  have hcn : (l.take (k + 1)).countP (fun z => decide (Ahd z x)) = (l.take k).countP (fun z => decide (Ahd z x)) + (if Ahd y x then 1 else 0) := by
   rw [List.take_add_one, hy, List.countP_append]
   simp [List.countP_cons]
  refine W_skip (kq5 _ _ ?_)
  refine W_seq fun kz7 kq7 => ?_
  refine W_block ?_
  refine W_seq fun kz8 kq8 => ?_
  refine W_drawJ [0, 1, 2, 7, 8, 28] [(28, .bool (decide (Ahd y x)))] [0, 1, 2, 3, 4, 5, 6, 7, 8, 9, 10, 11, 12, 13] [] [[], [], [0, 1], [0, 1, 2], [0, 1, 2, 3], [0, 1, 2, 3], [0, 1, 2, 3, 4, 5], [0, 1, 2, 3, 4, 5, 6], [0, 1, 2, 3], [0, 1, 2, 3], [0, 1, 2, 3, 8, 9], [0, 1, 2, 3, 8, 9, 10], [0, 1, 2, 3, 4, 5, 6, 7, 8, 9, 10, 11], [0, 1, 2, 3, 4, 5, 6, 7, 8, 9, 10, 11, 12]] mixed (by kernel_rfl) ?_ fun R hR => ?_
  ·refine kq8 _ _ ?_
   simp only [go_sem]
   refine W_cond rfl (fun c2 => ?_) (fun c2 => ?_)
   ·try simp only [nrm] at c2
    refine W_region [0, 1, 2, 7, 8] fun R hR => ?_
    simp only [go_sem, hw1]
    try simp (disch := omega) only [wrapI, wrapU]
    refine hR _ _ (kq7 _ _ ?_); clear hR R; try clear kq7 kz7
    try simp only [go_sem]
    refine W_region [0, 1, 2, 7, 8] fun R hR => ?_
    simp only [go_sem]
    try simp (disch := omega) only [wrapI, wrapU]
    refine hR _ _ ?_; clear hR R
    try simp only [go_sem]
    refine ⟨(k + 1, n + 1), ?_, by (try simp only []); omega, ?_⟩
    ·first | exact Weak.refl | exact Weak.eq (by first | rfl | (simp only [go_sem]; done) | (simp only [go_sem]; rfl) | (simp [go_sem]; done) | (simp [go_sem]; omega)) (by first | rfl | (simp only [go_sem]; done) | (simp [go_sem]; done))
    ·try dsimp only
     first | (refine ⟨by omega, ?_, by omega⟩; rw [hcn, if_pos c2, ← hn]) | (refine ⟨by omega, ?_, by omega⟩; rw [hcn, if_neg c2, ← hn]; rfl)
   ·try simp only [nrm] at c2
    refine W_skip (kq7 _ _ ?_)
    refine W_region [0, 1, 2, 7, 8] fun R hR => ?_
    simp only [go_sem]
    try simp (disch := omega) only [wrapI, wrapU]
    refine hR _ _ ?_; clear hR R
    try simp only [go_sem]
    refine ⟨(k + 1, n), ?_, by (try simp only []); omega, ?_⟩
    ·first | exact Weak.refl | exact Weak.eq (by first | rfl | (simp only [go_sem]; done) | (simp only [go_sem]; rfl) | (simp [go_sem]; done) | (simp [go_sem]; omega)) (by first | rfl | (simp only [go_sem]; done) | (simp [go_sem]; done))
    ·try dsimp only
     first | (refine ⟨by omega, ?_, by omega⟩; rw [hcn, if_pos c2, ← hn]) | (refine ⟨by omega, ?_, by omega⟩; rw [hcn, if_neg c2, ← hn]; rfl)
  ·simp only [go_sem, hkl, hil, hx, hy]
   refine GWant_split (fun g1 => ?_) (fun g1 => ?_)
   ·try simp only [Bool.not_eq_true', Bool.not_eq_false'] at g1
    have n1 := g1; try simp only [nrm] at n1
    simp only [go_sem, hkl, hil, hx, hy, g1]
    refine GCall_of (rAhead_pc Y _ y x) ?_
    simp only [go_sem, hkl, hil, hx, hy, g1]
    try refine And.intro (by repeat' (first | refine And.intro ?_ ?_ | exact GOr_right (fun _ => by simp only [go_sem, hkl, hil, hx, hy]))) ?_
    refine hR _ ?_
    all_goals try simp only [go_sem, hkl, hil, hx, hy]
    all_goals
     first | rfl | (rw [hyx, decide_eq_false Ahd.irrefl])
   ·try simp only [Bool.not_eq_true', Bool.not_eq_false'] at g1
    have n1 := g1; try simp only [nrm] at n1
    have hki : k = i := by first | omega | (simp at g1; omega)
    subst hki
    have hyx : y = x := by rw [hx] at hy; injection hy with q; exact q.symm
    simp only [go_sem, hkl, hil, hx, hy, g1]
    try refine And.intro (by repeat' (first | refine And.intro ?_ ?_ | exact GOr_right (fun _ => by simp only [go_sem, hkl, hil, hx, hy]))) ?_
    refine hR _ ?_
    all_goals try simp only [go_sem, hkl, hil, hx, hy]
    all_goals
     first | rfl | (rw [hyx, decide_eq_false Ahd.irrefl])
 ·try simp only [nrm] at c1
  have hke : l.length = k := by first | omega | (simp at c1; omega)
  rw [← hke, List.take_length] at hn
  have hrk : rank l x = n := hn.symm
  refine W_exit ?_
  simp only [go_sem]
  refine kq3 _ _ ?_
  refine W_seq fun kz9 kq9 => ?_
  refine W_region [6] fun R hR => ?_
  simp only [go_sem]
  refine hR _ _ (kq9 _ _ ?_); clear hR R; try clear kq9 kz9
  try simp only [go_sem]
  refine W_ret ?_
  simp only [go_sem]
  refine ⟨.inr (by trivial), ?_⟩
  first | refine Fin_same hcl rfl (Wk_eq ?_ (by simp only [go_sem])) | refine Fin_self hcl rfl (Wk_eq ?_ (by simp only [go_sem]))
  try simp only [go_sem]
  all_goals
   rw [hrk]
theorem sum_filter {q : Ballot → Bool} {f : Ballot → Int} : ∀ l : List Ballot, ((l.filter q).map f).sum = (l.map fun b => if q b then f b else 0).sum := by
 intro l
 induction l with
 | nil => rfl
 | cons b l ih =>
  simp only [List.filter_cons, List.map_cons, List.sum_cons]
  by_cases h : q b = true
  ·rw [if_pos h, if_pos h, List.map_cons, List.sum_cons, ih]
  ·rw [if_neg h, if_neg h, ih]; omega
def gpB (l : List Ballot) (rd : Int) (ss : List Int) (s : Nat) (b : Ballot) : Int := if cntB l rd ss b then cpB s b else 0
def gvB (l : List Ballot) (rd : Int) (ss : List Int) (s : Nat) (b : Ballot) : Int := if cntB l rd ss b then cvB s b else 0
theorem pts_sum {r : Rnd} {rd : Int} {ss : List Int} {l : List Ballot} (hn : (l.map (·.serial)).Nodup) (s : Nat) : (countT r rd ss l).pts s = (l.map (gpB l rd ss s)).sum := by
 show sumB (cpB s) l _ _ = _
 rw [sumB_cnt hn, sum_filter]
 rfl
theorem vts_sum {r : Rnd} {rd : Int} {ss : List Int} {l : List Ballot} (hn : (l.map (·.serial)).Nodup) (s : Nat) : (countT r rd ss l).vts s = (l.map (gvB l rd ss s)).sum := by
 show sumB (cvB s) l _ _ = _
 rw [sumB_cnt hn, sum_filter]
 rfl
set_option maxHeartbeats 8000000 in
theorem rStand_pc (Y : YEnv) (σ : Sg) (c : Contest) (l : List Ballot) (rdn : Nat) (r : Rnd) (ss : List Int) (hr : c.rounds[rdn]? = some r) (hV : CnV c) (hl : l.length ≤ 300) (hb : ∀ b, b ∈ l → BlV c b) (hn : (l.map (·.serial)).Nodup) (hT : TlB (countT r rdn ss l)) :
  PC Tryz.prog Y 65 [cnPV c, bls l, I rdn, ints ss] σ (sds (allT (countT r rdn ss l))) (σ) := by
 refine PC_of_W Tryz.func65 rfl (by kernel_rfl) Tryz.ntmps65 (by simp) fun hcl hca => ?_
 have hrd : rdn < c.rounds.length := (List.getElem?_eq_some_iff.1 hr).1
 have hrd2 : (rdn : Int) < (c.rounds.length : Int) := by omega
 have hrl := hV.rl
 have hms := hV.ms
 have hssl : ss.length ≤ 8 := hT.sl
 have hsb : ∀ s, s ∈ ss → 0 ≤ s ∧ s < 8 := hT.sg
 have hwj : 0 ≤ r.jury ∧ r.jury ≤ 1000 := hT.wj
 have hwm : 0 ≤ r.member ∧ r.member ≤ 1000 := hT.wm
 have hpb := hT.pb
 have hvb := hT.vb
 obtain ⟨A, hA⟩ : ∃ z, allT (countT r rdn ss l) = z := ⟨_, rfl⟩
 rw [hA]
 have hAl : A.length = ss.length := by rw [← hA, allT_len]; rfl
 refine W_seq fun kz1 kq1 => ?_
 refine W_region [1, 2, 3, 4] fun R hR => ?_
 simp only [go_sem]
 refine hR _ _ (kq1 _ _ ?_); clear hR R; try clear kq1 kz1
 try simp only [go_sem]
 refine W_seq fun kz2 kq2 => ?_
 refine W_region [1, 2, 3, 4, 9] fun R hR => ?_
 simp only [go_sem]
 refine hR _ _ (kq2 _ _ ?_); clear hR R; try clear kq2 kz2
 try simp only [go_sem]
 refine W_seq fun kz3 kq3 => ?_
 refine W_seq fun kz4 kq4 => ?_
 refine W_region [1, 2, 3, 4, 9, 10] fun R hR => ?_
 simp only [go_sem]
 refine hR _ _ (kq4 _ _ ?_); clear hR R; try clear kq4 kz4
 try simp only [go_sem]
 refine W_block ?_
 refine W_weak (Weak.room (t := 9) (es := 4) rfl (by simp)) ?_
 refine W_weak (Weak.keep [1, 2, 3, 4, 9, 10]) ?_
 simp only [go_sem]
 refine W_loopT (α := Nat) (fun (i : Nat) => [(9, .isl ((A.take i).map sdPV) (.tok σ.rooms.length i 4)), (10, I i)]) (fun (i : Nat) => σ.ext [some (cnCells c)] [i]) (fun (i : Nat) => i ≤ ss.length) (fun (i : Nat) => ss.length - i) (0) rfl (by first | rfl | (simp only [go_sem]; done) | (simp only [go_sem]; rfl)) (Nat.zero_le _) ?_
 rintro i hi
 refine W_seq fun kz5 kq5 => ?_
 refine W_seq fun kz6 kq6 => ?_
 refine W_region [1, 2, 3, 4, 9, 10, 16] fun R hR => ?_
 simp only [go_sem]
 refine hR _ _ (kq6 _ _ ?_); clear hR R; try clear kq6 kz6
 try simp only [go_sem]
 refine W_cond rfl (fun c1 => ?_) (fun c1 => ?_)
 ·try simp only [nrm] at c1
  have hi' : i < ss.length := by first | assumption | omega
  obtain ⟨s, hx⟩ : ∃ s, ss[i]? = some s := ⟨ss[i], by simp [hi']⟩
  have hdrop : ss.drop i = s :: ss.drop (i + 1) := by
   rw [List.drop_eq_getElem_cons hi']; congr 1; exact (List.getElem?_eq_some_iff.1 hx).2
  have hil : (i : Int) < (ss.length : Int) := by omega
  have hsx := hsb s (List.mem_of_getElem? hx)
  obtain ⟨sn, rfl⟩ : ∃ z : Nat, s = z := ⟨s.toNat, by omega⟩
  have hps := pts_sum (r := r) (rd := (rdn : Int)) (ss := ss) hn sn
  have hvs := vts_sum (r := r) (rd := (rdn : Int)) (ss := ss) hn sn
  have hpb1 := hpb sn
  have hvb1 := hvb sn
  rw [hps] at hpb1
  rw [hvs] at hvb1
  have hai : A[i]? = some ⟨sn, (l.map (gpB l rdn ss sn)).sum, (l.map (gvB l rdn ss sn)).sum, r.jury * (l.map (gpB l rdn ss sn)).sum + r.member * (l.map (gvB l rdn ss sn)).sum⟩ := by
   rw [← hA]
   unfold allT
   rw [List.getElem?_map, show (countT r rdn ss l).songs = ss from rfl, hx]
   simp only [Option.map_some, Option.some.injEq]
   show stdT (countT r rdn ss l) sn 0 0 = _
   unfold stdT weighS
   simp only [Int.toNat_natCast, Int.add_zero]
   rw [hps, hvs]
   rfl
  have hA1 : A.take (i + 1) = A.take i ++ [⟨sn, (l.map (gpB l rdn ss sn)).sum, (l.map (gvB l rdn ss sn)).sum, r.jury * (l.map (gpB l rdn ss sn)).sum + r.member * (l.map (gvB l rdn ss sn)).sum⟩] := by rw [List.take_add_one, hai]; rfl
  have htk : (A.take i).length = i := by rw [List.length_take]; omega
  refine W_skip (kq5 _ _ ?_)
  refine W_seq fun kz7 kq7 => ?_
  refine W_block ?_
  refine W_seq fun kz8 kq8 => ?_
  refine W_region [1, 2, 3, 4, 9, 10, 11] fun R hR => ?_
  simp only [go_sem, hx, hil]
  refine hR _ _ (kq8 _ _ ?_); clear hR R; try clear kq8 kz8
  try simp only [go_sem, hx]
  refine W_seq fun kz9 kq9 => ?_
  refine W_seq fun kz10 kq10 => ?_
  refine W_region [1, 2, 3, 4, 9, 10, 11, 12] fun R hR => ?_
  simp only [go_sem, hx]
  refine hR _ _ (kq10 _ _ ?_); clear hR R; try clear kq10 kz10
  try simp only [go_sem, hx]
  refine W_block ?_
  refine W_loopT (α := Nat × Int × Int) (fun ⟨k, p, v⟩ => [(12, I k)]) (fun ⟨k, p, v⟩ => σ.ext [some (cnCells c), some [I sn, I p, I v, I 0]] [i]) (fun ⟨k, p, v⟩ => k ≤ l.length ∧ p = ((l.take k).map (gpB l rdn ss sn)).sum ∧ v = ((l.take k).map (gvB l rdn ss sn)).sum ∧ (0 ≤ p ∧ p ≤ 100 * k) ∧ 0 ≤ v ∧ v ≤ k) (fun ⟨k, p, v⟩ => l.length - k) ((0, 0, 0)) rfl (by first | rfl | (simp only [go_sem]; done) | (simp only [go_sem]; rfl)) (⟨Nat.zero_le _, rfl, rfl, ⟨Int.le_refl _, by simp⟩, Int.le_refl _, by simp⟩) ?_
  rintro ⟨k, p, v⟩ ⟨hk, hp, hv, hpk, hvk⟩
  refine W_seq fun kz11 kq11 => ?_
  refine W_seq fun kz12 kq12 => ?_
  refine W_region [1, 2, 3, 4, 9, 10, 11, 12, 27] fun R hR => ?_
  simp only [go_sem, hx]
  refine hR _ _ (kq12 _ _ ?_); clear hR R; try clear kq12 kz12
  try simp only [go_sem, hx]
  refine W_cond rfl (fun c2 => ?_) (fun c2 => ?_)
  ·try simp only [nrm] at c2
   have hk' : k < l.length := by first | assumption | omega
   obtain ⟨b, hbk⟩ : ∃ b, l[k]? = some b := ⟨l[k], by simp [hk']⟩
   have hdropb : l.drop k = b :: l.drop (k + 1) := by
    rw [List.drop_eq_getElem_cons hk']; congr 1; exact (List.getElem?_eq_some_iff.1 hbk).2
   have hkl : (k : Int) < (l.length : Int) := by omega
   have hbx := hb b (List.mem_of_getElem? hbk)
   have hbk2 := hbx.kd
   have hbp : 0 ≤ b.points ∧ b.points ≤ 100 := by have := hbx.pt; split at this <;> omega
   have hwp : IntKind.i64.wrap (p + b.points) = p + b.points := wrapI (by omega) (by omega)
   have hwv : IntKind.i64.wrap (v + 1) = v + 1 := wrapI (by omega) (by omega)
   have hp1 : ((l.take (k + 1)).map (gpB l rdn ss sn)).sum = p + gpB l rdn ss sn b := by rw [List.take_add_one, hbk, List.map_append, List.sum_append, ← hp]; simp
   have hv1 : ((l.take (k + 1)).map (gvB l rdn ss sn)).sum = v + gvB l rdn ss sn b := by rw [List.take_add_one, hbk, List.map_append, List.sum_append, ← hv]; simp
   refine W_skip (kq11 _ _ ?_)
   refine W_seq fun kz13 kq13 => ?_
   refine W_block ?_
   refine W_seq fun kz14 kq14 => ?_
   refine W_seq fun kz15 kq15 => ?_
   refine W_drawJ [1, 2, 3, 4, 9, 10, 11, 12, 48] [(48, .bool (!(decide (b.song = (sn : Int)) && cntB l rdn ss b)))] [0, 1, 2, 3, 4, 5, 6, 7, 8, 9, 10, 11, 12, 13, 14, 15, 16, 17, 18] [] [[], [], [0, 1], [0, 1, 2], [0, 1, 2, 3], [], [5], [0, 1, 2, 3, 4, 5, 6], [0, 1, 2, 3, 4, 5, 6, 7], [0, 1, 2, 3, 4, 5, 6, 7, 8], [0, 1, 2, 3, 4, 5, 6, 7, 8], [0, 1, 2, 3, 4, 5, 6, 7, 8], [0, 1, 2, 3, 4, 5, 6, 7, 8], [0, 1, 2, 3, 4, 5, 6, 7, 8], [0, 1, 2, 3, 4, 5, 6, 7, 8, 12, 13], [0, 1, 2, 3, 4, 5, 6, 7, 8, 12, 13, 14], [0, 1, 2, 3, 4, 5, 6, 7, 8, 9, 10, 11, 12, 13, 14, 15], [0, 1, 2, 3, 4, 5, 6, 7, 8, 9, 10, 11, 12, 13, 14, 15, 16], [0, 1, 2, 3, 4, 5, 6, 7, 8, 9, 10, 11, 12, 13, 14, 15, 16, 17]] mixed (by kernel_rfl) ?_ fun R hR => ?_
   ·refine kq15 _ _ ?_
    simp only [go_sem, hx]
    refine W_cond rfl (fun c3 => ?_) (fun c3 => ?_)
    ·try simp only [nrm] at c3
     have hg0 : gpB l rdn ss sn b = 0 ∧ gvB l rdn ss sn b = 0 := by
      have : ¬ (b.song = (sn : Int) ∧ cntB l rdn ss b = true) := by simpa using c3
      unfold gpB gvB cpB cvB
      by_cases h : cntB l rdn ss b = true
      ·have h2 : ¬ b.song = (sn : Int) := fun e => this ⟨e, h⟩
       simp [h2]
      ·simp [h]
     refine W_exit ?_
     simp only [go_sem, hx]
     refine kq13 _ _ ?_
     refine W_region [1, 2, 3, 4, 9, 10, 11, 12] fun R hR => ?_
     simp only [go_sem, hx]
     try simp (disch := omega) only [wrapI, wrapU]
     refine hR _ _ ?_; clear hR R
     try simp only [go_sem, hx]
     refine ⟨(k + 1, p, v), ?_, by (try simp only []); omega, ?_⟩
     ·first | exact Weak.refl | exact Weak.eq (by first | rfl | (simp only [go_sem]; done) | (simp only [go_sem]; rfl) | (simp [go_sem]; done) | (simp [go_sem]; omega)) (by first | rfl | (simp only [go_sem]; done) | (simp [go_sem]; done))
     ·try dsimp only
      rw [hp1, hv1, hg0.1, hg0.2]; exact ⟨by omega, by omega, by omega, by omega, by omega⟩
    ·try simp only [nrm] at c3
     have hgc : b.song = (sn : Int) ∧ cntB l rdn ss b = true := by simpa using c3
     refine W_skip (kq14 _ _ ?_)
     refine W_seq fun kz16 kq16 => ?_
     refine W_region [1, 2, 3, 4, 9, 10, 11, 12, 54] fun R hR => ?_
     simp only [go_sem, hx, hkl, hbk]
     refine hR _ _ (kq16 _ _ ?_); clear hR R; try clear kq16 kz16
     try simp only [go_sem, hx]
     refine W_cond rfl (fun c4 => ?_) (fun c4 => ?_)
     ·try simp only [nrm] at c4
      have hg1 : gpB l rdn ss sn b = b.points ∧ gvB l rdn ss sn b = 0 := by
       unfold gpB gvB cpB cvB
       rw [if_pos hgc.2, if_pos hgc.2, if_pos ⟨by omega, hgc.1⟩, if_neg (by omega)]
       exact ⟨rfl, rfl⟩
      refine W_draw [1, 2, 3, 4, 9, 10, 11, 12] [0, 1, 2, 3, 4, 5, 6, 7, 8, 9] [] [[], [0], [], [], [2, 3], [2, 3, 4], [2, 3, 4, 5], [0, 1, 2, 3, 4, 5, 6], [0, 1, 2, 3, 4, 5, 6, 7], [0, 1, 2, 3, 4, 5, 6, 7, 8]] mixed (by kernel_rfl) fun R hR => ?_
      simp only [go_sem, hx, hkl, hbk, hwp]
      try simp (disch := omega) only [wrapI, wrapU]
      try refine And.intro (by repeat' (first | refine And.intro ?_ ?_ | exact GOr_right (fun _ => by simp only [go_sem, hx, hkl, hbk, hwp]))) ?_
      refine hR _ _ (kq13 _ _ ?_); clear hR R; try clear kq13 kz13
      try simp only [go_sem, hx]
      refine W_region [1, 2, 3, 4, 9, 10, 11, 12] fun R hR => ?_
      simp only [go_sem, hx]
      try simp (disch := omega) only [wrapI, wrapU]
      refine hR _ _ ?_; clear hR R
      try simp only [go_sem, hx]
      refine ⟨(k + 1, p + b.points, v), ?_, by (try simp only []); omega, ?_⟩
      ·first | exact Weak.refl | exact Weak.eq (by first | rfl | (simp only [go_sem]; done) | (simp only [go_sem]; rfl) | (simp [go_sem]; done) | (simp [go_sem]; omega)) (by first | rfl | (simp only [go_sem]; done) | (simp [go_sem]; done))
      ·try dsimp only
       rw [hp1, hv1, hg1.1, hg1.2]; exact ⟨by omega, by omega, by omega, by omega, by omega⟩
     ·try simp only [nrm] at c4
      have hg1 : gpB l rdn ss sn b = 0 ∧ gvB l rdn ss sn b = 1 := by
       have hk2 : b.kind = 2 := by omega
       unfold gpB gvB cpB cvB
       rw [if_pos hgc.2, if_pos hgc.2, if_neg (by omega), if_pos ⟨hk2, hgc.1⟩]
       exact ⟨rfl, rfl⟩
      refine W_region [1, 2, 3, 4, 9, 10, 11, 12] fun R hR => ?_
      simp only [go_sem, hx, hwv]
      try simp (disch := omega) only [wrapI, wrapU]
      refine hR _ _ (kq13 _ _ ?_); clear hR R; try clear kq13 kz13
      try simp only [go_sem, hx]
      refine W_region [1, 2, 3, 4, 9, 10, 11, 12] fun R hR => ?_
      simp only [go_sem, hx]
      try simp (disch := omega) only [wrapI, wrapU]
      refine hR _ _ ?_; clear hR R
      try simp only [go_sem, hx]
      refine ⟨(k + 1, p, v + 1), ?_, by (try simp only []); omega, ?_⟩
      ·first | exact Weak.refl | exact Weak.eq (by first | rfl | (simp only [go_sem]; done) | (simp only [go_sem]; rfl) | (simp [go_sem]; done) | (simp [go_sem]; omega)) (by first | rfl | (simp only [go_sem]; done) | (simp [go_sem]; done))
      ·try dsimp only
       rw [hp1, hv1, hg1.1, hg1.2]; exact ⟨by omega, by omega, by omega, by omega, by omega⟩
   ·simp only [go_sem, hx, hkl, hbk]
    refine GWant_split (fun g1 => ?_) (fun g1 => ?_)
    ·try simp only [Bool.not_eq_true', Bool.not_eq_false'] at g1
     have n1 := g1; try simp only [nrm] at n1
     simp only [go_sem, hx, hkl, hbk, g1]
     refine GCall_of (rcnt_pc Y _ l rdn ss b (by omega) (by omega)) ?_
     simp only [go_sem, hx, hkl, hbk, g1]
     try refine And.intro (by repeat' (first | refine And.intro ?_ ?_ | exact GOr_right (fun _ => by simp only [go_sem, hx, hkl, hbk]))) ?_
     refine hR _ ?_
     all_goals try simp only [go_sem, hx, hkl, hbk]
     all_goals
      first | rfl | (simp [*]; done) | (simp_all; done)
    ·try simp only [Bool.not_eq_true', Bool.not_eq_false'] at g1
     have n1 := g1; try simp only [nrm] at n1
     simp only [go_sem, hx, hkl, hbk, g1]
     try refine And.intro (by repeat' (first | refine And.intro ?_ ?_ | exact GOr_right (fun _ => by simp only [go_sem, hx, hkl, hbk]))) ?_
     refine hR _ ?_
     all_goals try simp only [go_sem, hx, hkl, hbk]
     all_goals
      first | rfl | (simp [*]; done) | (simp_all; done)
  ·try simp only [nrm] at c2
   have hke : l.length = k := by first | omega | (simp at c2; omega)
   rw [← hke, List.take_length] at hp hv
   rw [← hp] at hpb1 hA1
   rw [← hv] at hvb1 hA1
   have hm1 := mul_bd (a := r.jury) (b := p) (by omega) (by omega)
   have hm2 := mul_bd (a := r.member) (b := v) (by omega) (by omega)
   have hw1 : IntKind.i64.wrap (r.jury * p) = r.jury * p := wrapI (by omega) (by omega)
   have hw2 : IntKind.i64.wrap (r.member * v) = r.member * v := wrapI (by omega) (by omega)
   have hw3 : IntKind.i64.wrap (r.jury * p + r.member * v) = r.jury * p + r.member * v := wrapI (by omega) (by omega)
   refine W_exit ?_
   simp only [go_sem, hx]
   refine kq9 _ _ ?_
   refine W_seq fun kz17 kq17 => ?_
   refine W_draw [1, 2, 3, 4, 9, 10, 11] [0, 1, 2, 3, 4, 5, 6, 7, 8, 9, 10, 11, 12, 13, 14, 15, 16, 17, 18, 19, 20] [] [[], [0], [], [0, 1, 2], [0, 1, 2, 3], [0, 1, 2, 3, 4], [], [6], [0, 1, 2, 3, 4, 5, 6, 7], [], [9], [], [9, 10, 11], [9, 10, 11, 12], [9, 10, 11, 12, 13], [], [15], [9, 10, 11, 12, 13, 14, 15, 16], [0, 1, 2, 3, 4, 5, 6, 7, 8, 9, 10, 11, 12, 13, 14, 15, 16, 17], [0, 1, 2, 3, 4, 5, 6, 7, 8, 9, 10, 11, 12, 13, 14, 15, 16, 17, 18], [0, 1, 2, 3, 4, 5, 6, 7, 8, 9, 10, 11, 12, 13, 14, 15, 16, 17, 18, 19]] mixed (by kernel_rfl) fun R hR => ?_
   simp only [go_sem, hx, hr, hrd2, hw1, hw2, hw3]
   try simp (disch := omega) only [wrapI, wrapU]
   try refine And.intro (by repeat' (first | refine And.intro ?_ ?_ | exact GOr_right (fun _ => by simp only [go_sem, hx, hr, hrd2, hw1, hw2, hw3]))) ?_
   refine hR _ _ (kq17 _ _ ?_); clear hR R; try clear kq17 kz17
   try simp only [go_sem, hx]
   refine W_region [1, 2, 3, 4, 9, 10] fun R hR => ?_
   simp only [go_sem, hx]
   try simp (disch := first | omega | (simp only [go_sem] <;> omega)) only [wrapI, wrapU, appX_exact, appX_tok]
   try simp only [go_sem, hx]
   refine hR _ _ (kq7 _ _ ?_); clear hR R; try clear kq7 kz7
   try simp only [go_sem, hx]
   refine W_region [1, 2, 3, 4, 9, 10] fun R hR => ?_
   simp only [go_sem, hx]
   try simp (disch := omega) only [wrapI, wrapU]
   refine hR _ _ ?_; clear hR R
   try simp only [go_sem, hx]
   refine ⟨i + 1, ?_, by (try simp only []); omega, ?_⟩
   ·refine Weak.trans (Weak.cutX 1 1 (by omega) (by omega) hcl (by simp only [go_sem] <;> omega) (by simp only [go_sem] <;> omega)) ?_
    simp only [go_sem]
    exact Weak.eq (by rw [hA1]; simp only [List.map_append, List.map_cons, List.map_nil]; first | done | rfl) rfl
   ·try dsimp only
    exact hi'
 ·try simp only [nrm] at c1
  have hie : A.length = i := by first | omega | (simp at c1; omega)
  subst hie
  rw [List.take_length]
  refine W_exit ?_
  simp only [go_sem]
  refine kq3 _ _ ?_
  refine W_seq fun kz18 kq18 => ?_
  refine W_region [8] fun R hR => ?_
  simp only [go_sem]
  refine hR _ _ (kq18 _ _ ?_); clear hR R; try clear kq18 kz18
  try simp only [go_sem]
  refine W_ret ?_
  simp only [go_sem]
  refine ⟨.inr (by trivial), ?_⟩
  refine Fin_same hcl rfl (Wk.ro (by simp only [go_sem]) ?_)
  try simp only [go_sem]
  all_goals
   first | rfl | (simp only [go_sem]; done)
theorem rdsT_next {l : List Ballot} : ∀ {rs : List Rnd} {i : Nat} {ss : List Int} {k : Nat} {t t' : Tally}, (rdsT l rs i ss)[k]? = some t' → (rdsT l rs i ss)[k + 1]? = some t → t.songs = (resT t').kept := by
 intro rs
 induction rs with
 | nil => intro i ss k t t' h; simp [rdsT] at h
 | cons r rs ih =>
  intro i ss k t t' h h2
  cases k with
  | zero =>
   simp only [rdsT, List.getElem?_cons_zero, Option.some.injEq, List.getElem?_cons_succ] at h h2
   subst h
   cases rs with
   | nil => simp [rdsT] at h2
   | cons r' rs =>
    simp only [rdsT, List.getElem?_cons_zero, Option.some.injEq] at h2
    subst h2
    rfl
  | succ k =>
   simp only [rdsT, List.getElem?_cons_succ] at h h2
   exact ih h h2
theorem rdsT_first {c : Contest} {l : List Ballot} {t : Tally} (h : (roundsT c l)[0]? = some t) : t.songs = toI c.songs := by
 unfold roundsT at h
 cases hr : c.rounds with
 | nil => rw [hr] at h; simp [rdsT] at h
 | cons r rs =>
  rw [hr] at h
  simp only [rdsT, List.getElem?_cons_zero, Option.some.injEq] at h
  subst h
  rfl
set_option maxHeartbeats 8000000 in
theorem rRes_pc (Y : YEnv) (σ : Sg) (c : Contest) (l : List Ballot) (rdn : Nat) (r : Rnd) (ss : List Int) (hr : c.rounds[rdn]? = some r) (hV : CnV c) (hl : l.length ≤ 300) (hb : ∀ b, b ∈ l → BlV c b) (hn : (l.map (·.serial)).Nodup) (hT : TlB (countT r rdn ss l)) (hu : Up ss) :
  PC Tryz.prog Y 60 [cnPV c, bls l, I rdn, ints ss] σ (rsPV (resT (countT r rdn ss l))) (σ) := by
 refine PC_of_W Tryz.func60 rfl (by kernel_rfl) Tryz.ntmps60 (by simp) fun hcl hca => ?_
 have hrd : rdn < c.rounds.length := (List.getElem?_eq_some_iff.1 hr).1
 have hrd2 : (rdn : Int) < (c.rounds.length : Int) := by omega
 have hrl := hV.rl
 have hssl : ss.length ≤ 8 := hT.sl
 have hkp : 1 ≤ r.keep ∧ r.keep ≤ ss.length := hT.kp
 obtain ⟨A, hA⟩ : ∃ z, allT (countT r rdn ss l) = z := ⟨_, rfl⟩
 have hAl : A.length = ss.length := by rw [← hA, allT_len]; rfl
 have hAs : A.map (·.song) = ss := by rw [← hA, allT_song]; rfl
 have hres : resT (countT r rdn ss l) = ⟨ss, A.map (·.points), A.map (·.votes), A.map (·.score), (A.filter (fun x => decide ((rank A x : Int) < r.keep))).map (·.song)⟩ := by
  have e : keptS r.keep.toNat A = (A.filter (fun x => decide ((rank A x : Int) < r.keep))).map (·.song) := by
   rw [kept_rank (by rw [hAs]; exact hu)]
   congr 1
   refine List.filter_congr fun x _ => ?_
   rw [decide_eq_decide]
   omega
  rw [← e, ← hA]
  rfl
 rw [hres]
 refine W_seq fun kz1 kq1 => ?_
 refine W_region [1, 2, 3, 4, 8] fun R hR => ?_
 simp only [go_sem]
 refine hR _ _ (kq1 _ _ ?_); clear hR R; try clear kq1 kz1
 try simp only [go_sem]
 refine W_seq fun kz2 kq2 => ?_
 refine W_region [1, 2, 3, 4, 8, 9] fun R hR => ?_
 simp only [go_sem]
 refine hR _ _ (kq2 _ _ ?_); clear hR R; try clear kq2 kz2
 try simp only [go_sem]
 refine W_seq fun kz3 kq3 => ?_
 skip
 refine W_region [2, 3, 4, 8, 9, 10] fun R hR => ?_
 simp only [go_sem]
 refine GCall_of (PC.val (v' := sds A) (rStand_pc Y _ c l rdn r ss hr hV hl hb hn hT) (by rw [hA])) ?_
 simp only [go_sem]
 refine hR _ _ (kq3 _ _ ?_); clear hR R; try clear kq3 kz3
 try simp only [go_sem]
 refine W_seq fun kz4 kq4 => ?_
 refine W_seq fun kz5 kq5 => ?_
 refine W_region [2, 3, 4, 8, 9, 10, 11] fun R hR => ?_
 simp only [go_sem]
 refine hR _ _ (kq5 _ _ ?_); clear hR R; try clear kq5 kz5
 try simp only [go_sem]
 refine W_block ?_
 refine W_weak (Weak.roomX (j := 2) (off := 1) (es := 1) rfl rfl (by simp)) ?_
 simp only [go_sem]
 refine W_weak (Weak.roomX (j := 2) (off := 2) (es := 1) rfl rfl (by simp)) ?_
 simp only [go_sem]
 refine W_weak (Weak.roomX (j := 2) (off := 3) (es := 1) rfl rfl (by simp)) ?_
 simp only [go_sem]
 refine W_weak (Weak.roomX (j := 2) (off := 4) (es := 1) rfl rfl (by simp)) ?_
 simp only [go_sem]
 refine W_loopT (α := Nat × (List Int)) (fun ⟨i, ks⟩ => [(11, I i)]) (fun ⟨i, ks⟩ => σ.ext [some (cnCells c), some [.isl [] .exact, .isl [] .exact, .isl [] .exact, .isl [] .exact, .isl [] .exact], some [ints ss, .isl (((A.take i).map (·.points)).map I) (.tok σ.rooms.length i 1), .isl (((A.take i).map (·.votes)).map I) (.tok (σ.rooms.length + 1) i 1), .isl (((A.take i).map (·.score)).map I) (.tok (σ.rooms.length + 2) i 1), .isl (ks.map I) (.tok (σ.rooms.length + 3) ks.length 1)]] [i, i, i, ks.length]) (fun ⟨i, ks⟩ => i ≤ A.length ∧ ks = ((A.take i).filter (fun x => decide ((rank A x : Int) < r.keep))).map (·.song) ∧ ks.length ≤ i) (fun ⟨i, ks⟩ => A.length - i) ((0, [])) rfl (by first | rfl | (simp only [go_sem]; done) | (simp only [go_sem]; rfl)) (⟨Nat.zero_le _, rfl, Nat.le_refl _⟩) ?_
 rintro ⟨i, ks⟩ ⟨hi, hks, hkl⟩
 refine W_seq fun kz6 kq6 => ?_
 refine W_seq fun kz7 kq7 => ?_
 refine W_region [2, 3, 4, 8, 9, 10, 11, 22] fun R hR => ?_
 simp only [go_sem]
 refine hR _ _ (kq7 _ _ ?_); clear hR R; try clear kq7 kz7
 try simp only [go_sem]
 refine W_cond rfl (fun c1 => ?_) (fun c1 => ?_)
 ·try simp only [nrm] at c1
  have hi' : i < A.length := by first | omega | (simp at c1; omega)
  obtain ⟨x, hx⟩ : ∃ z, A[i]? = some z := ⟨A[i], by simp [hi']⟩
  have hil : (i : Int) < (A.length : Int) := by omega
  have hil2 : (i : Int) < (ss.length : Int) := by omega
  have hsx : ss[i]? = some x.song := by rw [← hAs, List.getElem?_map, hx]; rfl
  have htl2 : (A.take i).length = i := by rw [List.length_take]; omega
  have hA1 : A.take (i + 1) = A.take i ++ [x] := by rw [List.take_add_one, hx]; rfl
  have hk1 : ((A.take (i + 1)).filter (fun x => decide ((rank A x : Int) < r.keep))).map (·.song) = ks ++ (if (rank A x : Int) < r.keep then [x.song] else []) := by
   rw [hA1, List.filter_append, List.map_append, ← hks]
   simp only [List.filter_cons, List.filter_nil, decide_eq_true_eq]
   split <;> simp
  refine W_skip (kq6 _ _ ?_)
  refine W_seq fun kz8 kq8 => ?_
  refine W_block ?_
  refine W_seq fun kz9 kq9 => ?_
  refine W_draw [2, 3, 4, 8, 9, 10, 11] [0, 1, 2, 3, 4, 5, 6, 7, 8, 9, 10, 11, 12, 13, 14, 15, 16, 17, 18, 19, 20, 21, 22, 23, 24, 25, 26, 27, 28, 29, 30, 31, 32] [(9, 8), (10, 8), (11, 8), (12, 8), (13, 8), (14, 8), (15, 8), (16, 8), (18, 8), (18, 17), (19, 8), (19, 17), (20, 8), (20, 17), (21, 8), (21, 17), (22, 8), (22, 17), (23, 8), (23, 17), (24, 8), (24, 17), (25, 8), (25, 17), (27, 17), (27, 26)] [[], [0], [], [], [2, 3], [2, 3, 4], [2, 3, 4, 5], [2, 3, 4, 5, 6], [0, 1, 2, 3, 4, 5, 6, 7], [], [9], [], [], [11, 12], [11, 12, 13], [11, 12, 13, 14], [11, 12, 13, 14, 15], [0, 1, 2, 3, 4, 5, 6, 7, 8, 9, 10, 11, 12, 13, 14, 15, 16], [], [18], [], [], [20, 21], [20, 21, 22], [20, 21, 22, 23], [20, 21, 22, 23, 24], [0, 1, 2, 3, 4, 5, 6, 7, 8, 9, 10, 11, 12, 13, 14, 15, 16, 17, 18, 19, 20, 21, 22, 23, 24, 25], [0, 1, 2, 3, 4, 5, 6, 7, 8, 9, 10, 18, 19], [0, 1, 2, 3, 4, 5, 6, 7, 8, 9, 10, 11, 12, 13, 14, 15, 16, 17, 18, 19, 20, 21, 22, 23, 24, 25, 26, 27], [0, 1, 2, 3, 4, 5, 6, 7, 8, 9, 10, 11, 12, 13, 14, 15, 16, 17, 18, 19, 20, 21, 22, 23, 24, 25, 26, 27, 28], [0, 1, 2, 3, 4, 5, 6, 7, 8, 9, 10, 11, 12, 13, 14, 15, 16, 17, 18, 19, 20, 21, 22, 23, 24, 25, 26, 27, 28, 29], [0, 1, 2, 3, 4, 5, 6, 7, 8, 9, 10, 11, 12, 13, 14, 15, 16, 17, 18, 19, 20, 21, 22, 23, 24, 25, 26, 27, 28, 29, 30], [0, 1, 2, 3, 4, 5, 6, 7, 8, 9, 10, 11, 12, 13, 14, 15, 16, 17, 18, 19, 20, 21, 22, 23, 24, 25, 26, 27, 28, 29, 30, 31]] mixed (by kernel_rfl) fun R hR => ?_
  simp only [go_sem, hil, hx]
  try simp (disch := first | omega | (simp only [go_sem] <;> omega)) only [wrapI, wrapU, appX_exact, appX_tok]
  try simp only [go_sem, hil, hx]
  try simp (disch := first | omega | (simp only [go_sem] <;> omega)) only [wrapI, wrapU, appX_exact, appX_tok]
  try simp only [go_sem, hil, hx]
  try simp (disch := first | omega | (simp only [go_sem] <;> omega)) only [wrapI, wrapU, appX_exact, appX_tok]
  try simp only [go_sem, hil, hx]
  try refine And.intro (by repeat' (first | refine And.intro ?_ ?_ | exact GOr_right (fun _ => by simp only [go_sem, hil, hx]))) ?_
  refine hR _ _ (kq9 _ _ ?_); clear hR R; try clear kq9 kz9
  try simp only [go_sem]
  refine W_seq fun kz10 kq10 => ?_
  refine W_region [2, 3, 4, 8, 9, 10, 11, 63] fun R hR => ?_
  simp only [go_sem, hr, hrd2]
  refine GCall_of (rKept_pc Y _ A i x r.keep .ro hx (by omega)) ?_
  simp only [go_sem, hr, hrd2]
  refine hR _ _ (kq10 _ _ ?_); clear hR R; try clear kq10 kz10
  try simp only [go_sem]
  refine W_cond rfl (fun c2 => ?_) (fun c2 => ?_)
  ·try simp only [nrm] at c2
   refine W_draw [2, 3, 4, 8, 9, 10, 11] [0, 1, 2, 3, 4, 5, 6, 7, 8, 9] [] [[], [0], [], [], [2, 3], [2, 3, 4], [2, 3, 4, 5], [0, 1, 2, 3, 4, 5, 6], [0, 1, 2, 3, 4, 5, 6, 7], [0, 1, 2, 3, 4, 5, 6, 7, 8]] mixed (by kernel_rfl) fun R hR => ?_
   simp only [go_sem, hil2, hsx]
   try simp (disch := first | omega | (simp only [go_sem] <;> omega)) only [wrapI, wrapU, appX_exact, appX_tok]
   try simp only [go_sem, hil2, hsx]
   try refine And.intro (by repeat' (first | refine And.intro ?_ ?_ | exact GOr_right (fun _ => by simp only [go_sem, hil2, hsx]))) ?_
   refine hR _ _ (kq8 _ _ ?_); clear hR R; try clear kq8 kz8
   try simp only [go_sem]
   refine W_region [2, 3, 4, 8, 9, 10, 11] fun R hR => ?_
   simp only [go_sem]
   try simp (disch := omega) only [wrapI, wrapU]
   refine hR _ _ ?_; clear hR R
   try simp only [go_sem]
   refine ⟨(i + 1, ks ++ [x.song]), ?_, by (try simp only []); omega, ?_⟩
   ·refine Weak.eq ?_ ?_
    ·first | rfl | (simp only [go_sem]; rfl)
    ·rw [hA1]; simp only [List.map_append, List.map_cons, List.map_nil, List.length_append, List.length_cons, List.length_nil]; first | done | rfl
   ·try dsimp only
    rw [hk1, if_pos c2]; exact ⟨hi', rfl, by simp; omega⟩
  ·try simp only [nrm] at c2
   refine W_skip (kq8 _ _ ?_)
   refine W_region [2, 3, 4, 8, 9, 10, 11] fun R hR => ?_
   simp only [go_sem]
   try simp (disch := omega) only [wrapI, wrapU]
   refine hR _ _ ?_; clear hR R
   try simp only [go_sem]
   refine ⟨(i + 1, ks), ?_, by (try simp only []); omega, ?_⟩
   ·refine Weak.eq ?_ ?_
    ·first | rfl | (simp only [go_sem]; rfl)
    ·rw [hA1]; simp only [List.map_append, List.map_cons, List.map_nil, List.length_append, List.length_cons, List.length_nil]; first | done | rfl
   ·try dsimp only
    rw [hk1, if_neg c2, List.append_nil]; exact ⟨hi', rfl, by omega⟩
 ·try simp only [nrm] at c1
  have hie : A.length = i := by first | omega | (simp at c1; omega)
  subst hie
  rw [List.take_length] at hks ⊢
  refine W_exit ?_
  simp only [go_sem]
  refine kq4 _ _ ?_
  refine W_seq fun kz11 kq11 => ?_
  refine W_region [8] fun R hR => ?_
  simp only [go_sem]
  refine hR _ _ (kq11 _ _ ?_); clear hR R; try clear kq11 kz11
  try simp only [go_sem]
  refine W_ret ?_
  simp only [go_sem]
  refine ⟨.inr (by trivial), ?_⟩
  rw [hks]; refine Fin_same hcl (by show resPV Tryz.prog _ _ [.cell 8 39] = some _; simp only [resPV, go_sem]; rfl) (Wk.ro (by simp only [go_sem]) ?_)
  try simp only [go_sem]
  all_goals
   first | rfl | (simp only [go_sem]; done) | (simp only [go_sem, hks]; first | done | rfl)
set_option maxHeartbeats 8000000 in
theorem rSongs_step (Y : YEnv) (σ : Sg) (c : Contest) (l : List Ballot) (k : Nat) (t : Tally) (hV : CnV c) (hl : l.length ≤ 300) (hb : ∀ b, b ∈ l → BlV c b) (hn : (l.map (·.serial)).Nodup) (ht : (roundsT c l)[k]? = some t) (ih : ∀ (q : Nat) (t' : Tally), k = q + 1 → (roundsT c l)[q]? = some t' → ∀ (Y : YEnv) (σ : Sg), PC Tryz.prog Y 47 [cnPV c, bls l, I q] σ (ints t'.songs) σ) :
  PC Tryz.prog Y 47 [cnPV c, bls l, I k] σ (ints t.songs) (σ) := by
 refine PC_of_W Tryz.func47 rfl (by kernel_rfl) Tryz.ntmps47 (by simp) fun hcl hca => ?_
 have hsg := hV.sg
 obtain ⟨N, hN⟩ : ∃ z : Nat, c.songs = z := ⟨c.songs.toNat, by omega⟩
 refine W_seq fun kz1 kq1 => ?_
 refine W_region [1, 2, 3] fun R hR => ?_
 simp only [go_sem]
 refine hR _ _ (kq1 _ _ ?_); clear hR R; try clear kq1 kz1
 try simp only [go_sem]
 refine W_seq fun kz2 kq2 => ?_
 refine W_seq fun kz3 kq3 => ?_
 refine W_region [1, 2, 3, 10] fun R hR => ?_
 simp only [go_sem]
 refine hR _ _ (kq3 _ _ ?_); clear hR R; try clear kq3 kz3
 try simp only [go_sem]
 refine W_cond rfl (fun c1 => ?_) (fun c1 => ?_)
 ·try simp only [nrm] at c1
  have hk0 : k = 0 := by first | omega | (simp at c1; omega)
  subst hk0
  have hts := rdsT_first ht
  rw [hN, toI_N] at hts
  refine W_seq fun kz4 kq4 => ?_
  refine W_region [3, 7] fun R hR => ?_
  simp only [go_sem]
  refine hR _ _ (kq4 _ _ ?_); clear hR R; try clear kq4 kz4
  try simp only [go_sem]
  refine W_seq fun kz5 kq5 => ?_
  refine W_seq fun kz6 kq6 => ?_
  refine W_region [3, 7, 8] fun R hR => ?_
  simp only [go_sem]
  refine hR _ _ (kq6 _ _ ?_); clear hR R; try clear kq6 kz6
  try simp only [go_sem]
  refine W_block ?_
  refine W_weak (Weak.room (t := 7) (es := 1) rfl (by simp)) ?_
  refine W_weak (Weak.keep [3, 7, 8]) ?_
  simp only [go_sem]
  refine W_loopT (α := Nat) (fun (i : Nat) => [(7, .isl ((toN i).map I) (.tok σ.rooms.length i 1)), (8, I i)]) (fun (i : Nat) => σ.ext [some (cnCells c)] [i]) (fun (i : Nat) => i ≤ N) (fun (i : Nat) => N - i) (0) rfl (by first | rfl | (simp only [go_sem]; done) | (simp only [go_sem]; rfl)) (Nat.zero_le _) ?_
  rintro i hi
  refine W_seq fun kz7 kq7 => ?_
  refine W_seq fun kz8 kq8 => ?_
  refine W_region [3, 7, 8, 14] fun R hR => ?_
  simp only [go_sem, ldS_ext]
  refine hR _ _ (kq8 _ _ ?_); clear hR R; try clear kq8 kz8
  try simp only [go_sem]
  refine W_cond rfl (fun c2 => ?_) (fun c2 => ?_)
  ·try simp only [nrm] at c2
   have hi1 : i < N := by first | omega | (simp at c2; omega)
   have htn := toN_len i
   refine W_skip (kq7 _ _ ?_)
   refine W_seq fun kz9 kq9 => ?_
   refine W_block ?_
   refine W_region [3, 7, 8] fun R hR => ?_
   simp only [go_sem]
   try simp (disch := first | omega | (simp only [go_sem] <;> omega)) only [wrapI, wrapU, appX_exact, appX_tok]
   try simp only [go_sem]
   refine hR _ _ (kq9 _ _ ?_); clear hR R; try clear kq9 kz9
   try simp only [go_sem]
   refine W_region [3, 7, 8] fun R hR => ?_
   simp only [go_sem]
   try simp (disch := omega) only [wrapI, wrapU]
   refine hR _ _ ?_; clear hR R
   try simp only [go_sem]
   refine ⟨i + 1, ?_, by (try simp only []); omega, ?_⟩
   ·exact Weak.eq (by rw [toN_succ]; simp only [List.map_append, List.map_cons, List.map_nil]; first | done | rfl) rfl
   ·try dsimp only
    omega
  ·try simp only [nrm] at c2
   have hie : N = i := by first | omega | (simp at c2; omega)
   subst hie
   refine W_exit ?_
   simp only [go_sem]
   refine kq5 _ _ ?_
   refine W_seq fun kz10 kq10 => ?_
   refine W_region [6] fun R hR => ?_
   simp only [go_sem]
   refine hR _ _ (kq10 _ _ ?_); clear hR R; try clear kq10 kz10
   try simp only [go_sem]
   refine W_ret ?_
   simp only [go_sem]
   refine ⟨.inr (by trivial), ?_⟩
   rw [hts]; refine Fin_same hcl rfl (Wk.ro (by simp only [go_sem]) ?_)
   try simp only [go_sem]
   all_goals
    first | rfl | (simp only [go_sem]; done)
 ·try simp only [nrm] at c1
  obtain ⟨q, hq⟩ : ∃ z, k = z + 1 := ⟨k - 1, by first | omega | (simp at c1; omega)⟩
  subst hq
  obtain ⟨t', ht'⟩ : ∃ z, (roundsT c l)[q]? = some z := ⟨(roundsT c l)[q]'(by have := (List.getElem?_eq_some_iff.1 ht).1; omega), by simp⟩
  obtain ⟨r, hr, he⟩ := rdsT_get ht'
  rw [Nat.zero_add] at he
  have hnx := rdsT_next ht' ht
  have hmem := List.mem_of_getElem? ht'
  have hTb := roundsT_b hV hl hb t' hmem
  have hup := roundsT_up hmem
  have hke : IntKind.i64.wrap (((q + 1 : Nat) : Int) - 1) = (q : Int) := by
   have : q < c.rounds.length := (List.getElem?_eq_some_iff.1 hr).1
   have := hV.rl
   rw [wrapI (by omega) (by omega)]; omega
  refine W_skip (kq2 _ _ ?_)
  refine W_seq fun kz11 kq11 => ?_
  refine W_draw [6] [0, 1, 2, 3, 4, 5, 6, 7, 8, 9, 10, 11] [(0, 9), (1, 9), (2, 9), (3, 9)] [[], [], [], [2], [], [], [], [6], [4, 5, 6, 7], [0, 1, 2, 3, 4, 5, 6, 7, 8], [0, 1, 2, 3, 4, 5, 6, 7, 8, 9], [0, 1, 2, 3, 4, 5, 6, 7, 8, 9, 10]] mixed (by kernel_rfl) fun R hR => ?_
  simp only [go_sem, hke]
  try simp (disch := omega) only [wrapI, wrapU]
  refine GCall_of (ih q t' rfl ht' Y _) ?_
  simp only [go_sem, hke]
  try simp (disch := omega) only [wrapI, wrapU]
  refine GCall_of (PC.val (v' := rsPV (resT t')) (rRes_pc Y _ c l q r t'.songs hr hV hl hb hn (by rw [← he]; exact hTb) hup) (by rw [← he])) ?_
  simp only [go_sem, hke]
  try simp (disch := omega) only [wrapI, wrapU]
  try refine And.intro (by repeat' (first | refine And.intro ?_ ?_ | exact GOr_right (fun _ => by simp only [go_sem, hke]))) ?_
  refine hR _ _ (kq11 _ _ ?_); clear hR R; try clear kq11 kz11
  try simp only [go_sem]
  refine W_ret ?_
  simp only [go_sem]
  refine ⟨.inr (by trivial), ?_⟩
  rw [hnx]; refine Fin_same hcl rfl (Wk_eq ?_ (by simp only [go_sem]))
  try simp only [go_sem]
  all_goals
   first | rfl | (simp only [go_sem]; done)
theorem rSongs_pc (c : Contest) (l : List Ballot) (hV : CnV c) (hl : l.length ≤ 300) (hb : ∀ b, b ∈ l → BlV c b) (hn : (l.map (·.serial)).Nodup) : ∀ (k : Nat) (t : Tally), (roundsT c l)[k]? = some t → ∀ (Y : YEnv) (σ : Sg), PC Tryz.prog Y 47 [cnPV c, bls l, I k] σ (ints t.songs) σ := by
 intro k
 induction k with
 | zero => intro t ht Y σ; exact rSongs_step Y σ c l 0 t hV hl hb hn ht fun q t' h => by omega
 | succ k ih =>
  intro t ht Y σ
  refine rSongs_step Y σ c l (k + 1) t hV hl hb hn ht fun q t' h ht' => ?_
  have : q = k := by omega
  subst this
  exact ih t' ht'
def rowG (f : Nat → Int) (N : Nat) : List Int := (List.range N).map f
theorem rowG_len (f : Nat → Int) (N : Nat) : (rowG f N).length = N := by simp [rowG]
theorem rowG_get {f : Nat → Int} {N s : Nat} (h : s < N) : (rowG f N)[s]? = some (f s) := by simp [rowG, h]
theorem rowG_congr {f g : Nat → Int} {N : Nat} (h : ∀ x, x < N → f x = g x) : rowG f N = rowG g N := by
 unfold rowG
 exact List.map_congr_left fun x hx => h x (List.mem_range.1 hx)
theorem rowG_set {f : Nat → Int} {N s : Nat} {v : Int} : (rowG f N).set s v = rowG (fun x => if x = s then v else f x) N := by
 apply List.ext_getElem?
 intro i
 by_cases hi : i < N
 ·rw [rowG_get hi]
  by_cases e : s = i
  ·subst e; rw [List.getElem?_set_self (by rw [rowG_len]; exact hi)]; simp
  ·rw [List.getElem?_set_ne e, rowG_get hi, if_neg (fun h => e h.symm)]
 ·rw [List.getElem?_eq_none (by simp [rowG_len]; omega), List.getElem?_eq_none (by simp [rowG_len]; omega)]
theorem rowG_zero (N : Nat) : rowG (fun _ => 0) N = List.replicate N 0 := by unfold rowG; rw [List.map_const', List.length_range]
def jurT (t : Tally) (c : Contest) (s : Int) : Int := c.juries - (t.m.map fun e => gJ s e.1).sum
theorem openT_jur {t : Tally} {c : Contest} {s : Int} : openT t c s = jurT t c s * c.most := rfl
def mcB (l : List Ballot) (rd : Int) (ss : List Int) (b : Ballot) : Int := if cntB l rd ss b then gM (keyOf b) else 0
def jcB (l : List Ballot) (rd : Int) (ss : List Int) (s : Int) (b : Ballot) : Int := if cntB l rd ss b then gJ s (keyOf b) else 0
theorem g_sum {r : Rnd} {rd : Int} {ss : List Int} {l : List Ballot} (hn : (l.map (·.serial)).Nodup) (g : Voice → Int) : ((countT r rd ss l).m.map fun e => g e.1).sum = (l.map fun b => if cntB l rd ss b then g (keyOf b) else 0).sum := by
 show ((voices rd ss l l.length).map fun e => g e.1).sum = _
 rw [sig_m, sum_perm (bal_perm hn), sum_filter]
theorem bit_sum {f : Ballot → Int} (h : ∀ b, 0 ≤ f b ∧ f b ≤ 1) : ∀ l : List Ballot, 0 ≤ (l.map f).sum ∧ (l.map f).sum ≤ l.length := by
 intro l
 induction l with
 | nil => simp
 | cons b l ih =>
  have := h b
  simp only [List.map_cons, List.sum_cons, List.length_cons, show ((l.length + 1 : Nat) : Int) = l.length + 1 by omega]
  omega
theorem jcB_bd {l : List Ballot} {rd : Int} {ss : List Int} {s : Int} (b : Ballot) : 0 ≤ jcB l rd ss s b ∧ jcB l rd ss s b ≤ 1 := by
 have := gJ_bd s (keyOf b)
 unfold jcB
 split <;> omega
def jF (c : Contest) (l : List Ballot) (rd : Int) (ss : List Int) (i x : Nat) : Int := c.juries - ((l.take i).map (jcB l rd ss (ss.getD x 0))).sum
theorem jF_bd {c : Contest} {l : List Ballot} {rd : Int} {ss : List Int} {i x : Nat} (h : i ≤ l.length) : c.juries - i ≤ jF c l rd ss i x ∧ jF c l rd ss i x ≤ c.juries := by
 have := bit_sum (jcB_bd (l := l) (rd := rd) (ss := ss) (s := ss.getD x 0)) (l.take i)
 rw [List.length_take] at this
 unfold jF
 omega
theorem jF_step {c : Contest} {l : List Ballot} {rd : Int} {ss : List Int} {i x : Nat} {b : Ballot} (h : l[i]? = some b) : jF c l rd ss (i + 1) x = jF c l rd ss i x - jcB l rd ss (ss.getD x 0) b := by
 unfold jF
 rw [List.take_add_one, h, List.map_append, List.sum_append]
 simp
 omega
theorem jF_same {c : Contest} {l : List Ballot} {rd : Int} {ss : List Int} {i : Nat} {b : Ballot} (h : l[i]? = some b) (h0 : ∀ s, jcB l rd ss s b = 0) (N : Nat) : rowG (jF c l rd ss i) N = rowG (jF c l rd ss (i + 1)) N := rowG_congr fun x _ => by rw [jF_step h, h0, Int.sub_zero]
theorem jF_all {c : Contest} {l : List Ballot} {rd : Int} {t : Tally} (h : ∀ s, jurT t c s = c.juries - (l.map (jcB l rd t.songs s)).sum) : rowG (jF c l rd t.songs l.length) t.songs.length = t.songs.map (jurT t c) := by
 apply List.ext_getElem?
 intro i
 rw [List.getElem?_map]
 by_cases hi : i < t.songs.length
 ·rw [rowG_get hi, List.getElem?_eq_getElem hi, Option.map_some, h]
  unfold jF
  rw [List.take_length, List.getD_eq_getElem?_getD, List.getElem?_eq_getElem hi, Option.getD_some]
 ·rw [List.getElem?_eq_none (by rw [rowG_len]; omega), List.getElem?_eq_none (by omega)]; rfl
def chkRnd (c : Contest) (l : List Ballot) (rd : Int) : Int := if chkBls c l ≠ 0 then chkBls c l else if inR rd 0 ((c.rounds.length : Int) - 1) = false then 2 else 0
set_option maxHeartbeats 4000000 in
theorem rchkRnd_pc (Y : YEnv) (σ : Sg) (c : Contest) (l : List Ballot) (rd : Int) (hr : c.rounds.length < 2 ^ 40) (hl : l.length < 2 ^ 40) :
  PC Tryz.prog Y 64 [cnPV c, bls l, I rd] σ (I (chkRnd c l rd)) (σ) := by
 refine PC_of_W Tryz.func64 rfl (by kernel_rfl) Tryz.ntmps64 (by simp) fun hcl hca => ?_
 refine W_seq fun kz1 kq1 => ?_
 refine W_region [1, 2, 3] fun R hR => ?_
 simp only [go_sem]
 refine hR _ _ (kq1 _ _ ?_); clear hR R; try clear kq1 kz1
 try simp only [go_sem]
 refine W_seq fun kz2 kq2 => ?_
 refine W_seq fun kz3 kq3 => ?_
 refine W_region [2, 3, 7] fun R hR => ?_
 simp only [go_sem]
 refine GCall_of (rchkBls_pc Y _ c l hr hl) ?_
 simp only [go_sem]
 refine hR _ _ (kq3 _ _ ?_); clear hR R; try clear kq3 kz3
 try simp only [go_sem]
 refine W_seq fun kz4 kq4 => ?_
 refine W_region [2, 3, 7, 12] fun R hR => ?_
 simp only [go_sem]
 refine hR _ _ (kq4 _ _ ?_); clear hR R; try clear kq4 kz4
 try simp only [go_sem]
 refine W_cond rfl (fun c1 => ?_) (fun c1 => ?_)
 ·try simp only [nrm] at c1
  refine W_seq fun kz5 kq5 => ?_
  refine W_region [6] fun R hR => ?_
  simp only [go_sem]
  refine hR _ _ (kq5 _ _ ?_); clear hR R; try clear kq5 kz5
  try simp only [go_sem]
  refine W_ret ?_
  simp only [go_sem]
  refine ⟨.inr (by trivial), ?_⟩
  first | refine Fin_same hcl rfl (Wk_eq ?_ (by simp only [go_sem])) | refine Fin_self hcl rfl (Wk_eq ?_ (by simp only [go_sem]))
  try simp only [go_sem]
  all_goals
   unfold chkRnd; rw [if_pos c1]
 ·try simp only [nrm] at c1
  refine W_skip (kq2 _ _ ?_)
  refine W_seq fun kz6 kq6 => ?_
  refine W_seq fun kz7 kq7 => ?_
  refine W_region [20] fun R hR => ?_
  simp only [go_sem]
  try simp (disch := omega) only [wrapI, wrapU]
  refine GCall_of (within_pc Y _ rd 0 ((c.rounds.length : Int) - 1)) ?_
  simp only [go_sem]
  try simp (disch := omega) only [wrapI, wrapU]
  refine hR _ _ (kq7 _ _ ?_); clear hR R; try clear kq7 kz7
  try simp only [go_sem]
  refine W_cond rfl (fun c2 => ?_) (fun c2 => ?_)
  ·try simp only [nrm] at c2
   refine W_seq fun kz8 kq8 => ?_
   refine W_region [6] fun R hR => ?_
   simp only [go_sem]
   refine hR _ _ (kq8 _ _ ?_); clear hR R; try clear kq8 kz8
   try simp only [go_sem]
   refine W_ret ?_
   simp only [go_sem]
   refine ⟨.inr (by trivial), ?_⟩
   first | refine Fin_same hcl rfl (Wk_eq ?_ (by simp only [go_sem])) | refine Fin_self hcl rfl (Wk_eq ?_ (by simp only [go_sem]))
   try simp only [go_sem]
   all_goals
    unfold chkRnd; rw [if_neg (by simp [c1]), if_pos (by simpa using c2)]
  ·try simp only [nrm] at c2
   refine W_skip (kq6 _ _ ?_)
   refine W_seq fun kz9 kq9 => ?_
   refine W_region [6] fun R hR => ?_
   simp only [go_sem]
   refine hR _ _ (kq9 _ _ ?_); clear hR R; try clear kq9 kz9
   try simp only [go_sem]
   refine W_ret ?_
   simp only [go_sem]
   refine ⟨.inr (by trivial), ?_⟩
   first | refine Fin_same hcl rfl (Wk_eq ?_ (by simp only [go_sem])) | refine Fin_self hcl rfl (Wk_eq ?_ (by simp only [go_sem]))
   try simp only [go_sem]
   all_goals
    unfold chkRnd; rw [if_neg (by simp [c1]), if_neg (by simpa using c2)]
set_option maxHeartbeats 16000000 in
theorem rLeft_pc (Y : YEnv) (σ : Sg) (c : Contest) (l : List Ballot) (rdn : Nat) (t : Tally) (hV : CnV c) (hl : l.length ≤ 300) (hb : ∀ b, b ∈ l → BlV c b) (hn : (l.map (·.serial)).Nodup) (ht : (roundsT c l)[rdn]? = some t) :
  PC Tryz.prog Y 13 [cnPV c, bls l, I rdn] σ (.tuple [I (freeT t c), ints (t.songs.map (jurT t c))]) (σ) := by
 refine PC_of_W Tryz.func13 rfl (by kernel_rfl) Tryz.ntmps13 (by simp) fun hcl hca => ?_
 have hTb := roundsT_b hV hl hb t (List.mem_of_getElem? ht)
 have hsl := hTb.sl
 have hmb := hV.mb
 have hjr := hV.jr
 obtain ⟨r, hr, hte⟩ := rdsT_get ht
 rw [Nat.zero_add] at hte
 have hfr : freeT t c = c.members - (l.map (mcB l rdn t.songs)).sum := by
  have := g_sum (r := r) (rd := (rdn : Int)) (ss := t.songs) hn gM
  rw [← hte] at this
  unfold freeT
  rw [this]; rfl
 have hju : ∀ s, jurT t c s = c.juries - (l.map (jcB l rdn t.songs s)).sum := fun s => by
  have := g_sum (r := r) (rd := (rdn : Int)) (ss := t.songs) hn (gJ s)
  rw [← hte] at this
  unfold jurT
  rw [this]; rfl
 have hja := jF_all hju
 obtain ⟨N, hN⟩ : ∃ z, t.songs.length = z := ⟨_, rfl⟩
 have hz0 : rowG (fun x => if x < 0 then c.juries else 0) N = List.replicate N 0 := by rw [← rowG_zero]; exact rowG_congr fun x _ => if_neg (by omega)
 refine W_seq fun kz1 kq1 => ?_
 refine W_region [1, 2, 3] fun R hR => ?_
 simp only [go_sem]
 refine hR _ _ (kq1 _ _ ?_); clear hR R; try clear kq1 kz1
 try simp only [go_sem]
 refine W_seq fun kz2 kq2 => ?_
 refine W_region [1, 2, 3, 8] fun R hR => ?_
 simp only [go_sem]
 refine GCall_of (rSongs_pc c l hV hl hb hn rdn t ht Y _) ?_
 simp only [go_sem]
 refine hR _ _ (kq2 _ _ ?_); clear hR R; try clear kq2 kz2
 try simp only [go_sem]
 refine W_seq fun kz3 kq3 => ?_
 refine W_region [1, 2, 3, 8, 9] fun R hR => ?_
 simp only [go_sem]
 refine hR _ _ (kq3 _ _ ?_); clear hR R; try clear kq3 kz3
 try simp only [go_sem]
 refine W_seq fun kz4 kq4 => ?_
 refine W_region [1, 2, 3, 8, 9, 10] fun R hR => ?_
 simp only [go_sem, hN, mkI (k := N) (by omega)]
 refine hR _ _ (kq4 _ _ ?_); clear hR R; try clear kq4 kz4
 try simp only [go_sem]
 refine W_seq fun kz5 kq5 => ?_
 refine W_seq fun kz6 kq6 => ?_
 refine W_region [1, 2, 3, 8, 9, 10, 11] fun R hR => ?_
 simp only [go_sem]
 refine hR _ _ (kq6 _ _ ?_); clear hR R; try clear kq6 kz6
 try simp only [go_sem]
 refine W_block ?_
 refine W_loopT (α := Nat) (fun (i : Nat) => [(11, I i)]) (fun (i : Nat) => σ.ext [some (cnCells c), some ((rowG (fun x => if x < i then c.juries else 0) N).map I)] []) (fun (i : Nat) => i ≤ N) (fun (i : Nat) => N - i) (0) rfl (by rw [hz0]; rfl) (Nat.zero_le _) ?_
 rintro i hi
 refine W_seq fun kz7 kq7 => ?_
 refine W_seq fun kz8 kq8 => ?_
 refine W_region [1, 2, 3, 8, 9, 10, 11, 26] fun R hR => ?_
 simp only [go_sem, hN]
 refine hR _ _ (kq8 _ _ ?_); clear hR R; try clear kq8 kz8
 try simp only [go_sem]
 refine W_cond rfl (fun c1 => ?_) (fun c1 => ?_)
 ·try simp only [nrm] at c1
  have hil0 : (i : Int) < (N : Int) := by first | omega | (simp at c1; omega)
  have hiN0 : i + 1 ≤ N := by omega
  have hrl0 := rowG_len (fun x => if x < i then c.juries else 0) N
  have hrs0 : (rowG (fun x => if x < i then c.juries else 0) N).set i c.juries = rowG (fun x => if x < i + 1 then c.juries else 0) N := by
   rw [rowG_set]
   refine rowG_congr fun x _ => ?_
   by_cases e : x = i
   ·subst e; rw [if_pos rfl, if_pos (by omega)]
   ·by_cases q : x < i
    ·rw [if_neg e, if_pos q, if_pos (by omega)]
    ·rw [if_neg e, if_neg q, if_neg (by omega)]
  refine W_skip (kq7 _ _ ?_)
  refine W_seq fun kz9 kq9 => ?_
  refine W_block ?_
  refine W_region [1, 2, 3, 8, 9, 10, 11] fun R hR => ?_
  simp only [go_sem, hil0, hiN0, hrl0, Nat.mul_one, hrs0]
  refine hR _ _ (kq9 _ _ ?_); clear hR R; try clear kq9 kz9
  try simp only [go_sem]
  refine W_region [1, 2, 3, 8, 9, 10, 11] fun R hR => ?_
  simp only [go_sem]
  try simp (disch := omega) only [wrapI, wrapU]
  refine hR _ _ ?_; clear hR R
  try simp only [go_sem]
  refine ⟨i + 1, ?_, by (try simp only []); omega, ?_⟩
  ·first | exact Weak.refl | exact Weak.eq rfl rfl
  ·try dsimp only
   omega
 ·try simp only [nrm] at c1
  have hie : N = i := by first | omega | (simp at c1; omega)
  subst hie
  subst hN
  have hz1 : rowG (fun x => if x < t.songs.length then c.juries else 0) t.songs.length = rowG (jF c l rdn t.songs 0) t.songs.length := rowG_congr fun x h => by rw [if_pos h]; simp [jF]
  rw [hz1]
  refine W_exit ?_
  simp only [go_sem]
  refine kq5 _ _ ?_
  refine W_seq fun kz10 kq10 => ?_
  refine W_seq fun kz11 kq11 => ?_
  refine W_region [1, 2, 8, 9, 10, 12] fun R hR => ?_
  simp only [go_sem]
  refine hR _ _ (kq11 _ _ ?_); clear hR R; try clear kq11 kz11
  try simp only [go_sem]
  refine W_block ?_
  refine W_loopT (α := Nat × Int) (fun ⟨i, m⟩ => [(9, I m), (12, I i)]) (fun ⟨i, m⟩ => σ.ext [some (cnCells c), some ((rowG (jF c l rdn t.songs i) t.songs.length).map I)] []) (fun ⟨i, m⟩ => i ≤ l.length ∧ m = c.members - ((l.take i).map (mcB l rdn t.songs)).sum ∧ -(i : Int) ≤ m ∧ m ≤ 1000) (fun ⟨i, m⟩ => l.length - i) ((0, c.members)) rfl (by first | rfl | (simp only [go_sem]; done) | (simp only [go_sem]; rfl)) (⟨Nat.zero_le _, by simp, by simp; omega, by omega⟩) ?_
  rintro ⟨i, m⟩ ⟨hi, hm, hm1, hm2⟩
  refine W_seq fun kz12 kq12 => ?_
  refine W_seq fun kz13 kq13 => ?_
  refine W_region [1, 2, 8, 9, 10, 12, 37] fun R hR => ?_
  simp only [go_sem]
  refine hR _ _ (kq13 _ _ ?_); clear hR R; try clear kq13 kz13
  try simp only [go_sem]
  refine W_cond rfl (fun c2 => ?_) (fun c2 => ?_)
  ·try simp only [nrm] at c2
   have hi' : i < l.length := by first | assumption | omega
   obtain ⟨b, hx⟩ : ∃ b, l[i]? = some b := ⟨l[i], by simp [hi']⟩
   have hdrop : l.drop i = b :: l.drop (i + 1) := by
    rw [List.drop_eq_getElem_cons hi']; congr 1; exact (List.getElem?_eq_some_iff.1 hx).2
   have hil : (i : Int) < (l.length : Int) := by omega
   have hbx := hb b (List.mem_of_getElem? hx)
   have hbk : b.kind = 1 ∨ b.kind = 2 := hbx.kd
   have hwm : IntKind.i64.wrap (m - 1) = m - 1 := wrapI (by omega) (by omega)
   have hms : ((l.take (i + 1)).map (mcB l rdn t.songs)).sum = ((l.take i).map (mcB l rdn t.songs)).sum + mcB l rdn t.songs b := by rw [List.take_add_one, hx, List.map_append, List.sum_append]; simp
   refine W_skip (kq12 _ _ ?_)
   refine W_seq fun kz14 kq14 => ?_
   refine W_block ?_
   refine W_seq fun kz15 kq15 => ?_
   refine W_seq fun kz16 kq16 => ?_
   refine W_region [1, 2, 8, 9, 10, 12, 48] fun R hR => ?_
   simp only [go_sem, hil, hx]
   refine GCall_of (rcnt_pc Y _ l rdn t.songs b (by omega) (by omega)) ?_
   simp only [go_sem, hil, hx]
   refine hR _ _ (kq16 _ _ ?_); clear hR R; try clear kq16 kz16
   try simp only [go_sem]
   refine W_cond rfl (fun c3 => ?_) (fun c3 => ?_)
   ·try simp only [nrm] at c3
    have hc0 : cntB l rdn t.songs b = false := by simpa using c3
    have hm0 : mcB l rdn t.songs b = 0 := by simp [mcB, hc0]
    have hFe := jF_same (c := c) (ss := t.songs) (rd := (rdn : Int)) hx (fun s => by simp [jcB, hc0]) t.songs.length
    refine W_exit ?_
    simp only [go_sem]
    refine kq14 _ _ ?_
    refine W_region [1, 2, 8, 9, 10, 12] fun R hR => ?_
    simp only [go_sem]
    try simp (disch := omega) only [wrapI, wrapU]
    refine hR _ _ ?_; clear hR R
    try simp only [go_sem]
    refine ⟨(i + 1, m), ?_, by (try simp only []); omega, ?_⟩
    ·exact Weak.eq rfl (by rw [hFe])
    ·try dsimp only
     rw [hms, hm0]; exact ⟨hi', by omega, by omega, by omega⟩
   ·try simp only [nrm] at c3
    have hc0 : cntB l rdn t.songs b = true := by simpa using c3
    refine W_skip (kq15 _ _ ?_)
    refine W_seq fun kz17 kq17 => ?_
    refine W_seq fun kz18 kq18 => ?_
    refine W_region [1, 2, 8, 9, 10, 12, 54] fun R hR => ?_
    simp only [go_sem, hil, hx]
    refine hR _ _ (kq18 _ _ ?_); clear hR R; try clear kq18 kz18
    try simp only [go_sem]
    refine W_cond rfl (fun c4 => ?_) (fun c4 => ?_)
    ·try simp only [nrm] at c4
     have hm0 : mcB l rdn t.songs b = 1 := by unfold mcB; rw [if_pos hc0, gM_key, if_pos c4]
     have hFe := jF_same (c := c) (ss := t.songs) (rd := (rdn : Int)) hx (fun s => by unfold jcB; rw [if_pos hc0, gJ_key hbk, if_neg (by omega)]) t.songs.length
     refine W_seq fun kz19 kq19 => ?_
     refine W_region [1, 2, 8, 9, 10, 12] fun R hR => ?_
     simp only [go_sem, hwm]
     try simp (disch := omega) only [wrapI, wrapU]
     refine hR _ _ (kq19 _ _ ?_); clear hR R; try clear kq19 kz19
     try simp only [go_sem]
     refine W_exit ?_
     simp only [go_sem]
     refine kq14 _ _ ?_
     refine W_region [1, 2, 8, 9, 10, 12] fun R hR => ?_
     simp only [go_sem]
     try simp (disch := omega) only [wrapI, wrapU]
     refine hR _ _ ?_; clear hR R
     try simp only [go_sem]
     refine ⟨(i + 1, m - 1), ?_, by (try simp only []); omega, ?_⟩
     ·exact Weak.eq rfl (by rw [hFe])
     ·try dsimp only
      rw [hms, hm0]; exact ⟨hi', by omega, by omega, by omega⟩
    ·try simp only [nrm] at c4
     have hm0 : mcB l rdn t.songs b = 0 := by unfold mcB; rw [if_pos hc0, gM_key, if_neg c4]
     have hk1 : b.kind = 1 := by omega
     refine W_skip (kq17 _ _ ?_)
     refine W_seq fun kz20 kq20 => ?_
     refine W_region [1, 2, 8, 9, 10, 12, 13] fun R hR => ?_
     simp only [go_sem]
     refine hR _ _ (kq20 _ _ ?_); clear hR R; try clear kq20 kz20
     try simp only [go_sem]
     refine W_block ?_
     refine W_loopT (α := Nat) (fun (k : Nat) => [(13, I k)]) (fun (k : Nat) => σ.ext [some (cnCells c), some ((rowG (fun x => if x < k then jF c l rdn t.songs (i + 1) x else jF c l rdn t.songs i x) t.songs.length).map I)] []) (fun (k : Nat) => k ≤ t.songs.length) (fun (k : Nat) => t.songs.length - k) (0) rfl (by rw [show rowG (fun x => if x < 0 then jF c l rdn t.songs (i + 1) x else jF c l rdn t.songs i x) t.songs.length = rowG (jF c l rdn t.songs i) t.songs.length from rowG_congr fun x _ => if_neg (by omega)]; rfl) (Nat.zero_le _) ?_
     rintro k hk
     refine W_seq fun kz21 kq21 => ?_
     refine W_seq fun kz22 kq22 => ?_
     refine W_region [1, 2, 8, 9, 10, 12, 13, 60] fun R hR => ?_
     simp only [go_sem]
     refine hR _ _ (kq22 _ _ ?_); clear hR R; try clear kq22 kz22
     try simp only [go_sem]
     refine W_cond rfl (fun c5 => ?_) (fun c5 => ?_)
     ·try simp only [nrm] at c5
      have hk' : k < t.songs.length := by first | assumption | omega
      obtain ⟨s, hsk⟩ : ∃ s, t.songs[k]? = some s := ⟨t.songs[k], by simp [hk']⟩
      have hdropk : t.songs.drop k = s :: t.songs.drop (k + 1) := by
       rw [List.drop_eq_getElem_cons hk']; congr 1; exact (List.getElem?_eq_some_iff.1 hsk).2
      have hkl : (k : Int) < (t.songs.length : Int) := by omega
      have hkN : k + 1 ≤ t.songs.length := hk'
      have hsg : t.songs.getD k 0 = s := by rw [List.getD_eq_getElem?_getD, hsk]; rfl
      have hrl := rowG_len (fun x => if x < k then jF c l rdn t.songs (i + 1) x else jF c l rdn t.songs i x) t.songs.length
      have hrb := rowG_get (f := (fun x => if x < k then jF c l rdn t.songs (i + 1) x else jF c l rdn t.songs i x)) hk'
      rw [if_neg (by omega)] at hrb
      have hjb := jF_bd (c := c) (rd := (rdn : Int)) (ss := t.songs) (x := k) hi
      have hwj : IntKind.i64.wrap (jF c l rdn t.songs i k - 1) = jF c l rdn t.songs i k - 1 := wrapI (by omega) (by omega)
      refine W_skip (kq21 _ _ ?_)
      refine W_seq fun kz23 kq23 => ?_
      refine W_block ?_
      refine W_seq fun kz24 kq24 => ?_
      refine W_draw [1, 2, 8, 9, 10, 12, 13, 72] [0, 1, 2, 3, 4, 5, 6, 7, 8, 9] [] [[], [], [0, 1], [0, 1, 2], [], [], [4, 5], [4, 5, 6], [4, 5, 6, 7], [0, 1, 2, 3, 4, 5, 6, 7, 8]] mixed (by kernel_rfl) fun R hR => ?_
      simp only [go_sem, hil, hx, hkl, hsk]
      try refine And.intro (by repeat' (first | refine And.intro ?_ ?_ | exact trivial | exact GOr_right (fun _ => by simp only [go_sem, hil, hx, hkl, hsk]))) ?_
      refine hR _ _ (kq24 _ _ ?_); clear hR R; try clear kq24 kz24
      try simp only [go_sem]
      refine W_cond rfl (fun c6 => ?_) (fun c6 => ?_)
      ·try simp only [nrm] at c6
       have hst : jF c l rdn t.songs (i + 1) k = jF c l rdn t.songs i k - 1 := by
        rw [jF_step hx]
        unfold jcB
        rw [if_pos hc0, gJ_key hbk, hsg, if_pos ⟨hk1, by omega⟩]
       have hrs : (rowG (fun x => if x < k then jF c l rdn t.songs (i + 1) x else jF c l rdn t.songs i x) t.songs.length).set k (jF c l rdn t.songs i k - 1) = rowG (fun x => if x < k + 1 then jF c l rdn t.songs (i + 1) x else jF c l rdn t.songs i x) t.songs.length := by
        rw [rowG_set]
        refine rowG_congr fun x _ => ?_
        by_cases e : x = k
        ·subst e; rw [if_pos rfl, if_pos (by omega), hst]
        ·by_cases q : x < k
         ·rw [if_neg e, if_pos q, if_pos (by omega)]
         ·rw [if_neg e, if_neg q, if_neg (by omega)]
       refine W_region [1, 2, 8, 9, 10, 12, 13] fun R hR => ?_
       simp only [go_sem, hkl, hkN, hrb, hrl, hwj, List.getElem?_map, Nat.mul_one, hrs]
       try simp (disch := omega) only [wrapI, wrapU]
       refine hR _ _ (kq23 _ _ ?_); clear hR R; try clear kq23 kz23
       try simp only [go_sem]
       refine W_region [1, 2, 8, 9, 10, 12, 13] fun R hR => ?_
       simp only [go_sem]
       try simp (disch := omega) only [wrapI, wrapU]
       refine hR _ _ ?_; clear hR R
       try simp only [go_sem]
       refine ⟨k + 1, ?_, by (try simp only []); omega, ?_⟩
       ·first | exact Weak.eq rfl rfl | exact Weak.eq rfl (by rw [hrs])
       ·try dsimp only
        exact hk'
      ·try simp only [nrm] at c6
       have hst : jF c l rdn t.songs (i + 1) k = jF c l rdn t.songs i k := by
        rw [jF_step hx]
        unfold jcB
        rw [if_pos hc0, gJ_key hbk, hsg, if_neg (by omega), Int.sub_zero]
       have hrs : rowG (fun x => if x < k then jF c l rdn t.songs (i + 1) x else jF c l rdn t.songs i x) t.songs.length = rowG (fun x => if x < k + 1 then jF c l rdn t.songs (i + 1) x else jF c l rdn t.songs i x) t.songs.length := by
        refine rowG_congr fun x _ => ?_
        by_cases e : x = k
        ·subst e; rw [if_neg (by omega), if_pos (by omega), hst]
        ·by_cases q : x < k
         ·rw [if_pos q, if_pos (by omega)]
         ·rw [if_neg q, if_neg (by omega)]
       refine W_skip (kq23 _ _ ?_)
       refine W_region [1, 2, 8, 9, 10, 12, 13] fun R hR => ?_
       simp only [go_sem]
       try simp (disch := omega) only [wrapI, wrapU]
       refine hR _ _ ?_; clear hR R
       try simp only [go_sem]
       refine ⟨k + 1, ?_, by (try simp only []); omega, ?_⟩
       ·first | exact Weak.eq rfl rfl | exact Weak.eq rfl (by rw [hrs])
       ·try dsimp only
        exact hk'
     ·try simp only [nrm] at c5
      have hke : t.songs.length = k := by first | omega | (simp at c5; omega)
      have hFe : rowG (fun x => if x < k then jF c l rdn t.songs (i + 1) x else jF c l rdn t.songs i x) t.songs.length = rowG (jF c l rdn t.songs (i + 1)) t.songs.length := rowG_congr fun x h => if_pos (by omega)
      refine W_exit ?_
      simp only [go_sem]
      refine kq14 _ _ ?_
      refine W_region [1, 2, 8, 9, 10, 12] fun R hR => ?_
      simp only [go_sem]
      try simp (disch := omega) only [wrapI, wrapU]
      refine hR _ _ ?_; clear hR R
      try simp only [go_sem]
      refine ⟨(i + 1, m), ?_, by (try simp only []); omega, ?_⟩
      ·exact Weak.eq rfl (by rw [hFe])
      ·try dsimp only
       rw [hms, hm0]; exact ⟨hi', by omega, by omega, by omega⟩
  ·try simp only [nrm] at c2
   have hie : l.length = i := by first | omega | (simp at c2; omega)
   rw [← hie, List.take_length, ← hfr] at hm
   rw [← hie, hm]
   refine W_weak (Weak.freezeI (t := 10) (j := 1) (xs := rowG (jF c l rdn t.songs l.length) t.songs.length) (by rw [rowG_len]; rfl) rfl) ?_
   simp only [go_sem, hja]
   refine W_exit ?_
   simp only [go_sem]
   refine kq10 _ _ ?_
   refine W_seq fun kz25 kq25 => ?_
   refine W_region [6, 7] fun R hR => ?_
   simp only [go_sem]
   refine hR _ _ (kq25 _ _ ?_); clear hR R; try clear kq25 kz25
   try simp only [go_sem]
   refine W_ret ?_
   simp only [go_sem]
   refine ⟨.inr (by trivial), ?_⟩
   refine Fin_same hcl rfl (Wk.ro (by simp only [go_sem]) ?_)
   try simp only [go_sem]
   all_goals
    first | rfl | (simp only [go_sem]; done)
set_option maxHeartbeats 2000000 in
theorem rMore_pc (Y : YEnv) (σ : Sg) (r : Rnd) (s : Std) (p v : Int) (h1 : 0 ≤ r.jury ∧ r.jury ≤ 2 ^ 20) (h2 : 0 ≤ r.member ∧ r.member ≤ 2 ^ 20) (h3 : -2 ^ 30 ≤ s.points + p ∧ s.points + p ≤ 2 ^ 30) (h4 : -2 ^ 30 ≤ s.votes + v ∧ s.votes + v ≤ 2 ^ 30) :
  PC Tryz.prog Y 38 [rdPV r, sdPV s, I p, I v] σ (sdPV (weighS ⟨s.song, s.points + p, s.votes + v, 0⟩ r)) (σ) := by
 refine PC_of_W Tryz.func38 rfl (by kernel_rfl) Tryz.ntmps38 (by simp) fun hcl hca => ?_
 have hm1 := mul_bd h1 h3
 have hm2 := mul_bd h2 h4
 have hw1 : IntKind.i64.wrap (r.jury * (s.points + p)) = r.jury * (s.points + p) := wrapI (by omega) (by omega)
 have hw2 : IntKind.i64.wrap (r.member * (s.votes + v)) = r.member * (s.votes + v) := wrapI (by omega) (by omega)
 have hw3 : IntKind.i64.wrap (r.jury * (s.points + p) + r.member * (s.votes + v)) = r.jury * (s.points + p) + r.member * (s.votes + v) := wrapI (by omega) (by omega)
 have hw4 : IntKind.i64.wrap (s.points + p) = s.points + p := wrapI (by omega) (by omega)
 have hw5 : IntKind.i64.wrap (s.votes + v) = s.votes + v := wrapI (by omega) (by omega)
 refine W_seq fun kz1 kq1 => ?_
 refine W_region [2, 3, 4, 5, 8] fun R hR => ?_
 simp only [go_sem, sdPV, sdCells, rdPV, rdCells, hw1, hw2, hw3, hw4, hw5]
 refine hR _ _ (kq1 _ _ ?_); clear hR R; try clear kq1 kz1
 try simp only [go_sem, sdPV, sdCells, rdPV, rdCells, hw1, hw2, hw3, hw4, hw5]
 refine W_seq fun kz2 kq2 => ?_
 refine W_region [4, 5, 8] fun R hR => ?_
 simp only [go_sem, sdPV, sdCells, rdPV, rdCells, hw1, hw2, hw3, hw4, hw5]
 try simp (disch := omega) only [wrapI, wrapU]
 refine hR _ _ (kq2 _ _ ?_); clear hR R; try clear kq2 kz2
 try simp only [go_sem, sdPV, sdCells, rdPV, rdCells, hw1, hw2, hw3, hw4, hw5]
 refine W_seq fun kz3 kq3 => ?_
 refine W_region [5, 8] fun R hR => ?_
 simp only [go_sem, sdPV, sdCells, rdPV, rdCells, hw1, hw2, hw3, hw4, hw5]
 try simp (disch := omega) only [wrapI, wrapU]
 refine hR _ _ (kq3 _ _ ?_); clear hR R; try clear kq3 kz3
 try simp only [go_sem, sdPV, sdCells, rdPV, rdCells, hw1, hw2, hw3, hw4, hw5]
 refine W_seq fun kz4 kq4 => ?_
 refine W_region [8] fun R hR => ?_
 simp only [go_sem, sdPV, sdCells, rdPV, rdCells, hw1, hw2, hw3, hw4, hw5]
 refine hR _ _ (kq4 _ _ ?_); clear hR R; try clear kq4 kz4
 try simp only [go_sem, sdPV, sdCells, rdPV, rdCells, hw1, hw2, hw3, hw4, hw5]
 refine W_ret ?_
 simp only [go_sem, sdPV, sdCells, rdPV, rdCells, hw1, hw2, hw3, hw4, hw5]
 refine ⟨.inr (by trivial), ?_⟩
 first | refine Fin_same hcl (by show resPV Tryz.prog _ _ [.cell 8 75] = some _; simp only [resPV, go_sem]; rfl) (Wk_eq ?_ (by simp only [go_sem])) | refine Fin_same hcl rfl (Wk_eq ?_ (by simp only [go_sem]))
 try simp only [go_sem]
 all_goals
  first | rfl | simp [weighS, sdPV, sdCells]
def moreS (r : Rnd) (s : Std) (p v : Int) : Std := weighS ⟨s.song, s.points + p, s.votes + v, 0⟩ r
theorem more_std {t : Tally} {s p v : Int} : moreS t.rd (stdT t s 0 0) p v = stdT t s p v := by simp [moreS, stdT, weighS]
theorem rdsT_sub {l : List Ballot} : ∀ {rs : List Rnd} {i : Nat} {ss : List Int}, ∀ t, t ∈ rdsT l rs i ss → ∀ s, s ∈ t.songs → s ∈ ss := by
 intro rs
 induction rs with
 | nil => intro i ss t h; cases h
 | cons r rs ih =>
  intro i ss t h s hs
  simp only [rdsT, List.mem_cons] at h
  rcases h with rfl | h
  ·exact hs
  ·exact mem_kept (ih t h s hs)
theorem chkRnd_in {c : Contest} {l : List Ballot} {rd : Int} (h : chkRnd c l rd = 0) : chkBls c l = 0 ∧ inR rd 0 ((c.rounds.length : Int) - 1) = true := by
 unfold chkRnd at h
 by_cases h1 : chkBls c l = 0
 ·rw [if_neg (by simp [h1])] at h
  refine ⟨h1, ?_⟩
  cases h2 : inR rd 0 ((c.rounds.length : Int) - 1) with
  | true => rfl
  | false => rw [h2] at h; simp at h
 ·rw [if_pos h1] at h
  exact absurd h h1
structure RndOk (c : Contest) (l : List Ballot) (rn : Nat) (t : Tally) (fr : Nat) : Prop where
 V : CnV c
 ll : l.length ≤ 300
 hb : ∀ b, b ∈ l → BlV c b
 sn : (l.map (·.serial)).Nodup
 tt : (roundsT c l)[rn]? = some t
 rr : c.rounds[rn]? = some t.rd
 te : t = countT t.rd rn t.songs l
 T : TlB t
 nd : t.songs.Nodup
 ff : freeT t c = fr
 f2 : fr ≤ 1000
 op : ∀ s, -2 ^ 20 ≤ openT t c s ∧ openT t c s ≤ 2 ^ 20
 sb : ∀ s, s ∈ t.songs → 0 ≤ s ∧ s < c.songs
theorem rnd_ok {c : Contest} {l : List Ballot} {rd : Int} (h : chkRnd c l rd = 0) : ∃ (rn : Nat) (t : Tally) (fr : Nat), rd = rn ∧ RndOk c l rn t fr := by
 obtain ⟨h1, h2⟩ := chkRnd_in h
 obtain ⟨hV, hl, hb, hn⟩ := blsV_of h1
 have hrb := inR_true.1 h2
 obtain ⟨rn, rfl⟩ : ∃ z : Nat, rd = z := ⟨rd.toNat, by omega⟩
 have htl : (roundsT c l).length = c.rounds.length := rdsT_len
 obtain ⟨t, ht⟩ : ∃ z, (roundsT c l)[rn]? = some z := ⟨(roundsT c l)[rn]'(by omega), by simp⟩
 obtain ⟨r, hr, hte⟩ := rdsT_get ht
 rw [Nat.zero_add] at hte
 have hm := List.mem_of_getElem? ht
 have hrd : t.rd = r := by rw [hte]; rfl
 have hml : t.m.length ≤ 300 := Nat.le_trans (rdsT_m t hm) hl
 have hf := freeT_bd hV hml
 have hnn : 0 ≤ freeT t c := by rw [hte]; exact free_nn hV.mb.1 hb
 refine ⟨rn, t, (freeT t c).toNat, rfl, hV, hl, hb, hn, ht, by rw [hrd]; exact hr, by rw [hrd]; exact hte, roundsT_b hV hl hb t hm, (roundsT_up hm).nodup, by omega, by omega, openT_bd hV hml, fun s hs => ?_⟩
 have := rdsT_sub t hm s hs
 unfold toI at this
 obtain ⟨i, hi, rfl⟩ := List.mem_map.1 this
 have := List.mem_range.1 hi
 omega
end Go.Proofs.YtnolifglhhjdnaaGreat
