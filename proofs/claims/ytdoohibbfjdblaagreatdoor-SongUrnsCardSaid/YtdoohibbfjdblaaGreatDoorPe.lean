/-
  Walks: a contest run (song).
  Walks: how many may still vote, how many points may still come (song).
  Walks: the other songs of a round; may a song be kept (song).
  Walks: is a song kept whatever happens (song).
  Walks: which songs a round keeps (song).
  Walks: which ballots count (song).
  Walks: preferences checked (song, bateriaref04).
  Numbers that follow from numbers (bateriakit): the drum.
  Walks: drums made of numbers, spans (bateriakit).
  Walks: an order made of numbers (bateriakit).
  Walks: preferences made of numbers (bateriakit).
  Contests and ballots made of numbers may be (song, plain).
  What the results of a contest hang on: the ballots that count, in any order (song, plain).
  Ballots that do not count, left out; one more of somebody who has voted (song, plain).
  Standings sorted, and those that are kept: the plain law (song).
  Who can be kept, and who must be: the smallest sums (song, plain).
  A vote more: what it does to a round (song, plain).
  A contest with a vote more (song, plain).
  Walks: the document's check of contests and ballots (song).
  Walks: the document's ballots that count, who is ahead, who is kept (song).
  Walks: the document's standings and results (song).
  Walks: the document's results of rounds, and their songs (song).
  Walks: results compared, ballots copied, numbers taken into bounds (bateriakit).
  Walks: the document's run of a contest, and its ballots that count (song).
  Songs that are left out one after the other, in plain Lean.
  Walks: songs left out one after the other (song).
  Walks: contests and ballots copied and compared (bateriakit).
-/
import Derived.Test.YtdoohibbfjdblaaGreatDoorPd
import Derived.CallsIn
import Derived.RangeFuncLeaves
import Derived.RangeFuncRecord
import Derived.OrdersIn
import Derived.Below
import Derived.Laws.World
import Derived.Laws.StructEq
import Derived.Laws.BytesString
import Derived.Laws.Append
import Derived.MapKept
import Derived.ProofKit
import Derived.Carry
import Derived.Handed
import Derived.ChangeCalls
import Derived.Stop.Joined
import Derived.Lib.LaidTab
import Derived.Shelf.Strconv.Itoa3
import Derived.RangeFuncIn
import Derived.RangeFuncNested
import Derived.Test.YtdoohibbfjdblaaGreatDoorProg
import Derived.KernelRfl
import Derived.IntWalk
import Derived.Sort.OwnSortedInts
import Derived.Lib.SlicesCompact
import Derived.Test.YtdoohibbfjdblaaGreatDoorRows
import Derived.Shelf.Sort.Plain
import Derived.Shelf.Slices.In.SortNone
import Derived.Shelf.Small.Bits
import Derived.Shelf.Strings.Builder1
import Derived.Lib.SplitLaws
import Derived.Lib.AtoiAll
import Derived.Lib.ItoaNum
import Derived.Lib.IndexBytes
import Derived.Shelf.Strings.Split
import Derived.Shelf.Strconv.AtoiAll
import Derived.Lib.AtoiErrMem
import Derived.Lib.ItoaLen
import Derived.Lib.AtoiAllCases
import Derived.Test.YtdoohibbfjdblaaGreatDoorCards
import Derived.Test.YtdoohibbfjdblaaGreatDoorTie
import Derived.JoinedOf
import Derived.LaidMore
import Derived.LaidSub
import Derived.Lay
import Derived.SevenTiedAt
import Derived.Lib.LaidU8
import Derived.Shelf.Vars
set_option linter.unusedSimpArgs false
set_option linter.unusedVariables false
namespace Go.Proofs.YtdoohibbfjdblaaGreatDoor
open Go Go.RowKit
set_option maxRecDepth 100000
theorem iaX_tls {n i : Nat} {ts : List Tally} {t : Tally} (h : ts[i]? = some t) : iaX 21 (tls n ts) (i : Int) = some (.eptr 21 (tls n ts) i 0) := by
 have : (ts.zipIdx)[i]? = some (t, i) := by rw [List.getElem?_zipIdx, h]; simp
 exact iaX_map this rfl
theorem elA_tls {n i : Nat} {ts : List Tally} {t : Tally} (h : ts[i]? = some t) : elA 21 (tls n ts) i 0 = some (tlPV (n + i) t) := by
 have : (ts.zipIdx)[i]? = some (t, i) := by rw [List.getElem?_zipIdx, h]; simp
 rw [tls, elA_map this]; rfl
theorem iaX0 {c : Nat} {p : PV} {l : List PV} (h : p.cells.length = c) : iaX c (p :: l) 0 = some (.eptr c (p :: l) 0 0) := by subst h; simp [iaX]
theorem elS0 {p : PV} {l : List PV} {off : Nat} : elS (p :: l) 0 off = p.cells[off]? := by simp [elS]
theorem res_last {c : Contest} {l : List Ballot} {ts : List Tally} (hts : roundsT c l = ts) {m : Nat} {t : Tally} (ht : ts[m]? = some t) (hm : ts.length = m + 1) {k : Int} {ks : List Int} (hk : (resT t).kept = k :: ks) : winnerT c l = k := by
 unfold winnerT resultsT
 rw [hts, List.getLast?_eq_getElem?, List.length_map, hm, List.getElem?_map, Nat.add_sub_cancel, ht]
 simp [hk]
set_option maxHeartbeats 8000000 in
theorem Run_pc (Y : YEnv) (σ : Sg) (c : Contest) (l : List Ballot) (hr : c.rounds.length < 2 ^ 40) (hl : l.length < 2 ^ 40) :
 PC Tryz.prog Y 11 [cnPV c, bls l] σ (.tuple [rss (runD c l).1, I (runD c l).2.1, I (runD c l).2.2]) (σ) := by
 refine PC_of_W Tryz.func11 rfl (by kernel_rfl) Tryz.ntmps11 (by simp) fun hcl hca => ?_
 refine W_sr [1, 2, 4] fun R hR => ?_
 simp only [go_sem]
 refine hR _ _ ?_; clear hR R
 try simp only [go_sem]
 refine W_seq fun Z2 K2 => ?_
 refine W_sr [1, 2, 4, 7] fun R hR => ?_
 simp only [go_sem]
 refine GCall_of (chkBls_pc Y _ c l hr hl) ?_
 simp only [go_sem]
 refine hR _ _ ?_; clear hR R
 try simp only [go_sem]
 refine W_sr [1, 2, 4, 7, 14] fun R hR => ?_
 simp only [go_sem]
 refine hR _ _ ?_; clear hR R
 try simp only [go_sem]
 refine W_cond rfl (fun c1 => ?_) (fun c1 => ?_)
 ·
  try simp only [nrm] at c1
  have hres : runD c l = ([], 0, chkBls c l) := by unfold runD; rw [if_pos c1]
  refine W_sr [4, 5, 6] fun R hR => ?_
  simp only [go_sem]
  refine hR _ _ ?_; clear hR R
  try simp only [go_sem]
  refine W_ret ?_
  simp only [go_sem]
  refine ⟨.inr (by trivial), ?_⟩
  rw [hres]
  refine Fin_same hcl rfl (Wk.ro (by simp only [go_sem]) ?_)
  try simp only [go_sem]
  all_goals
   first | rfl | (simp only [go_sem]; done) | (simp only [go_sem, resultsT, hts, hRS, hwin, List.map_map]; first | done | rfl)
 try simp only [nrm] at c1
 obtain ⟨hV, hl3, hb, hnd⟩ := blsV_of c1
 have hTb := roundsT_b hV hl3 hb
 have hrl := hV.rl
 have hres : runD c l = (resultsT c l, winnerT c l, 0) := by unfold runD; rw [if_neg (by simp [c1])]
 obtain ⟨ts, hts⟩ : ∃ z, roundsT c l = z := ⟨_, rfl⟩
 have htl : ts.length = c.rounds.length := by rw [← hts]; exact rdsT_len
 rw [hts] at hTb
 refine W_skip (K2 _ _ ?_)
 refine W_seq fun Z6 K6 => ?_
 refine W_sr [4, 18, 19, 20] fun R hR => ?_
 simp only [go_sem]
 refine GCall_of (rounds_pc Y _ c l hV hl3 hb) ?_
 simp only [go_sem]
 refine hR _ _ ?_; clear hR R
 try simp only [go_sem]
 refine W_block ?_
 simp only [hts]
 obtain ⟨RS, hRS⟩ : ∃ z, ts.map resT = z := ⟨_, rfl⟩
 have hRl : RS.length = ts.length := by rw [← hRS]; simp
 obtain ⟨τ, hτ⟩ : ∃ z, σ.ext (some [I c.songs, I c.juries, I c.members, I c.most, rds c.rounds] :: none :: mapsOf ts) [] = z := ⟨_, rfl⟩
 have hτr : σ.rooms.length = τ.rooms.length := by rw [← hτ]; simp [Sg.ext]
 have hτl : τ.store.length = σ.store.length + 1 + 1 + ts.length := by rw [← hτ]; simp only [Sg.len_ext, List.length_cons, mapsOf_len]; omega
 have hclτ : CleanSg τ := by rw [← hτ]; exact CleanSg_ext hcl (by show CleanLs _ _ _ _; simp only [go_sem])
 have hτe : ∀ rm, σ.ext (some [I c.songs, I c.juries, I c.members, I c.most, rds c.rounds] :: none :: mapsOf ts) rm = τ.ext [] rm := fun rm => by rw [← hτ, Sg.ext_ext]; simp
 rw [hτe]
 simp only [hτr]
 refine W_weak (Weak.room (t := 4) (es := 5) rfl (by simp)) ?_
 refine W_weak (Weak.keep [4, 18, 19, 20]) ?_
 simp only [go_sem]
 refine W_loopT (α := Nat) (fun (i : Nat) => [(4, .isl ((RS.take i).map rsPV) (.tok τ.rooms.length i 5)), (20, I i)]) (fun (i : Nat) => τ.ext [] [i]) (fun (i : Nat) => i ≤ ts.length) (fun (i : Nat) => ts.length - i) (0) rfl (by first | rfl | (simp only [go_sem]; done) | (simp only [go_sem]; rfl)) (Nat.zero_le _) ?_
 rintro i hi
 refine W_sr [4, 18, 19, 20, 21] fun R hR => ?_
 simp only [go_sem]
 refine hR _ _ ?_; clear hR R
 try simp only [go_sem]
 refine W_seq fun Z9 K9 => ?_
 refine W_cond rfl (fun c2 => ?_) (fun c2 => ?_)
 ·
  try simp only [nrm] at c2
  have hi' : i < ts.length := by first | omega | (simp at c2; omega)
  obtain ⟨t, ht⟩ : ∃ z, ts[i]? = some z := ⟨ts[i], by simp [hi']⟩
  have hir : (i : Int) < (ts.length : Int) := by omega
  have hri : RS[i]? = some (resT t) := by rw [← hRS, List.getElem?_map, ht]; rfl
  have hsn : RS.take (i + 1) = RS.take i ++ [resT t] := by rw [List.take_add_one, hri]; rfl
  have htk : (RS.take i).length = i := by rw [List.length_take]; omega
  refine W_skip (K9 _ _ ?_)
  refine W_seq fun Z10 K10 => ?_
  refine W_block ?_
  refine W_sr [4, 9, 18, 19, 20] fun R hR => ?_
  simp only [go_sem, iaX_tls ht, elA_tls ht, tlPV, tlCells, List.length_map, hir]
  refine hR _ _ ?_; clear hR R
  try simp only [go_sem]
  refine W_region [4, 18, 19, 20] fun R hR => ?_
  simp only [go_sem, tlPV, tlCells]
  refine GCall_of (result_pc Y _ _ t (hTb t (List.mem_of_getElem? ht))) ?_
  simp only [go_sem, tlPV, tlCells]
  try simp (disch := first | omega | (simp only [go_sem] <;> omega)) only [wrapI, wrapU, appX_exact, appX_tok]
  try simp only [go_sem, tlPV, tlCells]
  refine hR _ _ (K10 _ _ ?_); clear hR R; try clear K10 Z10
  try simp only [go_sem]
  refine W_region [4, 18, 19, 20] fun R hR => ?_
  simp only [go_sem]
  try simp (disch := omega) only [wrapI, wrapU]
  refine hR _ _ ?_; clear hR R
  try simp only [go_sem]
  refine ⟨i + 1, ?_, by (try simp only []); omega, ?_⟩
  ·refine Weak.trans (Weak.cutX (σ := τ) 0 1 (by omega) (by omega) hclτ (by simp only [go_sem] <;> omega) (by simp only [go_sem] <;> omega)) ?_
   simp only [go_sem]
   exact Weak.eq (by rw [hsn]; simp only [List.map_append, List.map_cons, List.map_nil]; first | done | rfl) rfl
  try dsimp only
  exact hi'
 try simp only [nrm] at c2
 have hie : ts.length = i := by first | omega | (simp at c2; omega)
 subst hie
 rw [← hRl, List.take_length]
 refine W_exit ?_
 simp only [go_sem]
 refine K6 _ _ ?_
 refine W_seq fun Z12 K12 => ?_
 obtain ⟨m, hm⟩ : ∃ z, ts.length = z + 1 := ⟨ts.length - 1, by omega⟩
 obtain ⟨tl, htl2⟩ : ∃ z, ts[m]? = some z := ⟨ts[m]'(by omega), by simp⟩
 have hTl := hTb tl (List.mem_of_getElem? htl2)
 obtain ⟨k0, kt, hk⟩ : ∃ a b, (resT tl).kept = a :: b := by
  have h1 := resT_klen (t := tl) hTl.kp.2
  have h2 := hTl.kp.1
  cases h : (resT tl).kept with
  | nil => rw [h] at h1; simp at h1; omega
  | cons a b => exact ⟨a, b, rfl⟩
 have hwin := res_last hts htl2 hm hk
 have hw9 : IntKind.i64.wrap ((ts.length : Int) - 1) = (m : Int) := by rw [wrapI (by omega) (by omega)]; omega
 have hm9 : (m : Int) < (ts.length : Int) := by omega
 have hm92 : m < ts.length := by omega
 have hLr : RS[m]? = some (resT tl) := by rw [← hRS, List.getElem?_map, htl2]; rfl
 refine W_draw [4, 5, 6] [0, 1, 2, 3, 4, 5, 6, 7, 8, 9, 10, 11, 12] [] [[], [], [], [2], [2, 3], [1, 2, 3, 4], [1, 2, 3, 4, 5], [1, 2, 3, 4, 5, 6], [1, 2, 3, 4, 5, 6, 7], [1, 2, 3, 4, 5, 6, 7, 8], [0, 1, 2], [0, 1, 2, 3, 4, 5, 6, 7, 8, 9, 10], [0, 1, 2, 3, 4, 5, 6, 7, 8, 9, 10, 11]] mixed (by kernel_rfl) fun R hR => ?_
 simp only [go_sem, iaX0 (c := 1) (p := I k0) rfl, List.map_cons, elS0, hRl, hw9, hm9, hm92, hLr, hk, iaX_map hLr rfl, elS_map hLr]
 try simp (disch := omega) only [wrapI, wrapU]
 try refine And.intro (by repeat' (first | refine And.intro ?_ ?_ | exact GOr_right (fun _ => by simp only [go_sem, iaX0 (c := 1) (p := I k0) rfl, List.map_cons, elS0, hRl, hw9, hm9, hm92, hLr, hk, iaX_map hLr rfl, elS_map hLr]))) ?_
 refine hR _ _ (K12 _ _ ?_); clear hR R; try clear K12 Z12
 try simp only [go_sem]
 refine W_ret ?_
 simp only [go_sem]
 refine ⟨.inr (by trivial), ?_⟩
 rw [hres, ← hτ, Sg.ext_ext]
 refine Fin_same hcl rfl (Wk.ro (by simp only [go_sem]) ?_)
 try simp only [go_sem]
 all_goals
  first | rfl | (simp only [go_sem]; done) | (simp only [go_sem, resultsT, hts, hRS, hwin, List.map_map]; first | done | rfl)
def optE (g : Voice → Int) : Option (Voice × Int) → Int
 | some e => g e.1
 | none => 0
def sumE (g : Voice → Int) (m : List (Voice × Int)) (js : List Nat) : Int := (js.map fun j => optE g m[j]?).sum
theorem sumE_snoc {g : Voice → Int} {m : List (Voice × Int)} {js : List Nat} {j : Nat} {e : Voice × Int} (h : m[j]? = some e) : sumE g m (js ++ [j]) = sumE g m js + g e.1 := by simp [sumE, h, optE]
theorem sumE_all {g : Voice → Int} {m : List (Voice × Int)} {js : List Nat} (h1 : js.Nodup) (h2 : ∀ j, j ∈ js → j < m.length) (h3 : ∀ j, j < m.length → j ∈ js) : sumE g m js = (m.map fun e => g e.1).sum := by
 unfold sumE
 rw [sum_perm (perm_range h1 h2 h3)]
 congr 1
 apply List.ext_getElem?
 intro j
 rw [List.getElem?_map, List.getElem?_map]
 by_cases hj : j < m.length
 ·rw [List.getElem?_range hj]; simp [hj, optE]
 rw [List.getElem?_eq_none (by simp; omega), List.getElem?_eq_none (by omega)]; rfl
theorem sumE_bd {g : Voice → Int} {m : List (Voice × Int)} (hg : ∀ v, 0 ≤ g v ∧ g v ≤ 1) : ∀ js : List Nat, 0 ≤ sumE g m js ∧ sumE g m js ≤ js.length := by
 intro js
 induction js with
 | nil => simp [sumE]
 | cons j js ih =>
  have e : sumE g m (j :: js) = optE g m[j]? + sumE g m js := by simp [sumE]
  have h : 0 ≤ optE g m[j]? ∧ optE g m[j]? ≤ 1 := by
   cases m[j]? with
   | none => simp [optE]
   | some e => exact hg _
  rw [e, List.length_cons, show ((js.length + 1 : Nat) : Int) = js.length + 1 by omega]
  omega
theorem sumM_bd {g : Voice → Int} (hg : ∀ v, 0 ≤ g v ∧ g v ≤ 1) : ∀ m : List (Voice × Int), 0 ≤ (m.map fun e => g e.1).sum ∧ (m.map fun e => g e.1).sum ≤ m.length := by
 intro m
 induction m with
 | nil => simp
 | cons e m ih =>
  have := hg e.1
  simp only [List.map_cons, List.sum_cons, List.length_cons, show ((m.length + 1 : Nat) : Int) = m.length + 1 by omega]
  omega
def gM (v : Voice) : Int := if v.1 = 2 then 1 else 0
def gJ (s : Int) (v : Voice) : Int := if v.1 = 1 ∧ v.2.2 = s then 1 else 0
theorem gM_bd (v : Voice) : 0 ≤ gM v ∧ gM v ≤ 1 := by unfold gM; split <;> omega
theorem gJ_bd (s : Int) (v : Voice) : 0 ≤ gJ s v ∧ gJ s v ≤ 1 := by unfold gJ; split <;> omega
/-- How many members have not voted yet. -/
def freeT (t : Tally) (c : Contest) : Int := c.members - (t.m.map fun e => gM e.1).sum
/-- How many points juries may still give to a song. -/
def openT (t : Tally) (c : Contest) (s : Int) : Int := (c.juries - (t.m.map fun e => gJ s e.1).sum) * c.most
theorem freeT_bd {t : Tally} {c : Contest} (hV : CnV c) (hm : t.m.length ≤ 300) : -300 ≤ freeT t c ∧ freeT t c ≤ 1000 := by
 have := sumM_bd gM_bd t.m
 have := hV.mb
 unfold freeT
 omega
theorem openT_bd {t : Tally} {c : Contest} (hV : CnV c) (hm : t.m.length ≤ 300) (s : Int) : -2 ^ 20 ≤ openT t c s ∧ openT t c s ≤ 2 ^ 20 := by
 have h1 := sumM_bd (gJ_bd s) t.m
 have h2 := hV.jr
 have h3 := hV.ms
 unfold openT
 obtain ⟨k, hk⟩ : ∃ z, c.juries - (t.m.map fun e => gJ s e.1).sum = z := ⟨_, rfl⟩
 rw [hk]
 have e1 : k * c.most ≤ 8 * c.most := Int.mul_le_mul_of_nonneg_right (by omega) h3.1
 have e2 : -300 * c.most ≤ k * c.most := Int.mul_le_mul_of_nonneg_right (by omega) h3.1
 omega
theorem it_at {S : Sg} {id mid n : Nat} {seen : List Nat} {es : List PV} (h1 : S.store[id]? = some (some [.itst mid n seen])) (h2 : S.store[mid]? = some (some (.mark :: es))) (h3 : es.length = n) : iterAt S (.iter id) = some (id, mid, seen, es) := by
 simp only [iterAt, h1, h2, h3, if_true]
theorem snoc_nodup {seen : List Nat} {j : Nat} (h : seen.Nodup) (hj : j ∉ seen) : (seen ++ [j]).Nodup := by
 rw [List.nodup_append]
 exact ⟨h, by simp, fun x hx y hy e => hj (by simp at hy; rw [← hy, ← e]; exact hx)⟩
theorem snoc_lt {seen : List Nat} {j n : Nat} (h : ∀ x, x ∈ seen → x < n) (hj : j < n) : ∀ x, x ∈ seen ++ [j] → x < n := fun x hx => by
 rcases List.mem_append.1 hx with h' | h'
 ·exact h x h'
 simp at h'; rw [h']; exact hj
set_option maxHeartbeats 4000000 in
theorem free_pc (Y : YEnv) (σ : Sg) (id : Nat) (t : Tally) (c : Contest) (hd : σ.store[id]? = some (some (.mark :: mapE vcPV I t.m))) (hm : t.m.length ≤ 300) (hV : CnV c) :
 PC Tryz.prog Y 43 [tlPV id t, cnPV c] σ (I (freeT t c)) (σ) := by
 refine PC_of_W Tryz.func43 rfl (by kernel_rfl) Tryz.ntmps43 (by simp) fun hcl hca => ?_
 have hlt := lt_of_get hd
 have hVj := hV.jr
 have hVm := hV.mb
 have hVs := hV.ms
 refine W_sr [2, 3] fun R hR => ?_
 simp only [go_sem, Sg.get_ext, Sg.get_ext0, List.getElem?_cons_succ, List.getElem?_cons_zero, get_extx hd, vcPV, tlPV]
 refine hR _ _ ?_; clear hR R
 try simp only [go_sem, Sg.get_ext, Sg.get_ext0, List.getElem?_cons_succ, List.getElem?_cons_zero, get_extx hd, vcPV]
 refine W_sr [2, 5] fun R hR => ?_
 simp only [go_sem, Sg.get_ext, Sg.get_ext0, List.getElem?_cons_succ, List.getElem?_cons_zero, get_extx hd, vcPV]
 refine hR _ _ ?_; clear hR R
 try simp only [go_sem, Sg.get_ext, Sg.get_ext0, List.getElem?_cons_succ, List.getElem?_cons_zero, get_extx hd, vcPV]
 refine W_seq fun Z3 K3 => ?_
 refine W_sr [5, 11] fun R hR => ?_
 simp only [go_sem, Sg.get_ext, Sg.get_ext0, List.getElem?_cons_succ, List.getElem?_cons_zero, get_extx hd, vcPV, tl_map]
 refine hR _ _ ?_; clear hR R
 try simp only [go_sem, Sg.get_ext, Sg.get_ext0, List.getElem?_cons_succ, List.getElem?_cons_zero, get_extx hd, vcPV]
 refine W_block ?_
 refine W_loopT (α := (List Nat)) (fun (seen : List Nat) => [(5, I (c.members - sumE gM t.m seen))]) (fun (seen : List Nat) => σ.ext [some (tlCells id t), some (cnCells c), some [.itst id t.m.length seen]] []) (fun (seen : List Nat) => seen.Nodup ∧ ∀ j, j ∈ seen → j < t.m.length) (fun (seen : List Nat) => t.m.length - seen.length) ([]) (by simp only [sumE, List.map_nil, List.sum_nil, Int.sub_zero]; rfl) (by first | rfl | (simp only [go_sem]; done) | (simp only [go_sem]; rfl)) (⟨List.nodup_nil, fun j h => absurd h (by simp)⟩) ?_
 rintro seen ⟨hsn, hsl2⟩
 refine W_seq fun Z5 K5 => ?_
 refine W_next [5, 11, 13] (os := _) rfl rfl rfl (by decide) (it_at (Sg.get_ext ..) (get_extx hd) mapE_len) (fun K hR hall => ?_) (fun K hR j0 k0 u0 hj0 hns => ?_)
 · -- next: no more
  have hsA := sumE_all (g := gM) hsn hsl2 (by simpa [mapE_len] using hall)
  simp only [go_sem, Sg.get_ext, Sg.get_ext0, List.getElem?_cons_succ, List.getElem?_cons_zero, get_extx hd, vcPV]
  refine hR _ _ (K5 _ _ ?_); clear hR K
  try simp only [go_sem, Sg.get_ext, Sg.get_ext0, List.getElem?_cons_succ, List.getElem?_cons_zero, get_extx hd, vcPV]
  refine W_seq fun Z6 K6 => ?_
  refine W_cond_false rfl ?_
  refine W_exit ?_
  simp only [go_sem, Sg.get_ext, Sg.get_ext0, List.getElem?_cons_succ, List.getElem?_cons_zero, get_extx hd, vcPV]
  refine K3 _ _ ?_
  refine W_sr [4] fun R hR => ?_
  simp only [go_sem, Sg.get_ext, Sg.get_ext0, List.getElem?_cons_succ, List.getElem?_cons_zero, get_extx hd, vcPV]
  refine hR _ _ ?_; clear hR R
  try simp only [go_sem, Sg.get_ext, Sg.get_ext0, List.getElem?_cons_succ, List.getElem?_cons_zero, get_extx hd, vcPV]
  refine W_ret ?_
  simp only [go_sem, Sg.get_ext, Sg.get_ext0, List.getElem?_cons_succ, List.getElem?_cons_zero, get_extx hd, vcPV]
  refine ⟨.inr (by trivial), ?_⟩
  first | refine Fsa hcl rfl ?_ | refine Fse hcl rfl ?_
  try simp only [go_sem]
  all_goals
   unfold freeT; rw [← hsA]
 -- next: one more
 obtain ⟨e, he, rfl, rfl⟩ := mapE_get hj0
 obtain ⟨⟨v1, v2, v3⟩, kz⟩ := e
 have hjl0 := (List.getElem?_eq_some_iff.1 he).1
 have hsn' := snoc_nodup hsn hns
 have hsl' := snoc_lt hsl2 hjl0
 have hln : (seen ++ [j0]).length = seen.length + 1 := by simp
 have hjl' := nodup_len hsn' hsl'
 have hsE := fun g => sumE_snoc (g := g) (js := seen) he
 have hbdE := fun g hg => sumE_bd (g := g) (m := t.m) hg seen
 have hb1 := hbdE gM gM_bd
 have hw1 : IntKind.i64.wrap (c.members - sumE gM t.m seen - 1) = c.members - sumE gM t.m seen - 1 := wrapI (by omega) (by omega)
 simp only [go_sem, Sg.get_ext, Sg.get_ext0, List.getElem?_cons_succ, List.getElem?_cons_zero, get_extx hd, vcPV]
 refine hR _ _ (K5 _ _ ?_); clear hR K
 try simp only [go_sem, Sg.get_ext, Sg.get_ext0, List.getElem?_cons_succ, List.getElem?_cons_zero, get_extx hd, vcPV]
 refine W_seq fun Z8 K8 => ?_
 refine W_cond_true rfl ?_
 refine W_skip (K8 _ _ ?_)
 refine W_block ?_
 refine W_sr [5, 6, 11] fun R hR => ?_
 simp only [go_sem, Sg.get_ext, Sg.get_ext0, List.getElem?_cons_succ, List.getElem?_cons_zero, get_extx hd, vcPV, entryPV, iterAt, mapE_len, List.getLast?_concat, mapE_at he]
 refine hR _ _ ?_; clear hR R
 try simp only [go_sem, Sg.get_ext, Sg.get_ext0, List.getElem?_cons_succ, List.getElem?_cons_zero, get_extx hd, vcPV]
 refine W_sr [5, 11, 18] fun R hR => ?_
 simp only [go_sem, Sg.get_ext, Sg.get_ext0, List.getElem?_cons_succ, List.getElem?_cons_zero, get_extx hd, vcPV]
 refine hR _ _ ?_; clear hR R
 try simp only [go_sem, Sg.get_ext, Sg.get_ext0, List.getElem?_cons_succ, List.getElem?_cons_zero, get_extx hd, vcPV]
 refine W_cond rfl (fun c1 => ?_) (fun c1 => ?_)
 ·
  try simp only [nrm] at c1
  have hg : gM (v1, v2, v3) = 1 := by simp [gM, c1]
  refine W_region [5, 11] fun R hR => ?_
  simp only [go_sem, Sg.get_ext, Sg.get_ext0, List.getElem?_cons_succ, List.getElem?_cons_zero, get_extx hd, vcPV, hw1]
  try simp (disch := omega) only [wrapI, wrapU]
  refine hR _ _ ?_; clear hR R
  try simp only [go_sem, Sg.get_ext, Sg.get_ext0, List.getElem?_cons_succ, List.getElem?_cons_zero, get_extx hd, vcPV]
  refine ⟨seen ++ [j0], ?_, by (try simp only []); omega, ?_⟩
  ·refine Weak.trans (Weak.keep [5, 11]) ?_
   simp only [go_sem]
   refine Weak.trans (Weak.cutX 3 0 (by omega) (by omega) hcl (by simp only [go_sem] <;> omega) (by simp only [go_sem] <;> omega)) ?_
   simp only [go_sem]
   exact Weak.eq (by rw [hsE, hg]; first | rfl | (simp only [Int.add_zero]) | (rw [show c.members - (sumE gM t.m seen + 1) = c.members - sumE gM t.m seen - 1 by omega])) rfl
  try dsimp only
  exact ⟨hsn', hsl'⟩
 try simp only [nrm] at c1
 have hg : gM (v1, v2, v3) = 0 := by simp [gM, c1]
 refine W_skip ?_
 simp only [go_sem, Sg.get_ext, Sg.get_ext0, List.getElem?_cons_succ, List.getElem?_cons_zero, get_extx hd, vcPV]
 refine ⟨seen ++ [j0], ?_, by (try simp only []); omega, ?_⟩
 ·refine Weak.trans (Weak.keep [5, 11]) ?_
  simp only [go_sem]
  refine Weak.trans (Weak.cutX 3 0 (by omega) (by omega) hcl (by simp only [go_sem] <;> omega) (by simp only [go_sem] <;> omega)) ?_
  simp only [go_sem]
  exact Weak.eq (by rw [hsE, hg]; first | rfl | (simp only [Int.add_zero]) | (rw [show c.members - (sumE gM t.m seen + 1) = c.members - sumE gM t.m seen - 1 by omega])) rfl
 try dsimp only
 exact ⟨hsn', hsl'⟩
set_option maxHeartbeats 4000000 in
theorem open_pc (Y : YEnv) (σ : Sg) (id : Nat) (t : Tally) (c : Contest) (hd : σ.store[id]? = some (some (.mark :: mapE vcPV I t.m))) (hm : t.m.length ≤ 300) (hV : CnV c) (s : Int) :
 PC Tryz.prog Y 77 [tlPV id t, cnPV c, I s] σ (I (openT t c s)) (σ) := by
 refine PC_of_W Tryz.func77 rfl (by kernel_rfl) Tryz.ntmps77 (by simp) fun hcl hca => ?_
 have hlt := lt_of_get hd
 have hVj := hV.jr
 have hVm := hV.mb
 have hVs := hV.ms
 refine W_sr [2, 3, 4] fun R hR => ?_
 simp only [go_sem, Sg.get_ext, Sg.get_ext0, List.getElem?_cons_succ, List.getElem?_cons_zero, get_extx hd, vcPV, tlPV]
 refine hR _ _ ?_; clear hR R
 try simp only [go_sem, Sg.get_ext, Sg.get_ext0, List.getElem?_cons_succ, List.getElem?_cons_zero, get_extx hd, vcPV]
 refine W_sr [2, 3, 4, 7] fun R hR => ?_
 simp only [go_sem, Sg.get_ext, Sg.get_ext0, List.getElem?_cons_succ, List.getElem?_cons_zero, get_extx hd, vcPV]
 refine hR _ _ ?_; clear hR R
 try simp only [go_sem, Sg.get_ext, Sg.get_ext0, List.getElem?_cons_succ, List.getElem?_cons_zero, get_extx hd, vcPV]
 refine W_seq fun Z3 K3 => ?_
 refine W_sr [2, 4, 7, 13] fun R hR => ?_
 simp only [go_sem, Sg.get_ext, Sg.get_ext0, List.getElem?_cons_succ, List.getElem?_cons_zero, get_extx hd, vcPV, tl_map]
 refine hR _ _ ?_; clear hR R
 try simp only [go_sem, Sg.get_ext, Sg.get_ext0, List.getElem?_cons_succ, List.getElem?_cons_zero, get_extx hd, vcPV]
 refine W_block ?_
 refine W_loopT (α := (List Nat)) (fun (seen : List Nat) => [(7, I (c.juries - sumE (gJ s) t.m seen))]) (fun (seen : List Nat) => σ.ext [some (tlCells id t), some (cnCells c), some [.itst id t.m.length seen]] []) (fun (seen : List Nat) => seen.Nodup ∧ ∀ j, j ∈ seen → j < t.m.length) (fun (seen : List Nat) => t.m.length - seen.length) ([]) (by simp only [sumE, List.map_nil, List.sum_nil, Int.sub_zero]; rfl) (by first | rfl | (simp only [go_sem]; done) | (simp only [go_sem]; rfl)) (⟨List.nodup_nil, fun j h => absurd h (by simp)⟩) ?_
 rintro seen ⟨hsn, hsl2⟩
 refine W_seq fun Z5 K5 => ?_
 refine W_next [2, 4, 7, 13, 15] (os := _) rfl rfl rfl (by decide) (it_at (Sg.get_ext ..) (get_extx hd) mapE_len) (fun K hR hall => ?_) (fun K hR j0 k0 u0 hj0 hns => ?_)
 · -- next: no more
  have hsA := sumE_all (g := gJ s) hsn hsl2 (by simpa [mapE_len] using hall)
  have hob := openT_bd hV hm s
  have hoe : openT t c s = (c.juries - sumE (gJ s) t.m seen) * c.most := by unfold openT; rw [← hsA]
  rw [hoe] at hob
  have hwo : IntKind.i64.wrap ((c.juries - sumE (gJ s) t.m seen) * c.most) = (c.juries - sumE (gJ s) t.m seen) * c.most := wrapI (by omega) (by omega)
  simp only [go_sem, Sg.get_ext, Sg.get_ext0, List.getElem?_cons_succ, List.getElem?_cons_zero, get_extx hd, vcPV]
  refine hR _ _ (K5 _ _ ?_); clear hR K
  try simp only [go_sem, Sg.get_ext, Sg.get_ext0, List.getElem?_cons_succ, List.getElem?_cons_zero, get_extx hd, vcPV]
  refine W_seq fun Z6 K6 => ?_
  refine W_cond_false rfl ?_
  refine W_exit ?_
  simp only [go_sem, Sg.get_ext, Sg.get_ext0, List.getElem?_cons_succ, List.getElem?_cons_zero, get_extx hd, vcPV]
  refine K3 _ _ ?_
  refine W_sr [6] fun R hR => ?_
  simp only [go_sem, Sg.get_ext, Sg.get_ext0, List.getElem?_cons_succ, List.getElem?_cons_zero, get_extx hd, vcPV, hwo]
  try simp (disch := omega) only [wrapI, wrapU]
  refine hR _ _ ?_; clear hR R
  try simp only [go_sem, Sg.get_ext, Sg.get_ext0, List.getElem?_cons_succ, List.getElem?_cons_zero, get_extx hd, vcPV]
  refine W_ret ?_
  simp only [go_sem, Sg.get_ext, Sg.get_ext0, List.getElem?_cons_succ, List.getElem?_cons_zero, get_extx hd, vcPV]
  refine ⟨.inr (by trivial), ?_⟩
  first | refine Fsa hcl rfl ?_ | refine Fse hcl rfl ?_
  try simp only [go_sem]
  all_goals
   rw [hoe]
 -- next: one more
 obtain ⟨e, he, rfl, rfl⟩ := mapE_get hj0
 obtain ⟨⟨v1, v2, v3⟩, kz⟩ := e
 have hjl0 := (List.getElem?_eq_some_iff.1 he).1
 have hsn' := snoc_nodup hsn hns
 have hsl' := snoc_lt hsl2 hjl0
 have hln : (seen ++ [j0]).length = seen.length + 1 := by simp
 have hjl' := nodup_len hsn' hsl'
 have hsE := fun g => sumE_snoc (g := g) (js := seen) he
 have hbdE := fun g hg => sumE_bd (g := g) (m := t.m) hg seen
 have hb1 := hbdE (gJ s) (gJ_bd s)
 have hw1 : IntKind.i64.wrap (c.juries - sumE (gJ s) t.m seen - 1) = c.juries - sumE (gJ s) t.m seen - 1 := wrapI (by omega) (by omega)
 simp only [go_sem, Sg.get_ext, Sg.get_ext0, List.getElem?_cons_succ, List.getElem?_cons_zero, get_extx hd, vcPV]
 refine hR _ _ (K5 _ _ ?_); clear hR K
 try simp only [go_sem, Sg.get_ext, Sg.get_ext0, List.getElem?_cons_succ, List.getElem?_cons_zero, get_extx hd, vcPV]
 refine W_seq fun Z8 K8 => ?_
 refine W_cond_true rfl ?_
 refine W_skip (K8 _ _ ?_)
 refine W_block ?_
 refine W_sr [2, 4, 7, 8, 13] fun R hR => ?_
 simp only [go_sem, Sg.get_ext, Sg.get_ext0, List.getElem?_cons_succ, List.getElem?_cons_zero, get_extx hd, vcPV, entryPV, iterAt, mapE_len, List.getLast?_concat, mapE_at he]
 refine hR _ _ ?_; clear hR R
 try simp only [go_sem, Sg.get_ext, Sg.get_ext0, List.getElem?_cons_succ, List.getElem?_cons_zero, get_extx hd, vcPV]
 refine W_seq fun Z10 K10 => ?_
 refine W_regionJ [2, 4, 7, 13, 26] [(26, .bool (decide (v1 = 1) && decide (v3 = s)))] ?_ fun R hR => ?_
 ·refine K10 _ _ ?_
  simp only [go_sem, Sg.get_ext, Sg.get_ext0, List.getElem?_cons_succ, List.getElem?_cons_zero, get_extx hd, vcPV]
  refine W_cond rfl (fun c1 => ?_) (fun c1 => ?_)
  ·
   try simp only [nrm] at c1
   have hg : gJ s (v1, v2, v3) = 1 := by simp at c1; simp [gJ, c1]
   refine W_region [2, 4, 7, 13] fun R hR => ?_
   simp only [go_sem, Sg.get_ext, Sg.get_ext0, List.getElem?_cons_succ, List.getElem?_cons_zero, get_extx hd, vcPV, hw1]
   try simp (disch := omega) only [wrapI, wrapU]
   refine hR _ _ ?_; clear hR R
   try simp only [go_sem, Sg.get_ext, Sg.get_ext0, List.getElem?_cons_succ, List.getElem?_cons_zero, get_extx hd, vcPV]
   refine ⟨seen ++ [j0], ?_, by (try simp only []); omega, ?_⟩
   ·refine Weak.trans (Weak.keep [2, 4, 7, 13]) ?_
    simp only [go_sem]
    refine Weak.trans (Weak.cutX 3 0 (by omega) (by omega) hcl (by simp only [go_sem] <;> omega) (by simp only [go_sem] <;> omega)) ?_
    simp only [go_sem]
    exact Weak.eq (by rw [hsE, hg]; first | rfl | (simp only [Int.add_zero]) | (rw [show c.juries - (sumE (gJ s) t.m seen + 1) = c.juries - sumE (gJ s) t.m seen - 1 by omega])) rfl
   try dsimp only
   exact ⟨hsn', hsl'⟩
  try simp only [nrm] at c1
  have hg : gJ s (v1, v2, v3) = 0 := by unfold gJ; rw [if_neg (by intro h; have h1 := h.1; have h2 := h.2; simp only at h1 h2; subst h1 h2; simp at c1)]
  refine W_skip ?_
  simp only [go_sem, Sg.get_ext, Sg.get_ext0, List.getElem?_cons_succ, List.getElem?_cons_zero, get_extx hd, vcPV]
  refine ⟨seen ++ [j0], ?_, by (try simp only []); omega, ?_⟩
  ·refine Weak.trans (Weak.keep [2, 4, 7, 13]) ?_
   simp only [go_sem]
   refine Weak.trans (Weak.cutX 3 0 (by omega) (by omega) hcl (by simp only [go_sem] <;> omega) (by simp only [go_sem] <;> omega)) ?_
   simp only [go_sem]
   exact Weak.eq (by rw [hsE, hg]; first | rfl | (simp only [Int.add_zero]) | (rw [show c.juries - (sumE (gJ s) t.m seen + 1) = c.juries - sumE (gJ s) t.m seen - 1 by omega])) rfl
  try dsimp only
  exact ⟨hsn', hsl'⟩
 simp only [go_sem, Sg.get_ext, Sg.get_ext0, List.getElem?_cons_succ, List.getElem?_cons_zero, get_extx hd, vcPV]
 refine GWant_split (fun g1 => ?_) (fun g1 => ?_)
 ·try simp only [Bool.not_eq_true', Bool.not_eq_false'] at g1
  have n1 := g1; try simp only [nrm] at n1
  simp only [go_sem, Sg.get_ext, Sg.get_ext0, List.getElem?_cons_succ, List.getElem?_cons_zero, get_extx hd, vcPV, g1]
  refine hR _ ?_
  all_goals try simp only [go_sem, Sg.get_ext, Sg.get_ext0, List.getElem?_cons_succ, List.getElem?_cons_zero, get_extx hd, vcPV]
  all_goals
   first | rfl | (simp [*]; done) | (simp [*]; rfl) | (simp_all; done)
 try simp only [Bool.not_eq_true', Bool.not_eq_false'] at g1
 have n1 := g1; try simp only [nrm] at n1
 simp only [go_sem, Sg.get_ext, Sg.get_ext0, List.getElem?_cons_succ, List.getElem?_cons_zero, get_extx hd, vcPV, g1]
 refine hR _ ?_
 all_goals try simp only [go_sem, Sg.get_ext, Sg.get_ext0, List.getElem?_cons_succ, List.getElem?_cons_zero, get_extx hd, vcPV]
 all_goals
  first | rfl | (simp [*]; done) | (simp [*]; rfl) | (simp_all; done)
/-- How many of some songs are ahead of a standing. -/
def cntA (t : Tally) (own : Std) (s : Int) : List Int → Int
 | [] => 0
 | x :: l => (if x ≠ s ∧ aheadS (stdT t x 0 0) own < 0 then 1 else 0) + cntA t own s l
theorem cntA_snoc (t : Tally) (own : Std) (s x : Int) : ∀ l : List Int, cntA t own s (l ++ [x]) = cntA t own s l + (if x ≠ s ∧ aheadS (stdT t x 0 0) own < 0 then 1 else 0) := by
 intro l
 induction l with
 | nil => simp [cntA]
 | cons y l ih => simp only [List.cons_append, cntA, ih]; omega
theorem cntA_bd (t : Tally) (own : Std) (s : Int) : ∀ l : List Int, 0 ≤ cntA t own s l ∧ cntA t own s l ≤ l.length := by
 intro l
 induction l with
 | nil => simp [cntA]
 | cons y l ih =>
  simp only [cntA, List.length_cons, show ((l.length + 1 : Nat) : Int) = l.length + 1 by omega]
  split <;> omega
/-- May a song be kept, with so many more votes? -/
def mayT (t : Tally) (c : Contest) (s v : Int) : Bool := decide (cntA t (stdT t s (openT t c s) v) s t.songs < t.rd.keep)
set_option maxHeartbeats 2000000 in
theorem others_pc (Y : YEnv) (σ : Sg) (id : Nat) (t : Tally) (s : Int) :
 PC Tryz.prog Y 76 [tlPV id t, I s] σ (.func (.func 92) [] [.ptr σ.store.length 0, .ptr (σ.store.length + 1) 0]) (σ.ext [some (tlCells id t), some [I s]] []) := by
 refine PC_of_W Tryz.func76 rfl (by kernel_rfl) Tryz.ntmps76 (by simp) fun hcl hca => ?_
 have hid : id < σ.store.length := C_tl.mp (hca (tlPV id t) (by simp))
 refine W_sr [2, 3] fun R hR => ?_
 simp only [go_sem, tlPV]
 refine hR _ _ ?_; clear hR R
 try simp only [go_sem]
 refine W_sr [4] fun R hR => ?_
 simp only [go_sem]
 refine hR _ _ ?_; clear hR R
 try simp only [go_sem]
 refine W_ret ?_
 simp only [go_sem]
 refine ⟨.inr (by trivial), ?_⟩
 refine Fin_ext (l := [_, _]) (rm := []) 2 0 hcl rfl (Wk_eq rfl ?_) ?_
 ·simp only [go_sem] <;> omega
 ·show CleanLs _ _ _ _
  simp only [go_sem] <;> omega
 try simp only [go_sem]
 all_goals
  skip
set_option maxHeartbeats 2000000 in
theorem others1_pc (Y : YEnv) (σ : Sg) (y i1 i2 id : Nat) (t : Tally) (s : Int) (hsl : t.songs.length ≤ 8) (τ : Nat → Sg)
 (hst : ∀ k, k ≤ t.songs.length → (τ k).store[i1]? = some (some (tlCells id t))) (hst2 : ∀ k, k ≤ t.songs.length → (τ k).store[i2]? = some (some [I s]))
 (hY : ∀ k x, t.songs[k]? = some x → x ≠ s → Y y [I x] (τ k) true (τ (k + 1))) (hS : ∀ k, t.songs[k]? = some s → τ k = τ (k + 1))
 (hlen : (τ 0).store.length ≤ (τ t.songs.length).store.length) (hr : (τ 0).rooms.length ≤ (τ t.songs.length).rooms.length) (hy : (τ t.songs.length).ys.length = (τ 0).ys.length) (hcl' : CleanSg (τ 0) → CleanSg (τ t.songs.length)) :
 PC Tryz.prog Y 92 [.yield y, .ptr i1 0, .ptr i2 0] (τ 0) (.tuple []) (τ t.songs.length) := by
 refine PC_of_W Tryz.func92 rfl (by kernel_rfl) Tryz.ntmps92 (by simp) fun hcl hca => ?_
 have hs00 := hst 0 (Nat.zero_le _)
 refine W_sr [0, 2, 7, 8, 9] fun R hR => ?_
 simp only [go_sem, ldS_at hs00, tl_songs]
 refine hR _ _ ?_; clear hR R
 try simp only [go_sem]
 refine W_block ?_
 refine W_loopT (α := Nat) (fun (k : Nat) => [(9, I k)]) (fun (k : Nat) => τ k) (fun (k : Nat) => k ≤ t.songs.length) (fun (k : Nat) => t.songs.length - k) (0) rfl (by first | rfl | (simp only [go_sem]; done) | (simp only [go_sem]; rfl)) (Nat.zero_le _) ?_
 rintro k hk
 refine W_sr [0, 2, 7, 8, 9, 10] fun R hR => ?_
 simp only [go_sem]
 refine hR _ _ ?_; clear hR R
 try simp only [go_sem]
 refine W_seq fun Z3 K3 => ?_
 refine W_cond rfl (fun c1 => ?_) (fun c1 => ?_)
 ·
  try simp only [nrm] at c1
  have hk' : k < t.songs.length := by first | omega | (simp at c1; omega)
  have hs2 := hst2 k (by omega)
  obtain ⟨x, hx⟩ : ∃ z, t.songs[k]? = some z := ⟨t.songs[k]'(by omega), by simp⟩
  refine W_skip (K3 _ _ ?_)
  refine W_seq fun Z4 K4 => ?_
  refine W_block ?_
  refine W_sr [0, 2, 5, 7, 8, 9] fun R hR => ?_
  simp only [go_sem, hx]
  refine hR _ _ ?_; clear hR R
  try simp only [go_sem, hx]
  refine W_sr [0, 2, 7, 8, 9, 21] fun R hR => ?_
  simp only [go_sem, hx, ldS_at hs2]
  refine GWant_split (fun g1 => ?_) (fun g1 => ?_)
  ·try simp only [Bool.not_eq_true', Bool.not_eq_false'] at g1
   have n1 := g1; try simp only [nrm] at n1
   have hne : x ≠ s := by simpa using g1
   simp only [go_sem, hx, ldS_at hs2, g1]
   refine GYield_of (hY k x hx hne) ?_
   simp only [go_sem, hx, ldS_at hs2, g1]
   refine hR _ _ ?_; clear hR R
   try simp only [go_sem, hx]
   refine W_cond_false rfl ?_
   refine W_skip (K4 _ _ ?_)
   refine W_region [0, 2, 7, 8, 9] fun R hR => ?_
   simp only [go_sem, hx]
   try simp (disch := omega) only [wrapI, wrapU]
   refine hR _ _ ?_; clear hR R
   try simp only [go_sem, hx]
   refine ⟨k + 1, ?_, by (try simp only []); omega, ?_⟩
   ·first | exact Weak.refl | exact Weak.eq rfl (hS k hx) | exact Weak.eq rfl rfl
   try dsimp only
   omega
  try simp only [Bool.not_eq_true', Bool.not_eq_false'] at g1
  have n1 := g1; try simp only [nrm] at n1
  have hse : x = s := by simpa using g1
  subst hse
  simp only [go_sem, hx, ldS_at hs2, g1]
  refine hR _ _ ?_; clear hR R
  try simp only [go_sem, hx]
  refine W_cond_false rfl ?_
  refine W_skip (K4 _ _ ?_)
  refine W_region [0, 2, 7, 8, 9] fun R hR => ?_
  simp only [go_sem, hx]
  try simp (disch := omega) only [wrapI, wrapU]
  refine hR _ _ ?_; clear hR R
  try simp only [go_sem, hx]
  refine ⟨k + 1, ?_, by (try simp only []); omega, ?_⟩
  ·first | exact Weak.refl | exact Weak.eq rfl (hS k hx) | exact Weak.eq rfl rfl
  try dsimp only
  omega
 try simp only [nrm] at c1
 have hke : k = t.songs.length := by first | omega | (simp at c1; omega)
 subst hke
 refine W_exit ?_
 simp only [go_sem]
 try simp only [go_sem]
 refine ⟨.inl (by trivial), ?_⟩
 exact Fin_more (rs := []) (hcl' hcl) hlen hr hy rfl (Wk.of_clean (.tuple _ Clean.all_nil))
 try simp only [go_sem]
 all_goals
  skip
set_option maxHeartbeats 8000000 in
theorem may_pc (Y : YEnv) (σ : Sg) (id : Nat) (t : Tally) (c : Contest) (hd : σ.store[id]? = some (some (.mark :: mapE vcPV I t.m))) (hm : t.m.length ≤ 300) (hV : CnV c) (hT : TlB t) (sn : Nat) (hs : sn < 8) (v : Int) (hv : -2 ^ 20 ≤ v ∧ v ≤ 2 ^ 20) :
 PC Tryz.prog Y 42 [tlPV id t, cnPV c, I sn, I v] σ (.bool (mayT t c sn v)) (σ) := by
 refine PC_of_W Tryz.func42 rfl (by kernel_rfl) Tryz.ntmps42 (by simp) fun hcl hca => ?_
 have hid : id < σ.store.length := lt_of_get hd
 have hob := openT_bd hV hm sn
 have hsl := hT.sl
 obtain ⟨own, hown⟩ : ∃ z, stdT t sn (openT t c sn) v = z := ⟨_, rfl⟩
 have hcb := cntA_bd t own sn
 refine W_sr [2, 3, 4, 5] fun R hR => ?_
 simp only [go_sem, tl_keep, tlPV]
 refine hR _ _ ?_; clear hR R
 try simp only [go_sem, tl_keep]
 refine W_seq fun Z2 K2 => ?_
 refine W_draw [2, 4, 9] [0, 1, 2, 3, 4, 5, 6, 7, 8, 9] [(0, 7), (1, 7), (6, 5)] [[], [], [], [], [], [2, 3, 4], [], [0, 1, 2, 3, 4, 5, 6], [], [0, 1, 2, 3, 4, 5, 6, 7, 8]] mixed (by kernel_rfl) fun R hR => ?_
 simp only [go_sem, tl_keep, tlPV, tl_len, tl_take21]
 refine GCall_of (open_pc Y _ id t c (get_extx hd) hm hV sn) ?_
 simp only [go_sem, tl_keep, tlPV, tl_len, tl_take21]
 refine GCall_of (PC.val (v' := sdPV own) (standing_pc Y _ id t hT sn hs (openT t c sn) v hob hv) (by rw [hown])) ?_
 simp only [go_sem, tl_keep, tlPV, tl_len, tl_take21]
 try refine And.intro (by repeat' (first | refine And.intro ?_ ?_ | exact GOr_right (fun _ => by simp only [go_sem, tl_keep, tlPV, tl_len, tl_take21]))) ?_
 refine hR _ _ (K2 _ _ ?_); clear hR R; try clear K2 Z2
 try simp only [go_sem, tl_keep]
 refine W_sr [2, 4, 9, 10] fun R hR => ?_
 simp only [go_sem, tl_keep]
 refine hR _ _ ?_; clear hR R
 try simp only [go_sem, tl_keep]
 refine W_seq fun Z4 K4 => ?_
 refine W_sr [4, 9, 10, 22] fun R hR => ?_
 simp only [go_sem, tl_keep, tlPV, tl_len, tl_take21]
 refine GCall_of (others_pc Y _ id t sn) ?_
 simp only [go_sem, tl_keep, tlPV, tl_len, tl_take21]
 refine hR _ _ ?_; clear hR R
 try simp only [go_sem, tl_keep]
 refine W_block ?_
 let L : List Int → List (Option (List PV)) := fun p => [some (tlCells id t), some (cnCells c), some (sdCells own), some [I (cntA t own sn p)], some (tlCells id t), some [I sn]]
 let so : Nat → Sg := fun k => σ.ext (L (t.songs.take k)) [] [.ready]
 refine W_rangeFunc (gf := 92) (v := .tuple []) (s := .ready) (σ5 := so t.songs.length) rfl (by simp) (fun args τ b' τ' => ∃ k x, t.songs[k]? = some x ∧ x ≠ (sn : Int) ∧ args = [I x] ∧ b' = true ∧ τ = so k ∧ τ' = so (k + 1)) ?_ ?_ ?_ ?_ ?_
 ·rintro args τ b τ' ⟨k, x, hx, hne, rfl, rfl, rfl, rfl⟩
  refine ⟨rfl, ?_, ?_⟩
  ·simp only [so, go_sem]
  simp only [so, L, go_sem]
  refine W_region [4, 9, 10, 11] fun R hR => ?_
  simp only [go_sem, tl_keep, putAll]
  refine hR _ _ ?_; clear hR R
  try simp only [go_sem, tl_keep, putAll]
  have hk' : k < t.songs.length := (List.getElem?_eq_some_iff.1 hx).1
  have hxb := hT.sg x (List.mem_of_getElem? hx)
  obtain ⟨xn, hxn⟩ : ∃ z : Nat, x = z := ⟨x.toNat, by omega⟩
  subst hxn
  have hx8 : xn < 8 := by omega
  have hsn : t.songs.take (k + 1) = t.songs.take k ++ [(xn : Int)] := by rw [List.take_add_one, hx]; rfl
  have hcn := cntA_snoc t own sn xn (t.songs.take k)
  rw [← hsn] at hcn
  have hqb := hcb (t.songs.take k)
  have htl : (t.songs.take k).length = k := by rw [List.length_take]; omega
  obtain ⟨q, hq⟩ : ∃ z, cntA t own sn (t.songs.take k) = z := ⟨_, rfl⟩
  rw [hq] at hcn hqb
  simp only [hq]
  have hwq : IntKind.i64.wrap (q + 1) = q + 1 := wrapI (by omega) (by omega)
  refine W_post_weak ?_
  refine W_block ?_
  refine W_seq fun Z6 K6 => ?_
  refine W_draw [10, 29] [0, 1, 2, 3, 4, 5] [(3, 2)] [[], [], [0, 1], [], [0, 1, 2, 3], [0, 1, 2, 3, 4]] mixed (by kernel_rfl) fun R hR => ?_
  simp only [go_sem, tl_keep, putAll, tlPV, tl_len, tl_take21]
  refine GCall_of (standing_pc Y _ id t hT xn hx8 0 0 (by omega) (by omega)) ?_
  simp only [go_sem, tl_keep, putAll, tlPV, tl_len, tl_take21]
  refine GCall_of (ahead_pc Y _ (stdT t xn 0 0) own) ?_
  simp only [go_sem, tl_keep, putAll, tlPV, tl_len, tl_take21]
  try refine And.intro (by repeat' (first | refine And.intro ?_ ?_ | exact GOr_right (fun _ => by simp only [go_sem, tl_keep, putAll, tlPV, tl_len, tl_take21]))) ?_
  refine hR _ _ (K6 _ _ ?_); clear hR R; try clear K6 Z6
  try simp only [go_sem, tl_keep, putAll]
  refine W_cond rfl (fun c1 => ?_) (fun c1 => ?_)
  ·
   try simp only [nrm] at c1
   refine W_region [] fun R hR => ?_
   simp only [go_sem, tl_keep, putAll, hwq]
   try simp (disch := omega) only [wrapI, wrapU]
   refine hR _ _ ?_; clear hR R
   try simp only [go_sem, tl_keep, putAll]
   rw [if_pos ⟨hne, c1⟩] at hcn
   refine ⟨[], _, Weak.keep [], ?_⟩
   simp only [RoundEnd, so, L, hcn, go_sem]
  try simp only [nrm] at c1
  refine W_skip ?_
  simp only [go_sem, tl_keep, putAll]
  rw [if_neg (by intro h; exact c1 h.2), Int.add_zero] at hcn
  refine ⟨[], _, Weak.keep [], ?_⟩
  simp only [RoundEnd, so, L, hcn, go_sem]
 ·have hst := others1_pc (Y.at σ.ys.length (fun args τ b' τ' => ∃ k x, t.songs[k]? = some x ∧ x ≠ (sn : Int) ∧ args = [I x] ∧ b' = true ∧ τ = so k ∧ τ' = so (k + 1))) σ σ.ys.length (σ.store.length + 4) (σ.store.length + 5) id t sn hT.sl so
   (fun k _ => by simp only [so, L]; exact Sg.get_ext ..) (fun k _ => by simp only [so, L]; exact Sg.get_ext ..)
   (fun k x h1 h2 => by rw [YEnv.at_self]; exact ⟨k, x, h1, h2, rfl, rfl, rfl, rfl⟩)
   (fun k h1 => by simp only [so, L]; rw [List.take_add_one, h1, Option.toList_some, cntA_snoc, if_neg (by simp), Int.add_zero])
   (by simp only [so, L, go_sem] <;> omega) (by simp only [so, L, go_sem] <;> omega) (by simp only [so, L, go_sem])
   (fun _ => CleanSg_ext hcl (by show CleanLs _ _ _ _; simp only [L, go_sem] <;> omega))
  simp only [so, L, List.take_zero, cntA, go_sem] at hst ⊢
  exact hst
 ·simp only [so, L, go_sem]
 ·simp only [go_sem]
  exact CleanCut_ext hcl (by simp only [so, L, go_sem] <;> omega) (by simp only [so, L, go_sem, Nat.le_add_right]) (by omega) (by show CleanLs _ _ _ _; simp only [so, L, go_sem] <;> omega)
 simp only [AfterLoop, so, L, go_sem]
 simp only [List.take_length]
 refine K4 _ _ ?_
 refine W_sr [8] fun R hR => ?_
 simp only [go_sem, tl_keep]
 refine hR _ _ ?_; clear hR R
 try simp only [go_sem, tl_keep]
 refine W_ret ?_
 simp only [go_sem, tl_keep]
 refine ⟨.inr (by trivial), ?_⟩
 first | refine Fsa hcl rfl ?_ | refine Fse hcl rfl ?_
 try simp only [go_sem]
 all_goals
  simp only [mayT, hown]
theorem Weak.readJ {σ : Sg} {A : List (Option (List PV))} {rm : List Nat} {ys : List LState} {N : Nat} {lo : Nat × Nat} {E : Env} {out : List Int} {j : Nat} (hj : A[j]? = some (some [glI (σ.store.length + A.length) out])) :
 Weak N lo E (σ.ext (A ++ gsI out) rm ys) E (σ.ext (A.set j (some [.isl (out.map I) .ro]) ++ List.replicate out.length none) rm ys) := by
 have hlt := (List.getElem?_eq_some_iff.1 hj).1
 cases out with
 | nil =>
  have h := Weak.ungnilX (N := N) (lo := lo) (E := E) (σ := σ) (l := A) (rm := rm) (ys := ys) (j := j) (off := 0) hj rfl
  simpa [gsI] using h
 | cons x out =>
  have hlen : A.length + out.length = (A ++ List.replicate out.length (none : Option (List PV))).length := by simp
  have h := Weak.freezeX (N := N) (lo := lo) (E := E) (σ := σ) (l := A ++ gsI (x :: out)) (rm := rm) (ys := ys) (j := j) (k := A.length + out.length) (off := 0) (ccs := [glI (σ.store.length + A.length) (x :: out)]) (len := (x :: out).length) (es := 1) (rest := []) (m := (x :: out).map I) (by omega) (by rw [List.getElem?_append_left hlt]; exact hj) (by simp only [glI, Nat.add_assoc]; rfl)
   (by rw [rowC_ints, List.append_nil]; exact gsI_get) (by simp) (fun q hq => by obtain ⟨y, _, rfl⟩ := List.mem_map.1 hq; rfl)
  have e : ((A ++ gsI (x :: out)).set (A.length + out.length) none).set j (some ([glI (σ.store.length + A.length) (x :: out)].set 0 (.isl ((x :: out).map I) .ro))) = A.set j (some [.isl ((x :: out).map I) .ro]) ++ List.replicate (x :: out).length none := by
   rw [gsI_set, List.set_append_left _ _ hlt]
   simp [List.replicate_succ']
  rw [e] at h
  exact h
theorem len_glI {n : Nat} {out : List Int} : lenPV Tryz.prog 42 (glI n out) = some (.int .i64 out.length) := by
 cases out with
 | nil => exact lenn42
 | cons x out => exact leng42
/-- The first number that something is true of. -/
def findV (p : Nat → Bool) : Nat → Nat → Option Nat
 | 0, _ => none
 | k + 1, i => if p i then some i else findV p k (i + 1)
theorem findV_lt {p : Nat → Bool} : ∀ {k i v : Nat}, findV p k i = some v → i ≤ v ∧ v < i + k ∧ p v = true := by
 intro k
 induction k with
 | zero => intro i v h; cases h
 | succ k ih =>
  intro i v h
  simp only [findV] at h
  split at h
  ·injection h with h; subst h; exact ⟨Nat.le_refl _, by omega, by assumption⟩
  have := ih h; exact ⟨by omega, by omega, this.2.2⟩
/-- Is a song ahead with all points that it may get, and so many votes? -/
def aheadV (t : Tally) (c : Contest) (own : Std) (x : Int) (v : Nat) : Bool := decide (aheadS (stdT t x (openT t c x) v) own < 0)
/-- The votes that a song needs to come ahead of a standing, if there are enough. -/
def needOne (t : Tally) (c : Contest) (own : Std) (s fr x : Int) : List Int := if x = s then [] else match findV (aheadV t c own x) (fr + 1).toNat 0 with
 | some v => [(v : Int)]
 | none => []
theorem needOne_len (t : Tally) (c : Contest) (own : Std) (s fr x : Int) : (needOne t c own s fr x).length ≤ 1 := by
 unfold needOne
 split
 ·simp
 split <;> simp
theorem needOne_bd {t : Tally} {c : Contest} {own : Std} {s fr x y : Int} (h : y ∈ needOne t c own s fr x) : 0 ≤ y ∧ y ≤ fr := by
 unfold needOne at h
 split at h
 ·cases h
 split at h
 ·rename_i v hv
  simp only [List.mem_singleton] at h
  have := findV_lt hv
  omega
 cases h
def needsT (t : Tally) (c : Contest) (own : Std) (s fr : Int) (l : List Int) : List Int := l.flatMap (needOne t c own s fr)
theorem needsT_snoc (t : Tally) (c : Contest) (own : Std) (s fr x : Int) (l : List Int) : needsT t c own s fr (l ++ [x]) = needsT t c own s fr l ++ needOne t c own s fr x := by simp [needsT]
theorem needsT_len (t : Tally) (c : Contest) (own : Std) (s fr : Int) : ∀ l : List Int, (needsT t c own s fr l).length ≤ l.length := by
 intro l
 induction l with
 | nil => simp [needsT]
 | cons x l ih =>
  have := needOne_len t c own s fr x
  simp only [needsT, List.flatMap_cons, List.length_append, List.length_cons] at ih ⊢
  omega
theorem needsT_bd {t : Tally} {c : Contest} {own : Std} {s fr y : Int} {l : List Int} (h : y ∈ needsT t c own s fr l) : 0 ≤ y ∧ y ≤ fr := by
 obtain ⟨x, _, hx⟩ := List.mem_flatMap.1 h
 exact needOne_bd hx
/-- Is a song kept whatever happens? -/
def mustT (t : Tally) (c : Contest) (s : Int) : Bool :=
 let nd := needsT t c (stdT t s 0 0) s (freeT t c) t.songs
 if (nd.length : Int) < t.rd.keep then true else decide (freeT t c < ((sortI nd).take t.rd.keep.toNat).sum)
set_option maxHeartbeats 16000000 in
theorem must_pc (Y : YEnv) (σ : Sg) (id : Nat) (t : Tally) (c : Contest) (hd : σ.store[id]? = some (some (.mark :: mapE vcPV I t.m))) (hm : t.m.length ≤ 300) (hV : CnV c) (hT : TlB t) (sn : Nat) (hs : sn < 8) :
 PC Tryz.prog Y 41 [tlPV id t, cnPV c, I sn] σ (.bool (mustT t c sn)) (σ) := by
 refine PC_of_W Tryz.func41 rfl (by kernel_rfl) Tryz.ntmps41 (by simp) fun hcl hca => ?_
 have hid : id < σ.store.length := lt_of_get hd
 have hsl := hT.sl
 have hkp := hT.kp
 obtain ⟨kn, hkn⟩ : ∃ z : Nat, t.rd.keep = z := ⟨t.rd.keep.toNat, by omega⟩
 obtain ⟨own, hown⟩ : ∃ z, stdT t sn 0 0 = z := ⟨_, rfl⟩
 have hfb := freeT_bd hV hm
 obtain ⟨fr, hfr⟩ : ∃ z, freeT t c = z := ⟨_, rfl⟩
 rw [hfr] at hfb
 have hfw : IntKind.i64.wrap (fr + 1) = fr + 1 := wrapI (by omega) (by omega)
 have hmust : mustT t c sn = if ((needsT t c own sn fr t.songs).length : Int) < t.rd.keep then true else decide (fr < ((sortI (needsT t c own sn fr t.songs)).take t.rd.keep.toNat).sum) := by unfold mustT; rw [hown, hfr]
 have hndl := needsT_len t c own sn fr
 refine W_sr [2, 3, 4] fun R hR => ?_
 simp only [go_sem, tl_keep, tlPV]
 refine hR _ _ ?_; clear hR R
 try simp only [go_sem, tl_keep]
 refine W_seq fun Z2 K2 => ?_
 refine W_draw [2, 3, 4, 7, 8] [0, 1, 2, 3, 4, 5, 6, 7, 8, 9] [(3, 2), (4, 2)] [[], [], [0, 1], [], [], [0, 1, 2, 3, 4], [], [], [0, 1, 2, 3, 4, 5, 6, 7], [0, 1, 2, 3, 4, 5, 6, 7, 8]] mixed (by kernel_rfl) fun R hR => ?_
 simp only [go_sem, tl_keep, tlPV, tl_len, tl_take21]
 refine GCall_of (PC.val (v' := sdPV own) (standing_pc Y _ id t hT sn hs 0 0 (by omega) (by omega)) (by rw [hown])) ?_
 simp only [go_sem, tl_keep, tlPV, tl_len, tl_take21]
 refine GCall_of (PC.val (v' := I fr) (free_pc Y _ id t c (get_extx hd) hm hV) (by rw [hfr])) ?_
 simp only [go_sem, tl_keep, tlPV, tl_len, tl_take21]
 try refine And.intro (by repeat' (first | refine And.intro ?_ ?_ | exact GOr_right (fun _ => by simp only [go_sem, tl_keep, tlPV, tl_len, tl_take21]))) ?_
 refine hR _ _ (K2 _ _ ?_); clear hR R; try clear K2 Z2
 try simp only [go_sem, tl_keep]
 refine W_sr [2, 3, 4, 7, 8, 9] fun R hR => ?_
 simp only [go_sem, tl_keep]
 refine hR _ _ ?_; clear hR R
 try simp only [go_sem, tl_keep]
 refine W_seq fun Z4 K4 => ?_
 refine W_sr [3, 4, 7, 8, 9, 23] fun R hR => ?_
 simp only [go_sem, tl_keep, tlPV, tl_len, tl_take21]
 refine GCall_of (others_pc Y _ id t sn) ?_
 simp only [go_sem, tl_keep, tlPV, tl_len, tl_take21]
 refine hR _ _ ?_; clear hR R
 try simp only [go_sem, tl_keep]
 refine W_block ?_
 let nd : Nat → List Int := fun k => needsT t c own sn fr (t.songs.take k)
 let L : List Int → List (Option (List PV)) := fun p => [some (tlCells id t), some (cnCells c), some (sdCells own), some [I fr], some [glI (σ.store.length + 7) p], some (tlCells id t), some [I sn]] ++ gsI p
 let so : Nat → Sg := fun k => σ.ext (L (nd k)) [] [.ready]
 have hLc : ∀ p (n r y : Nat), σ.store.length + 7 + p.length ≤ n → CleanLs n r y (L p) := fun p n r y h1 => by
  refine CleanLs_append ?_ (gsI_clean _)
  have := glI_clean (a := n) (b := r) (c := y) h1
  simp only [go_sem, this]
  omega
 refine W_weak (Weak.gnilX (j := 4) (off := 0) rfl rfl) ?_
 simp only [go_sem]
 refine W_rangeFunc (gf := 92) (v := .tuple []) (s := .ready) (σ5 := so t.songs.length) rfl (by simp) (fun args τ b' τ' => ∃ k x, t.songs[k]? = some x ∧ x ≠ (sn : Int) ∧ args = [I x] ∧ b' = true ∧ τ = so k ∧ τ' = so (k + 1)) ?_ ?_ ?_ ?_ ?_
 ·rintro args τ b τ' ⟨k, x, hx, hne, rfl, rfl, rfl, rfl⟩
  refine ⟨rfl, ?_, ?_⟩
  ·simp only [so, go_sem]
  simp only [so, L, go_sem]
  refine W_region [3, 4, 7, 8, 9, 10] fun R hR => ?_
  simp only [go_sem, tl_keep, putAll]
  refine hR _ _ ?_; clear hR R
  try simp only [go_sem, tl_keep, putAll]
  have hk' : k < t.songs.length := (List.getElem?_eq_some_iff.1 hx).1
  have hxb := hT.sg x (List.mem_of_getElem? hx)
  obtain ⟨xn, hxn⟩ : ∃ z : Nat, x = z := ⟨x.toNat, by omega⟩
  subst hxn
  have hx8 : xn < 8 := by omega
  have hsn : t.songs.take (k + 1) = t.songs.take k ++ [(xn : Int)] := by rw [List.take_add_one, hx]; rfl
  have hcn := needsT_snoc t c own sn fr xn (t.songs.take k)
  rw [← hsn] at hcn
  have hqb := hndl (t.songs.take k)
  have htl : (t.songs.take k).length = k := by rw [List.length_take]; omega
  obtain ⟨out, hout⟩ : ∃ z, needsT t c own sn fr (t.songs.take k) = z := ⟨_, rfl⟩
  rw [hout] at hcn hqb
  simp only [nd, hout]
  have hone : needOne t c own sn fr xn = match findV (aheadV t c own xn) (fr + 1).toNat 0 with | some v => [(v : Int)] | none => [] := by unfold needOne; rw [if_neg hne]
  refine W_post_weak ?_
  refine W_block ?_
  refine W_sr [3, 4, 7, 9, 10, 26, 27] fun R hR => ?_
  simp only [go_sem, tl_keep, putAll, hfw]
  try simp (disch := omega) only [wrapI, wrapU]
  refine hR _ _ ?_; clear hR R
  try simp only [go_sem, tl_keep, putAll]
  refine W_block ?_
  refine W_loopS (α := Nat) (fun (j : Nat) => [(27, I j)]) (fun (j : Nat) => j ≤ (fr + 1).toNat ∧ findV (aheadV t c own xn) (fr + 1).toNat 0 = findV (aheadV t c own xn) ((fr + 1).toNat - j) j) (fun (j : Nat) => (fr + 1).toNat - j) (0) rfl (⟨Nat.zero_le _, rfl⟩) ?_
  rintro j ⟨hj, hfv⟩
  refine W_sr [3, 4, 7, 9, 10, 26, 27, 28] fun R hR => ?_
  simp only [go_sem, tl_keep, putAll]
  refine hR _ _ ?_; clear hR R
  try simp only [go_sem, tl_keep, putAll]
  refine W_seq fun Z8 K8 => ?_
  refine W_cond rfl (fun c1 => ?_) (fun c1 => ?_)
  ·
   try simp only [nrm] at c1
   have hj2 : (j : Int) < fr + 1 := by first | exact c1 | (simp at c1; omega)
   rw [show (fr + 1).toNat - j = ((fr + 1).toNat - (j + 1)) + 1 by omega] at hfv
   simp only [findV] at hfv
   have happ := appG_gl (σ := σ) (A := [some (tlCells id t), some (cnCells c), some (sdCells own), some [I fr], some [glI (σ.store.length + 7) out], some (tlCells id t), some [I sn]]) (rm := []) (ys := [.busy]) (out := out) j (by omega)
   simp only [go_sem, List.length_cons, List.length_nil] at happ
   refine W_skip (K8 _ _ ?_)
   refine W_seq fun Z9 K9 => ?_
   refine W_block ?_
   refine W_sr [3, 4, 7, 9, 10, 11, 26, 27] fun R hR => ?_
   simp only [go_sem, tl_keep, putAll]
   refine hR _ _ ?_; clear hR R
   try simp only [go_sem, tl_keep, putAll]
   refine W_seq fun Z11 K11 => ?_
   refine W_draw [3, 4, 7, 9, 10, 11, 26, 27, 40] [0, 1, 2, 3, 4, 5, 6, 7, 8, 9, 10] [(0, 7), (1, 7), (6, 5), (8, 5), (8, 7)] [[], [], [], [], [], [2, 3, 4], [], [0, 1, 2, 3, 4, 5, 6], [], [0, 1, 2, 3, 4, 5, 6, 7, 8], [0, 1, 2, 3, 4, 5, 6, 7, 8, 9]] mixed (by kernel_rfl) fun R hR => ?_
   simp only [go_sem, tl_keep, putAll, tlPV, tl_len, tl_take21]
   refine GCall_of (open_pc Y _ id t c (get_extx hd) hm hV xn) ?_
   simp only [go_sem, tl_keep, putAll, tlPV, tl_len, tl_take21]
   refine GCall_of (standing_pc Y _ id t hT xn hx8 (openT t c xn) j (openT_bd hV hm xn) (by omega)) ?_
   simp only [go_sem, tl_keep, putAll, tlPV, tl_len, tl_take21]
   refine GCall_of (ahead_pc Y _ (stdT t xn (openT t c xn) j) own) ?_
   simp only [go_sem, tl_keep, putAll, tlPV, tl_len, tl_take21]
   try refine And.intro (by repeat' (first | refine And.intro ?_ ?_ | exact GOr_right (fun _ => by simp only [go_sem, tl_keep, putAll, tlPV, tl_len, tl_take21]))) ?_
   refine hR _ _ (K11 _ _ ?_); clear hR R; try clear K11 Z11
   try simp only [go_sem, tl_keep, putAll]
   refine W_cond rfl (fun c2 => ?_) (fun c2 => ?_)
   ·
    try simp only [nrm] at c2
    have hpj : aheadV t c own xn j = true := by unfold aheadV; simpa using c2
    rw [hpj, if_pos rfl] at hfv
    refine W_sr [] fun R hR => ?_
    simp only [go_sem, tl_keep, putAll, happ]
    try simp (disch := first | omega | (simp only [go_sem] <;> omega)) only [wrapI, wrapU, appX_exact, appX_tok]
    try simp only [go_sem, tl_keep, putAll, happ]
    refine hR _ _ ?_; clear hR R
    try simp only [go_sem, tl_keep, putAll]
    refine W_exit ?_
    simp only [go_sem, tl_keep, putAll]
    rw [hfv] at hone
    simp only at hone
    rw [hone] at hcn
    refine ⟨[], _, Weak.keep [], ?_⟩
    simp only [RoundEnd, so, nd, L, hcn, go_sem]
   try simp only [nrm] at c2
   have hpj : aheadV t c own xn j = false := by unfold aheadV; simpa using c2
   rw [hpj, if_neg (by simp)] at hfv
   refine W_skip (K9 _ _ ?_)
   refine W_region [3, 4, 7, 9, 10, 26, 27] fun R hR => ?_
   simp only [go_sem, tl_keep, putAll]
   try simp (disch := omega) only [wrapI, wrapU]
   refine hR _ _ ?_; clear hR R
   try simp only [go_sem, tl_keep, putAll]
   refine ⟨j + 1, ?_, by (try simp only []); omega, ?_⟩
   ·first | exact Weak.refl | exact Wqq
   try dsimp only
   exact ⟨by omega, hfv⟩
  try simp only [nrm] at c1
  have hje : ¬ (j : Int) < fr + 1 := by first | exact c1 | (simp at c1; omega)
  rw [show (fr + 1).toNat - j = 0 by omega] at hfv
  simp only [findV] at hfv
  refine W_exit ?_
  simp only [go_sem, tl_keep, putAll]
  rw [hfv] at hone
  simp only at hone
  rw [hone, List.append_nil] at hcn
  refine ⟨[], _, Weak.keep [], ?_⟩
  simp only [RoundEnd, so, nd, L, hcn, go_sem]
 ·have hst := others1_pc (Y.at σ.ys.length (fun args τ b' τ' => ∃ k x, t.songs[k]? = some x ∧ x ≠ (sn : Int) ∧ args = [I x] ∧ b' = true ∧ τ = so k ∧ τ' = so (k + 1))) σ σ.ys.length (σ.store.length + 5) (σ.store.length + 6) id t sn hT.sl so
   (fun k _ => by simp only [so, L]; exact Sg.get_ext ..) (fun k _ => by simp only [so, L]; exact Sg.get_ext ..)
   (fun k x h1 h2 => by rw [YEnv.at_self]; exact ⟨k, x, h1, h2, rfl, rfl, rfl, rfl⟩)
   (fun k h1 => by simp only [so, nd]; rw [List.take_add_one, h1, Option.toList_some, needsT_snoc, show needOne t c own sn fr sn = [] by simp [needOne], List.append_nil])
   (by simp only [so, L, nd, List.take_zero, gsI, needsT, List.flatMap_nil, go_sem] <;> omega) (by simp only [so, L, go_sem] <;> omega) (by simp only [so, L, go_sem])
   (fun _ => CleanSg_ext hcl (by refine hLc _ _ _ _ ?_; simp only [L, gsI_len, go_sem] <;> omega))
  have e0 : so 0 = σ.ext (L []) [] [.ready] := rfl
  rw [e0] at hst
  simp only [L, glI, gsI, go_sem] at hst ⊢
  exact hst
 ·simp only [so, L, go_sem]
 ·simp only [go_sem]
  exact CleanCut_ext hcl (by simp only [so, L, go_sem] <;> omega) (by simp only [so, L, go_sem, Nat.le_add_right]) (by omega) (by refine hLc _ _ _ _ ?_; simp only [so, L, gsI_len, go_sem] <;> omega)
 simp only [AfterLoop, so, L, nd, go_sem]
 simp only [List.take_length]
 have hqb := hndl t.songs
 have hndb : ∀ y, y ∈ needsT t c own sn fr t.songs → 0 ≤ y ∧ y ≤ fr := fun y h => needsT_bd h
 obtain ⟨out, hout⟩ : ∃ z, needsT t c own sn fr t.songs = z := ⟨_, rfl⟩
 rw [hout] at hmust hqb hndb
 simp only [hout]
 refine K4 _ _ ?_
 refine W_seq fun Z13 K13 => ?_
 refine W_sr [3, 8, 9, 51] fun R hR => ?_
 simp only [go_sem, tl_keep, len_glI, hkn]
 refine hR _ _ ?_; clear hR R
 try simp only [go_sem, tl_keep]
 refine W_cond rfl (fun c3 => ?_) (fun c3 => ?_)
 ·
  try simp only [nrm] at c3
  refine W_sr [6] fun R hR => ?_
  simp only [go_sem, tl_keep]
  refine hR _ _ ?_; clear hR R
  try simp only [go_sem, tl_keep]
  refine W_ret ?_
  simp only [go_sem, tl_keep]
  refine ⟨.inr (by trivial), ?_⟩
  first | refine Fsa hcl rfl ?_ | refine Fse hcl rfl ?_
  try simp only [go_sem]
  all_goals
   rw [hmust, hkn]; first | (rw [if_pos (by omega)]; done) | (rw [if_neg (by omega)]; simp only [Int.toNat_natCast, hdl, hinv, Int.add_zero]; done)
 try simp only [nrm] at c3
 refine W_skip (K13 _ _ ?_)
 refine W_sr [3, 8, 9] fun R hR => ?_
 simp only [go_sem, tl_keep]
 refine GCall_of (sort_gl (A := [_, _, _, _, _, _, _]) sortsI (by have := hndl t.songs; omega)) ?_
 simp only [go_sem, tl_keep]
 refine hR _ _ ?_; clear hR R
 try simp only [go_sem, tl_keep]
 refine W_seq fun Z17 K17 => ?_
 rw [← glI_sort]
 refine W_weak (Weak.readJ (A := [_, _, _, _, _, _, _]) (j := 4) rfl) ?_
 simp only [go_sem]
 refine W_region [3, 8, 9, 12] fun R hR => ?_
 simp only [go_sem, tl_keep]
 refine hR _ _ (K17 _ _ ?_); clear hR R; try clear K17 Z17
 try simp only [go_sem, tl_keep]
 refine W_seq fun Z18 K18 => ?_
 refine W_seq fun Z19 K19 => ?_
 have hk0 : (0 : Int) ≤ (kn : Int) := by omega
 have hkl : kn ≤ (sortI out).length := by rw [sortI_len]; omega
 refine W_region [8, 12, 58, 59, 60] fun R hR => ?_
 simp only [go_sem, tl_keep, hkn, hk0, hkl, Int.toNat_natCast]
 refine hR _ _ (K19 _ _ ?_); clear hR R; try clear K19 Z19
 try simp only [go_sem, tl_keep]
 refine W_block ?_
 obtain ⟨dl, hdl⟩ : ∃ z, (sortI out).take kn = z := ⟨_, rfl⟩
 have hdb : ∀ y, y ∈ dl → 0 ≤ y ∧ y ≤ fr := fun y h => hndb y ((List.mergeSort_perm out _).mem_iff.1 (List.mem_of_mem_take (i := kn) (by rw [← hdl] at h; exact h)))
 have hdll : dl.length ≤ 8 := by rw [← hdl, List.length_take]; omega
 simp only [← List.map_take, hdl]
 refine W_loopS (α := Nat × Int) (fun ⟨i, sm⟩ => [(12, I sm), (60, I i)]) (fun ⟨i, sm⟩ => i ≤ dl.length ∧ dl.sum = sm + (dl.drop i).sum ∧ 0 ≤ sm ∧ sm ≤ 1000 * (i : Int)) (fun ⟨i, sm⟩ => dl.length - i) ((0, 0)) rfl (⟨Nat.zero_le _, by simp, Int.le_refl _, Int.le_refl _⟩) ?_
 rintro ⟨i, sm⟩ ⟨hi, hinv, hs1, hs2⟩
 refine W_sr [8, 12, 58, 59, 60, 61] fun R hR => ?_
 simp only [go_sem, tl_keep]
 refine hR _ _ ?_; clear hR R
 try simp only [go_sem, tl_keep]
 refine W_seq fun Z21 K21 => ?_
 refine W_cond rfl (fun c4 => ?_) (fun c4 => ?_)
 ·
  try simp only [nrm] at c4
  have hi' : i < dl.length := by first | assumption | omega
  obtain ⟨x, hx⟩ : ∃ x, dl[i]? = some x := ⟨dl[i], by simp [hi']⟩
  have hdrop : dl.drop i = x :: dl.drop (i + 1) := by
   rw [List.drop_eq_getElem_cons hi']; congr 1; exact (List.getElem?_eq_some_iff.1 hx).2
  have hxb := hdb x (List.mem_of_getElem? hx)
  rw [hdrop] at hinv
  simp only [List.sum_cons] at hinv
  have hws : IntKind.i64.wrap (sm + x) = sm + x := wrapI (by omega) (by omega)
  refine W_skip (K21 _ _ ?_)
  refine W_seq fun Z22 K22 => ?_
  refine W_block ?_
  refine W_sr [8, 12, 14, 58, 59, 60] fun R hR => ?_
  simp only [go_sem, tl_keep, hx, hws]
  refine hR _ _ ?_; clear hR R
  try simp only [go_sem, tl_keep, hx, hws]
  refine W_region [8, 12, 58, 59, 60] fun R hR => ?_
  simp only [go_sem, tl_keep, hx, hws]
  try simp (disch := omega) only [wrapI, wrapU]
  refine hR _ _ (K22 _ _ ?_); clear hR R; try clear K22 Z22
  try simp only [go_sem, tl_keep, hx, hws]
  refine W_region [8, 12, 58, 59, 60] fun R hR => ?_
  simp only [go_sem, tl_keep, hx, hws]
  try simp (disch := omega) only [wrapI, wrapU]
  refine hR _ _ ?_; clear hR R
  try simp only [go_sem, tl_keep, hx, hws]
  refine ⟨(i + 1, sm + x), ?_, by (try simp only []); omega, ?_⟩
  ·first | exact Weak.refl | exact Wqq
  try dsimp only
  exact ⟨hi', by omega, by omega, by omega⟩
 try simp only [nrm] at c4
 have hdrop : dl.drop i = [] := List.drop_eq_nil_of_le (by omega)
 rw [hdrop] at hinv
 simp only [List.sum_nil] at hinv
 refine W_exit ?_
 simp only [go_sem, tl_keep]
 refine K18 _ _ ?_
 refine W_sr [6] fun R hR => ?_
 simp only [go_sem, tl_keep]
 refine hR _ _ ?_; clear hR R
 try simp only [go_sem, tl_keep]
 refine W_ret ?_
 simp only [go_sem, tl_keep]
 refine ⟨.inr (by trivial), ?_⟩
 first | refine Fsa hcl rfl ?_ | refine Fse hcl rfl ?_
 try simp only [go_sem]
 all_goals
  rw [hmust, hkn]; first | (rw [if_pos (by omega)]; done) | (rw [if_neg (by omega)]; simp only [Int.toNat_natCast, hdl, hinv, Int.add_zero]; done)
theorem rdsT_m {l : List Ballot} : ∀ {rs : List Rnd} {i : Nat} {ss : List Int}, ∀ t, t ∈ rdsT l rs i ss → t.m.length ≤ l.length := by
 intro rs
 induction rs with
 | nil => intro i ss t h; cases h
 | cons r rs ih =>
  intro i ss t h
  simp only [rdsT, List.mem_cons] at h
  rcases h with rfl | h
  ·exact voices_len _ _ _ _
  exact ih t h
/-- What a round does with a song: 1 it keeps it, 2 it does not, 3 it may. -/
def staysV (t : Tally) (c : Contest) (s : Int) : Int := if has t.songs s = false then 2 else if mustT t c s then 1 else if mayT t c s (freeT t c) then 3 else 2
def staysD (c : Contest) (l : List Ballot) (rd : Int) : List Int × Int := if chkBls c l ≠ 0 then ([], chkBls c l) else if inR rd 0 ((c.rounds.length : Int) - 1) = false then ([], 2) else match (roundsT c l)[rd.toNat]? with
 | some t => ((toI c.songs).map (staysV t c), 0)
 | none => ([], 2)
set_option maxHeartbeats 8000000 in
theorem Stays_pc (Y : YEnv) (σ : Sg) (c : Contest) (l : List Ballot) (rd : Int) (hr : c.rounds.length < 2 ^ 40) (hl : l.length < 2 ^ 40) :
 PC Tryz.prog Y 15 [cnPV c, bls l, I rd] σ (.tuple [ints (staysD c l rd).1, I (staysD c l rd).2]) (σ) := by
 refine PC_of_W Tryz.func15 rfl (by kernel_rfl) Tryz.ntmps15 (by simp) fun hcl hca => ?_
 refine W_sr [1, 2, 3] fun R hR => ?_
 simp only [go_sem, allIn1]
 refine hR _ _ ?_; clear hR R
 try simp only [go_sem, allIn1]
 refine W_seq fun Z2 K2 => ?_
 refine W_sr [1, 2, 3, 8] fun R hR => ?_
 simp only [go_sem, allIn1]
 refine GCall_of (chkBls_pc Y _ c l hr hl) ?_
 simp only [go_sem, allIn1]
 refine hR _ _ ?_; clear hR R
 try simp only [go_sem, allIn1]
 refine W_sr [1, 2, 3, 8, 17] fun R hR => ?_
 simp only [go_sem, allIn1]
 refine hR _ _ ?_; clear hR R
 try simp only [go_sem, allIn1]
 refine W_cond rfl (fun c1 => ?_) (fun c1 => ?_)
 ·
  try simp only [nrm] at c1
  have hres : staysD c l rd = ([], chkBls c l) := by unfold staysD; rw [if_pos c1]
  refine W_sr [6, 7] fun R hR => ?_
  simp only [go_sem, allIn1]
  refine hR _ _ ?_; clear hR R
  try simp only [go_sem, allIn1]
  refine W_ret ?_
  simp only [go_sem, allIn1]
  refine ⟨.inr (by trivial), ?_⟩
  rw [hres]
  refine Fin_same hcl rfl (Wk.ro (by simp only [go_sem]) ?_)
  try simp only [go_sem]
  all_goals
   first | rfl | (simp only [go_sem]; done) | (simp only [go_sem, hN, toI_N]; first | done | rfl)
 try simp only [nrm] at c1
 obtain ⟨hV, hl3, hb, hnd⟩ := blsV_of c1
 have hTb := roundsT_b hV hl3 hb
 have hrl := hV.rl
 have hsg := hV.sg
 obtain ⟨ts, hts⟩ : ∃ z, roundsT c l = z := ⟨_, rfl⟩
 have htl : ts.length = c.rounds.length := by rw [← hts]; exact rdsT_len
 have htm : ∀ t, t ∈ ts → t.m.length ≤ l.length := by rw [← hts]; exact rdsT_m
 rw [hts] at hTb
 refine W_skip (K2 _ _ ?_)
 refine W_seq fun Z6 K6 => ?_
 refine W_sr [1, 2, 3, 26] fun R hR => ?_
 simp only [go_sem, allIn1]
 try simp (disch := omega) only [wrapI, wrapU]
 refine GCall_of (in_pc Y _ 0 ((c.rounds.length : Int) - 1) [rd] .exact (by simp)) ?_
 simp only [go_sem, allIn1]
 try simp (disch := omega) only [wrapI, wrapU]
 refine hR _ _ ?_; clear hR R
 try simp only [go_sem, allIn1]
 refine W_cond rfl (fun c2 => ?_) (fun c2 => ?_)
 ·
  try simp only [nrm] at c2
  have hres : staysD c l rd = ([], 2) := by unfold staysD; rw [if_neg (by simp [c1]), if_pos (by simpa using c2)]
  refine W_sr [6, 7] fun R hR => ?_
  simp only [go_sem, allIn1]
  refine hR _ _ ?_; clear hR R
  try simp only [go_sem, allIn1]
  refine W_ret ?_
  simp only [go_sem, allIn1]
  refine ⟨.inr (by trivial), ?_⟩
  rw [hres]
  refine Fin_same hcl rfl (Wk.ro (by simp only [go_sem]) ?_)
  try simp only [go_sem]
  all_goals
   first | rfl | (simp only [go_sem]; done) | (simp only [go_sem, hN, toI_N]; first | done | rfl)
 try simp only [nrm] at c2
 have hin : inR rd 0 ((c.rounds.length : Int) - 1) = true := by simpa using c2
 have hrb := inR_true.1 hin
 obtain ⟨rn, hrn0⟩ : ∃ z : Nat, rd = z := ⟨rd.toNat, by omega⟩
 subst hrn0
 have hrn : (rn : Int) < (ts.length : Int) := by omega
 obtain ⟨t, ht⟩ : ∃ z, ts[rn]? = some z := ⟨ts[rn]'(by omega), by simp⟩
 have hT := hTb t (List.mem_of_getElem? ht)
 have html := htm t (List.mem_of_getElem? ht)
 have hfb := freeT_bd (t := t) hV (by omega)
 have htsl := hT.sl
 have hres : staysD c l rn = ((toI c.songs).map (staysV t c), 0) := by unfold staysD; rw [if_neg (by simp [c1]), if_neg (by simp [hin]), hts, Int.toNat_natCast, ht]
 obtain ⟨N, hN⟩ : ∃ z : Nat, c.songs = z := ⟨c.songs.toNat, by omega⟩
 refine W_skip (K6 _ _ ?_)
 refine W_seq fun Z9 K9 => ?_
 obtain ⟨τ, hτ⟩ : ∃ z, σ.ext (some [I c.songs, I c.juries, I c.members, I c.most, rds c.rounds] :: none :: mapsOf ts) [] = z := ⟨_, rfl⟩
 have hτr : τ.rooms.length = σ.rooms.length := by rw [← hτ]; simp [Sg.ext]
 have hτl : τ.store.length = σ.store.length + 1 + 1 + ts.length := by rw [← hτ]; simp only [Sg.len_ext, List.length_cons, mapsOf_len]; omega
 have hclτ : CleanSg τ := by rw [← hτ]; exact CleanSg_ext hcl (by show CleanLs _ _ _ _; simp only [go_sem])
 have hd0 : τ.store[σ.store.length]? = some (some [I c.songs, I c.juries, I c.members, I c.most, rds c.rounds]) := by rw [← hτ]; exact Sg.get_ext0 ..
 have hmp : τ.store[σ.store.length + 1 + 1 + rn]? = some (some (.mark :: mapE vcPV I t.m)) := by
  rw [← hτ, show σ.store.length + 1 + 1 + rn = σ.store.length + (rn + 1 + 1) by omega, Sg.get_ext]
  simp only [List.getElem?_cons_succ]
  exact mapsOf_get ht
 have hτe : σ.ext (some [I c.songs, I c.juries, I c.members, I c.most, rds c.rounds] :: none :: mapsOf ts) [] = τ.ext [] [] := by rw [hτ]; simp [Sg.ext]
 refine W_regionN [3, 9] 3 fun R hR => ?_
 simp only [go_sem, allIn1, iaX_tls ht, elA_tls ht, tlPV, tlCells, hrn, GLw]
 refine GCall_of (rounds_pc Y _ c l hV hl3 hb) ?_
 simp only [go_sem, allIn1, iaX_tls ht, elA_tls ht, tlPV, tlCells, hrn, GLw]
 simp only [hts]
 refine ⟨_, _, Weak.eq rfl hτe, ?_⟩
 simp only [go_sem, allIn1, iaX_tls ht, elA_tls ht, tlPV, tlCells, hrn, GLw]
 refine hR _ _ (K9 _ _ ?_); clear hR R; try clear K9 Z9
 try simp only [go_sem, allIn1]
 refine W_sr [3, 9, 10] fun R hR => ?_
 simp only [go_sem, allIn1]
 refine hR _ _ ?_; clear hR R
 try simp only [go_sem, allIn1]
 refine W_seq fun Z11 K11 => ?_
 refine W_sr [3, 9, 10, 34, 35] fun R hR => ?_
 simp only [go_sem, allIn1, ldS_at (get_extx hd0), hN]
 refine hR _ _ ?_; clear hR R
 try simp only [go_sem, allIn1]
 refine W_block ?_
 refine W_weak (Weak.room (t := 10) (es := 1) rfl (by simp)) ?_
 refine W_weak (Weak.keep [3, 9, 10, 34, 35]) ?_
 simp only [go_sem, allIn1]
 refine W_loopT (α := Nat) (fun (i : Nat) => [(10, .isl (((toN i).map (staysV t c)).map I) (.tok τ.rooms.length i 1)), (35, I i)]) (fun (i : Nat) => τ.ext [some (tlCells (σ.store.length + 1 + 1 + rn) t)] [i]) (fun (i : Nat) => i ≤ N) (fun (i : Nat) => N - i) (0) rfl (by first | rfl | (simp only [go_sem]; done) | (simp only [go_sem]; rfl)) (Nat.zero_le _) ?_
 rintro i hi
 refine W_sr [3, 9, 10, 34, 35, 36] fun R hR => ?_
 simp only [go_sem, allIn1]
 refine hR _ _ ?_; clear hR R
 try simp only [go_sem, allIn1]
 refine W_seq fun Z14 K14 => ?_
 refine W_cond rfl (fun c3 => ?_) (fun c3 => ?_)
 ·
  try simp only [nrm] at c3
  have hi1 : i < N := by first | omega | (simp at c3; omega)
  have htn := toN_len i
  have htn2 : ((toN i).map (staysV t c)).length = i := by rw [List.length_map]; exact htn
  refine W_skip (K14 _ _ ?_)
  refine W_seq fun Z15 K15 => ?_
  refine W_block ?_
  refine W_sr [3, 9, 10, 11, 34, 35] fun R hR => ?_
  simp only [go_sem, allIn1]
  refine hR _ _ ?_; clear hR R
  try simp only [go_sem, allIn1]
  refine W_sr [3, 9, 10, 11, 12, 34, 35] fun R hR => ?_
  simp only [go_sem, allIn1]
  refine hR _ _ ?_; clear hR R
  try simp only [go_sem, allIn1]
  refine W_seq fun Z18 K18 => ?_
  refine W_block ?_
  refine W_sr [3, 9, 10, 11, 12, 34, 35, 38] fun R hR => ?_
  simp only [go_sem, allIn1, tl_songs]
  refine GCall_of (contains_pc Y _ t.songs .ro i (by omega)) ?_
  simp only [go_sem, allIn1, tl_songs]
  refine hR _ _ ?_; clear hR R
  try simp only [go_sem, allIn1]
  refine W_cond rfl (fun c4 => ?_) (fun c4 => ?_)
  ·
   try simp only [nrm] at c4
   have hsv : staysV t c i = 2 := by unfold staysV; rw [if_pos (by simpa using c4)]
   refine W_skip (K18 _ _ ?_)
   refine W_region [3, 9, 10, 34, 35] fun R hR => ?_
   simp only [go_sem, allIn1]
   try simp (disch := first | omega | (simp only [go_sem] <;> omega)) only [wrapI, wrapU, appX_exact, appX_tok]
   try simp only [go_sem, allIn1]
   refine hR _ _ (K15 _ _ ?_); clear hR R; try clear K15 Z15
   try simp only [go_sem, allIn1]
   refine W_region [3, 9, 10, 34, 35] fun R hR => ?_
   simp only [go_sem, allIn1]
   try simp (disch := omega) only [wrapI, wrapU]
   refine hR _ _ ?_; clear hR R
   try simp only [go_sem, allIn1]
   refine ⟨i + 1, ?_, by (try simp only []); omega, ?_⟩
   ·refine Weak.trans (Weak.keep [3, 9, 10, 34, 35]) ?_
    simp only [go_sem]
    exact Weak.eq (by rw [toN_succ]; simp only [List.map_append, List.map_cons, List.map_nil, hsv]; first | done | rfl) rfl
   try dsimp only
   omega
  try simp only [nrm] at c4
  refine W_sr [3, 9, 10, 11, 12, 34, 35, 44] fun R hR => ?_
  simp only [go_sem, allIn1, tlPV, tl_len, tl_take21, ldA_at (get_extx hd0)]
  refine GCall_of (must_pc Y _ (σ.store.length + 1 + 1 + rn) t c (get_extx hmp) (by omega) hV hT i (by omega)) ?_
  simp only [go_sem, allIn1, tlPV, tl_len, tl_take21, ldA_at (get_extx hd0)]
  refine hR _ _ ?_; clear hR R
  try simp only [go_sem, allIn1]
  refine W_cond rfl (fun c5 => ?_) (fun c5 => ?_)
  ·
   try simp only [nrm] at c5
   have hsv : staysV t c i = 1 := by unfold staysV; rw [if_neg (by simp [c4]), if_pos c5]
   refine W_region [3, 9, 10, 12, 34, 35] fun R hR => ?_
   simp only [go_sem, allIn1]
   refine hR _ _ (K18 _ _ ?_); clear hR R; try clear K18 Z18
   try simp only [go_sem, allIn1]
   refine W_region [3, 9, 10, 34, 35] fun R hR => ?_
   simp only [go_sem, allIn1]
   try simp (disch := first | omega | (simp only [go_sem] <;> omega)) only [wrapI, wrapU, appX_exact, appX_tok]
   try simp only [go_sem, allIn1]
   refine hR _ _ (K15 _ _ ?_); clear hR R; try clear K15 Z15
   try simp only [go_sem, allIn1]
   refine W_region [3, 9, 10, 34, 35] fun R hR => ?_
   simp only [go_sem, allIn1]
   try simp (disch := omega) only [wrapI, wrapU]
   refine hR _ _ ?_; clear hR R
   try simp only [go_sem, allIn1]
   refine ⟨i + 1, ?_, by (try simp only []); omega, ?_⟩
   ·refine Weak.trans (Weak.keep [3, 9, 10, 34, 35]) ?_
    simp only [go_sem]
    exact Weak.eq (by rw [toN_succ]; simp only [List.map_append, List.map_cons, List.map_nil, hsv]; first | done | rfl) rfl
   try dsimp only
   omega
  try simp only [nrm] at c5
  refine W_seq fun Z21 K21 => ?_
  refine W_draw [3, 9, 10, 12, 34, 35, 49] [0, 1, 2, 3, 4, 5, 6, 7] [(0, 6), (1, 6), (2, 6)] [[], [], [], [], [], [3, 4], [0, 1, 2, 3, 4, 5], [0, 1, 2, 3, 4, 5, 6]] mixed (by kernel_rfl) fun R hR => ?_
  simp only [go_sem, allIn1, tlPV, tl_len, tl_take21, ldA_at (get_extx hd0)]
  refine GCall_of (free_pc Y _ (σ.store.length + 1 + 1 + rn) t c (get_extx hmp) (by omega) hV) ?_
  simp only [go_sem, allIn1, tlPV, tl_len, tl_take21, ldA_at (get_extx hd0)]
  refine GCall_of (may_pc Y _ (σ.store.length + 1 + 1 + rn) t c (get_extx hmp) (by omega) hV hT i (by omega) (freeT t c) (by omega)) ?_
  simp only [go_sem, allIn1, tlPV, tl_len, tl_take21, ldA_at (get_extx hd0)]
  try refine And.intro (by repeat' (first | refine And.intro ?_ ?_ | exact GOr_right (fun _ => by simp only [go_sem, allIn1, tlPV, tl_len, tl_take21, ldA_at (get_extx hd0)]))) ?_
  refine hR _ _ (K21 _ _ ?_); clear hR R; try clear K21 Z21
  try simp only [go_sem, allIn1]
  refine W_cond rfl (fun c6 => ?_) (fun c6 => ?_)
  ·
   try simp only [nrm] at c6
   have hsv : staysV t c i = 3 := by unfold staysV; rw [if_neg (by simp [c4]), if_neg (by simp [c5]), if_pos c6]
   refine W_region [3, 9, 10, 12, 34, 35] fun R hR => ?_
   simp only [go_sem, allIn1]
   refine hR _ _ (K18 _ _ ?_); clear hR R; try clear K18 Z18
   try simp only [go_sem, allIn1]
   refine W_region [3, 9, 10, 34, 35] fun R hR => ?_
   simp only [go_sem, allIn1]
   try simp (disch := first | omega | (simp only [go_sem] <;> omega)) only [wrapI, wrapU, appX_exact, appX_tok]
   try simp only [go_sem, allIn1]
   refine hR _ _ (K15 _ _ ?_); clear hR R; try clear K15 Z15
   try simp only [go_sem, allIn1]
   refine W_region [3, 9, 10, 34, 35] fun R hR => ?_
   simp only [go_sem, allIn1]
   try simp (disch := omega) only [wrapI, wrapU]
   refine hR _ _ ?_; clear hR R
   try simp only [go_sem, allIn1]
   refine ⟨i + 1, ?_, by (try simp only []); omega, ?_⟩
   ·refine Weak.trans (Weak.keep [3, 9, 10, 34, 35]) ?_
    simp only [go_sem]
    exact Weak.eq (by rw [toN_succ]; simp only [List.map_append, List.map_cons, List.map_nil, hsv]; first | done | rfl) rfl
   try dsimp only
   omega
  try simp only [nrm] at c6
  have hsv : staysV t c i = 2 := by unfold staysV; rw [if_neg (by simp [c4]), if_neg (by simp [c5]), if_neg (by simp [c6])]
  refine W_skip (K18 _ _ ?_)
  refine W_region [3, 9, 10, 34, 35] fun R hR => ?_
  simp only [go_sem, allIn1]
  try simp (disch := first | omega | (simp only [go_sem] <;> omega)) only [wrapI, wrapU, appX_exact, appX_tok]
  try simp only [go_sem, allIn1]
  refine hR _ _ (K15 _ _ ?_); clear hR R; try clear K15 Z15
  try simp only [go_sem, allIn1]
  refine W_region [3, 9, 10, 34, 35] fun R hR => ?_
  simp only [go_sem, allIn1]
  try simp (disch := omega) only [wrapI, wrapU]
  refine hR _ _ ?_; clear hR R
  try simp only [go_sem, allIn1]
  refine ⟨i + 1, ?_, by (try simp only []); omega, ?_⟩
  ·refine Weak.trans (Weak.keep [3, 9, 10, 34, 35]) ?_
   simp only [go_sem]
   exact Weak.eq (by rw [toN_succ]; simp only [List.map_append, List.map_cons, List.map_nil, hsv]; first | done | rfl) rfl
  try dsimp only
  omega
 try simp only [nrm] at c3
 have hie : N = i := by first | omega | (simp at c3; omega)
 subst hie
 refine W_exit ?_
 simp only [go_sem, allIn1]
 refine K11 _ _ ?_
 refine W_sr [6, 7] fun R hR => ?_
 simp only [go_sem, allIn1]
 refine hR _ _ ?_; clear hR R
 try simp only [go_sem, allIn1]
 refine W_ret ?_
 simp only [go_sem, allIn1]
 refine ⟨.inr (by trivial), ?_⟩
 rw [hres, ← hτ, Sg.ext_ext]
 refine Fin_same hcl rfl (Wk.ro (by simp only [go_sem]) ?_)
 try simp only [go_sem]
 all_goals
  first | rfl | (simp only [go_sem]; done) | (simp only [go_sem, hN, toI_N]; first | done | rfl)
theorem CleanAll_bools {a b c : Nat} {xs : List Bool} : CleanAll a b c (xs.map PV.bool) = True := eq_true fun p hp => by
 obtain ⟨x, _, rfl⟩ := List.mem_map.1 hp
 exact .bool _
attribute [go_sem] CleanAll_bools
section
variable {τ : Sg} {d : Nat} {cs : List PV} {l : List (Option (List PV))} {rm : List Nat} {ys : List LState}
end
theorem allOne {lo hi x : Int} : allIn lo hi [x] = inR x lo hi := by simp [allIn]
def chkRow (n : Int) : List Int → List Int → Int
 | _, [] => 0
 | p, x :: r => if !(inR x 0 (n - 1)) then 7 else if has p x then 8 else chkRow n (p ++ [x]) r
def orE (a b : Int) : Int := if a ≠ 0 then a else b
def chkRows (n : Int) : List (List Int) → Int
 | [] => 0
 | l :: r => orE (chkRow n [] l) (chkRows n r)
/-- The error of preferences. -/
def chkPf (n : Int) (ls : List (List Int)) : Int := if !(inR n 1 8) then 2 else if (ls.length : Int) > 200 then 5 else chkRows n ls
structure PfV (n : Int) (ls : List (List Int)) : Prop where
 nb : 1 ≤ n ∧ n ≤ 8
 ln : ls.length ≤ 200
 ck : ∀ l, l ∈ ls → chkRow n [] l = 0
theorem chkRows_zero {n : Int} : ∀ {ls : List (List Int)}, chkRows n ls = 0 ↔ ∀ l, l ∈ ls → chkRow n [] l = 0 := by
 intro ls
 induction ls with
 | nil => simp [chkRows]
 | cons a r ih =>
  simp only [chkRows, orE, List.mem_cons, forall_eq_or_imp]
  by_cases h : chkRow n [] a = 0
  ·rw [if_neg (by simp [h]), ih]; simp [h]
  rw [if_pos h]; simp [h]
theorem pfV_iff {n : Int} {ls : List (List Int)} : chkPf n ls = 0 ↔ PfV n ls := by
 unfold chkPf
 constructor
 ·intro h
  by_cases h1 : inR n 1 8 = true
  ·rw [h1] at h
   simp only [Bool.not_true, Bool.false_eq_true, if_false] at h
   split at h
   ·omega
   exact ⟨inR_true.1 h1, by omega, chkRows_zero.1 h⟩
  have e : inR n 1 8 = false := by simpa using h1
  rw [e] at h
  simp at h
 rintro ⟨h1, h2, h3⟩
 rw [inR_true.2 h1, if_neg (by simp), if_neg (by omega)]
 exact chkRows_zero.2 h3
theorem chkRow_mem {n : Int} : ∀ {l p : List Int}, chkRow n p l = 0 → (∀ x, x ∈ l → 0 ≤ x ∧ x ≤ n - 1) ∧ l.Nodup ∧ ∀ x, x ∈ l → x ∉ p := by
 intro l
 induction l with
 | nil => intro p _; simp
 | cons x r ih =>
  intro p h
  simp only [chkRow] at h
  by_cases h1 : inR x 0 (n - 1) = true
  ·rw [h1] at h
   simp only [Bool.not_true, Bool.false_eq_true, if_false] at h
   by_cases h2 : has p x = true
   ·rw [if_pos h2] at h; omega
   rw [if_neg h2] at h
   obtain ⟨a, b, c⟩ := ih h
   have hx : x ∉ p := fun hm => h2 (has_iff.2 hm)
   refine ⟨fun y hy => ?_, List.nodup_cons.2 ⟨fun hm => c x hm (by simp), b⟩, fun y hy => ?_⟩
   ·rcases List.mem_cons.1 hy with rfl | hy
    ·exact inR_true.1 h1
    exact a y hy
   rcases List.mem_cons.1 hy with rfl | hy
   ·exact hx
   exact fun hm => c y hy (by simp [hm])
  have e : inR x 0 (n - 1) = false := by simpa using h1
  rw [e] at h
  simp at h
set_option maxHeartbeats 4000000 in
theorem chkPf_pc (Y : YEnv) (σ : Sg) (n : Int) (ls : List (List Int)) (hl : ls.length < 2 ^ 40) (hl2 : ∀ l, l ∈ ls → l.length < 2 ^ 40) :
 PC Tryz.prog Y 44 [I n, lls ls] σ (I (chkPf n ls)) (σ) := by
 refine PC_of_W Tryz.func44 rfl (by kernel_rfl) Tryz.ntmps44 (by simp) fun hcl hca => ?_
 obtain ⟨res, hres⟩ : ∃ r, chkPf n ls = r := ⟨_, rfl⟩
 rw [hres]
 have hres2 := hres.symm
 unfold chkPf at hres2
 refine W_sr [0, 1] fun R hR => ?_
 simp only [go_sem, allOne]
 refine hR _ _ ?_; clear hR R
 try simp only [go_sem, allOne]
 refine W_seq fun Z2 K2 => ?_
 refine W_block ?_
 refine W_sr [0, 1, 9] fun R hR => ?_
 simp only [go_sem, allOne]
 refine GCall_of (in_pc Y _ 1 8 [n] .exact (by simp)) ?_
 simp only [go_sem, allOne]
 refine hR _ _ ?_; clear hR R
 try simp only [go_sem, allOne]
 refine W_cond rfl (fun c1 => ?_) (fun c1 => ?_)
 ·
  try simp only [nrm] at c1
  have c1b : inR n 1 8 = false := by simpa using c1
  refine W_sr [4] fun R hR => ?_
  simp only [go_sem, allOne]
  refine hR _ _ ?_; clear hR R
  try simp only [go_sem, allOne]
  refine W_ret ?_
  simp only [go_sem, allOne]
  refine ⟨.inr (by trivial), ?_⟩
  first | refine Fsa hcl rfl ?_ | refine Fse hcl rfl ?_
  try simp only [go_sem]
  all_goals
   rw [hres2, c1b]; simp
 try simp only [nrm] at c1
 have c1b : inR n 1 8 = true := by simpa using c1
 have hn := inR_true.1 c1b
 refine W_sr [0, 1, 14] fun R hR => ?_
 simp only [go_sem, allOne]
 refine hR _ _ ?_; clear hR R
 try simp only [go_sem, allOne]
 refine W_cond rfl (fun c2 => ?_) (fun c2 => ?_)
 ·
  try simp only [nrm] at c2
  have c2b : (ls.length : Int) > 200 := by first | omega | (simp at c2; omega)
  refine W_sr [4] fun R hR => ?_
  simp only [go_sem, allOne]
  refine hR _ _ ?_; clear hR R
  try simp only [go_sem, allOne]
  refine W_ret ?_
  simp only [go_sem, allOne]
  refine ⟨.inr (by trivial), ?_⟩
  first | refine Fsa hcl rfl ?_ | refine Fse hcl rfl ?_
  try simp only [go_sem]
  all_goals
   rw [hres2, c1b, if_neg (by simp), if_pos c2b]
 try simp only [nrm] at c2
 have c2b : ¬ (ls.length : Int) > 200 := by first | omega | (simp at c2; omega)
 have hres3 : res = chkRows n ls := by rw [hres2, c1b, if_neg (by simp), if_neg c2b]
 refine W_skip (K2 _ _ ?_)
 refine W_seq fun Z7 K7 => ?_
 refine W_sr [0, 18, 19, 20] fun R hR => ?_
 simp only [go_sem, allOne]
 refine hR _ _ ?_; clear hR R
 try simp only [go_sem, allOne]
 refine W_block ?_
 refine W_loopS (α := Nat) (fun (i : Nat) => [(20, I i)]) (fun (i : Nat) => i ≤ ls.length ∧ res = chkRows n (ls.drop i)) (fun (i : Nat) => ls.length - i) (0) rfl (⟨Nat.zero_le _, hres3⟩) ?_
 rintro i ⟨hi, hinv⟩
 refine W_sr [0, 18, 19, 20, 21] fun R hR => ?_
 simp only [go_sem, allOne]
 refine hR _ _ ?_; clear hR R
 try simp only [go_sem, allOne]
 refine W_seq fun Z10 K10 => ?_
 refine W_cond rfl (fun c3 => ?_) (fun c3 => ?_)
 ·
  try simp only [nrm] at c3
  have hi' : i < ls.length := by first | assumption | omega
  obtain ⟨l, hx⟩ : ∃ x, ls[i]? = some x := ⟨ls[i], by simp [hi']⟩
  have hdrop : ls.drop i = l :: ls.drop (i + 1) := by
   rw [List.drop_eq_getElem_cons hi']; congr 1; exact (List.getElem?_eq_some_iff.1 hx).2
  rw [hdrop] at hinv
  simp only [chkRows] at hinv
  have hll := hl2 l (List.mem_of_getElem? hx)
  have hik : i + 1 ≤ ls.length := hi'
  refine W_skip (K10 _ _ ?_)
  refine W_seq fun Z11 K11 => ?_
  refine W_block ?_
  refine W_sr [0, 6, 18, 19, 20] fun R hR => ?_
  simp only [go_sem, allOne, hx, llPV]
  refine hR _ _ ?_; clear hR R
  try simp only [go_sem, allOne, hx, llPV]
  refine W_sr [0, 6, 18, 19, 20, 24, 25, 26] fun R hR => ?_
  simp only [go_sem, allOne, hx, llPV]
  refine hR _ _ ?_; clear hR R
  try simp only [go_sem, allOne, hx, llPV]
  refine W_block ?_
  refine W_loopS (α := Nat) (fun (k : Nat) => [(26, I k)]) (fun (k : Nat) => k ≤ l.length ∧ res = orE (chkRow n (l.take k) (l.drop k)) (chkRows n (ls.drop (i + 1)))) (fun (k : Nat) => l.length - k) (0) rfl (⟨Nat.zero_le _, by rw [hinv]; rfl⟩) ?_
  rintro k ⟨hk, hinv2⟩
  refine W_sr [0, 6, 18, 19, 20, 24, 25, 26, 27] fun R hR => ?_
  simp only [go_sem, allOne, hx, llPV]
  refine hR _ _ ?_; clear hR R
  try simp only [go_sem, allOne, hx, llPV]
  refine W_seq fun Z15 K15 => ?_
  refine W_cond rfl (fun c4 => ?_) (fun c4 => ?_)
  ·
   try simp only [nrm] at c4
   have hk' : k < l.length := by first | assumption | omega
   obtain ⟨v, hv⟩ : ∃ v, l[k]? = some v := ⟨l[k], by simp [hk']⟩
   have hdk : l.drop k = v :: l.drop (k + 1) := by
    rw [List.drop_eq_getElem_cons hk']; congr 1; exact (List.getElem?_eq_some_iff.1 hv).2
   rw [hdk] at hinv2
   simp only [chkRow] at hinv2
   have htk : l.take (k + 1) = l.take k ++ [v] := by rw [List.take_add_one, hv]; rfl
   refine W_skip (K15 _ _ ?_)
   refine W_seq fun Z16 K16 => ?_
   refine W_block ?_
   refine W_sr [0, 6, 7, 8, 18, 19, 20, 24, 25, 26] fun R hR => ?_
   simp only [go_sem, allOne, hx, llPV, hv]
   refine hR _ _ ?_; clear hR R
   try simp only [go_sem, allOne, hx, llPV, hv]
   refine W_block ?_
   refine W_sr [0, 6, 7, 8, 18, 19, 20, 24, 25, 26, 31] fun R hR => ?_
   simp only [go_sem, allOne, hx, llPV, hv]
   try simp (disch := omega) only [wrapI, wrapU]
   refine GCall_of (in_pc Y _ 0 (n - 1) [v] .exact (by simp)) ?_
   simp only [go_sem, allOne, hx, llPV, hv]
   try simp (disch := omega) only [wrapI, wrapU]
   refine hR _ _ ?_; clear hR R
   try simp only [go_sem, allOne, hx, llPV, hv]
   refine W_cond rfl (fun c5 => ?_) (fun c5 => ?_)
   ·
    try simp only [nrm] at c5
    have c5b : inR v 0 (n - 1) = false := by simpa using c5
    refine W_sr [4] fun R hR => ?_
    simp only [go_sem, allOne, hx, llPV, hv]
    refine hR _ _ ?_; clear hR R
    try simp only [go_sem, allOne, hx, llPV, hv]
    refine W_ret ?_
    simp only [go_sem, allOne, hx, llPV, hv]
    refine ⟨.inr (by trivial), ?_⟩
    first | refine Fsa hcl rfl ?_ | refine Fse hcl rfl ?_
    try simp only [go_sem]
    all_goals
     rw [hinv2, c5b]; simp [orE]
   try simp only [nrm] at c5
   have c5b : inR v 0 (n - 1) = true := by simpa using c5
   refine W_sr [0, 6, 18, 19, 20, 24, 25, 26, 38] fun R hR => ?_
   simp only [go_sem, allOne, hx, llPV, hv, hk, ← List.map_take]
   refine GCall_of (contains_pc Y _ (l.take k) _ v (by rw [List.length_take]; omega)) ?_
   simp only [go_sem, allOne, hx, llPV, hv, hk, ← List.map_take]
   refine hR _ _ ?_; clear hR R
   try simp only [go_sem, allOne, hx, llPV, hv]
   refine W_cond rfl (fun c6 => ?_) (fun c6 => ?_)
   ·
    try simp only [nrm] at c6
    have c6b : has (l.take k) v = true := by simpa using c6
    refine W_sr [4] fun R hR => ?_
    simp only [go_sem, allOne, hx, llPV, hv]
    refine hR _ _ ?_; clear hR R
    try simp only [go_sem, allOne, hx, llPV, hv]
    refine W_ret ?_
    simp only [go_sem, allOne, hx, llPV, hv]
    refine ⟨.inr (by trivial), ?_⟩
    first | refine Fsa hcl rfl ?_ | refine Fse hcl rfl ?_
    try simp only [go_sem]
    all_goals
     rw [hinv2, c5b, c6b]; simp [orE]
   try simp only [nrm] at c6
   have c6b : has (l.take k) v = false := by simpa using c6
   refine W_skip (K16 _ _ ?_)
   refine W_region [0, 6, 18, 19, 20, 24, 25, 26] fun R hR => ?_
   simp only [go_sem, allOne, hx, llPV, hv]
   try simp (disch := omega) only [wrapI, wrapU]
   refine hR _ _ ?_; clear hR R
   try simp only [go_sem, allOne, hx, llPV, hv]
   refine ⟨k + 1, ?_, by (try simp only []); omega, ?_⟩
   ·first | exact Weak.refl | exact Wqq
   try dsimp only
   refine ⟨by omega, ?_⟩
   rw [hinv2, htk, c5b, c6b]
   simp
  try simp only [nrm] at c4
  have hdk : l.drop k = [] := List.drop_eq_nil_of_le (by omega)
  rw [hdk] at hinv2
  simp only [chkRow, orE] at hinv2
  have hdone : res = chkRows n (ls.drop (i + 1)) := by rw [hinv2]; simp
  refine W_exit ?_
  simp only [go_sem, allOne, hx, llPV]
  refine K11 _ _ ?_
  refine W_region [0, 18, 19, 20] fun R hR => ?_
  simp only [go_sem, allOne, hx, llPV]
  try simp (disch := omega) only [wrapI, wrapU]
  refine hR _ _ ?_; clear hR R
  try simp only [go_sem, allOne, hx, llPV]
  refine ⟨i + 1, ?_, by (try simp only []); omega, ?_⟩
  ·first | exact Weak.refl | exact Wqq
  try dsimp only
  exact ⟨hik, hdone⟩
 try simp only [nrm] at c3
 have hdrop : ls.drop i = [] := List.drop_eq_nil_of_le (by omega)
 rw [hdrop] at hinv
 simp only [chkRows] at hinv
 refine W_exit ?_
 simp only [go_sem, allOne]
 refine K7 _ _ ?_
 refine W_sr [4] fun R hR => ?_
 simp only [go_sem, allOne]
 refine hR _ _ ?_; clear hR R
 try simp only [go_sem, allOne]
 refine W_ret ?_
 simp only [go_sem, allOne]
 refine ⟨.inr (by trivial), ?_⟩
 first | refine Fsa hcl rfl ?_ | refine Fse hcl rfl ?_
 try simp only [go_sem]
 all_goals
  rw [hinv]
/-- What depends on the drum's beat, and the beat behind it. -/
abbrev D (α : Type) := Int → α × Int
def dret {α : Type} (a : α) : D α := fun b => (a, b)
def dbind {α β : Type} (m : D α) (f : α → D β) : D β := fun b => f (m b).1 (m b).2
def Holds {α : Type} (m : D α) (R : α → Prop) : Prop := ∀ b, R (m b).1
theorem Holds.ret {α : Type} {a : α} {R : α → Prop} (h : R a) : Holds (dret a) R := fun _ => h
theorem Holds.bind {α β : Type} {m : D α} {f : α → D β} {R : α → Prop} {S : β → Prop} (h : Holds m R) (k : ∀ a, R a → Holds (f a) S) : Holds (dbind m f) S := fun b => k _ (h b) _
theorem Holds.mono {α : Type} {m : D α} {R S : α → Prop} (h : Holds m R) (k : ∀ a, R a → S a) : Holds m S := fun b => k _ (h b)
def xorU (a b : Int) : Int := match arith .xor .u64 a b with | some (.int _ n) => n | _ => 0
def hitB (b : Int) : Int := IntKind.u64.wrap (IntKind.u64.wrap (b * 15074714826142052245) + 11400714819323198485)
def hitM (x : Int) : Int := IntKind.u64.wrap (xorU x (x.fdiv 4294967296) * 15760922415973212899)
def hitX (b : Int) : Int := xorU (hitM (hitM (hitB b))) ((hitM (hitM (hitB b))).fdiv 4294967296)
theorem wrapU_bd (n : Int) : 0 ≤ IntKind.u64.wrap n ∧ IntKind.u64.wrap n ≤ 18446744073709551615 := by
 have h : IntKind.u64.wrap n = n % 18446744073709551616 := rfl
 rw [h]; omega
theorem hitX_bd (b : Int) : 0 ≤ hitX b ∧ hitX b ≤ 18446744073709551615 := wrapU_bd _
def roll0 (n : Int) : D Int := fun b => if n < 2 then (0, b) else ((hitX b / 2) % n, hitB b)
/-- A number drawn: sealed, so that nobody computes with it. -/
noncomputable def roll : Int → D Int := Classical.choose (⟨roll0, rfl⟩ : ∃ f, f = roll0)
theorem roll_eq : roll = fun n b => if n < 2 then (0, b) else ((hitX b / 2) % n, hitB b) := Classical.choose_spec (⟨roll0, rfl⟩ : ∃ f, f = roll0)
noncomputable def mid (lo hi : Int) : D Int := fun b => (lo + (roll (hi - lo + 1) b).1, (roll (hi - lo + 1) b).2)
noncomputable def anyOf (l : List Int) : D Int := fun b => ((l[(roll l.length b).1.toNat]?).getD 0, (roll l.length b).2)
theorem roll_bd (n : Int) : Holds (roll n) fun r => 0 ≤ r ∧ r < max n 1 := by
 intro b
 rw [roll_eq]
 dsimp only
 have := hitX_bd b
 by_cases h : n < 2
 ·rw [if_pos h]; simp only []; omega
 rw [if_neg h]
 have h1 := Int.emod_nonneg (hitX b / 2) (show n ≠ 0 by omega)
 have h2 := Int.emod_lt_of_pos (hitX b / 2) (show 0 < n by omega)
 simp only []; omega
theorem mid_bd (lo hi : Int) (h : lo ≤ hi) : Holds (mid lo hi) fun r => lo ≤ r ∧ r ≤ hi := by
 intro b
 have := roll_bd (hi - lo + 1) b
 simp only [mid] at *
 omega
theorem anyOf_mem (l : List Int) (h : l ≠ []) : Holds (anyOf l) fun r => r ∈ l := by
 intro b
 have := roll_bd l.length b
 simp only [anyOf] at *
 have hl : 0 < l.length := by cases l with | nil => exact absurd rfl h | cons => simp
 have hlt : (roll (l.length : Int) b).1.toNat < l.length := by omega
 rw [List.getElem?_eq_getElem hlt]
 exact List.getElem_mem hlt
set_option maxHeartbeats 2000000 in
theorem hit_pc (Y : YEnv) (σ : Sg) (d : Nat) (b : Int) (hd : σ.store[d]? = some (some [.int .u64 b])) :
 PC Tryz.prog Y 52 [.ptr d 0] σ (.int .u64 (hitX b)) (σ.setVar d [.int .u64 (hitB b)]) := by
 refine PC_of_W Tryz.func52 rfl (by kernel_rfl) Tryz.ntmps52 (by simp) fun hcl hca => ?_
 have hlt := lt_of_get hd
 refine W_sr [0] fun R hR => ?_
 simp only [go_sem, ldS_at hd, stX_at hd, ldS_sv hlt, stX_sv hlt, sv_ext hlt, sv_ext_sv hlt]
 refine hR _ _ ?_; clear hR R
 try simp only [go_sem, ldS_at hd, stX_at hd, ldS_sv hlt, stX_sv hlt, sv_ext hlt, sv_ext_sv hlt]
 refine W_sr [0] fun R hR => ?_
 simp only [go_sem, ldS_at hd, stX_at hd, ldS_sv hlt, stX_sv hlt, sv_ext hlt, sv_ext_sv hlt]
 try simp (disch := omega) only [wrapI, wrapU]
 refine hR _ _ ?_; clear hR R
 try simp only [go_sem, ldS_at hd, stX_at hd, ldS_sv hlt, stX_sv hlt, sv_ext hlt, sv_ext_sv hlt]
 refine W_sr [3] fun R hR => ?_
 simp only [go_sem, ldS_at hd, stX_at hd, ldS_sv hlt, stX_sv hlt, sv_ext hlt, sv_ext_sv hlt]
 refine hR _ _ ?_; clear hR R
 try simp only [go_sem, ldS_at hd, stX_at hd, ldS_sv hlt, stX_sv hlt, sv_ext hlt, sv_ext_sv hlt]
 refine W_sr [3] fun R hR => ?_
 simp only [go_sem, ldS_at hd, stX_at hd, ldS_sv hlt, stX_sv hlt, sv_ext hlt, sv_ext_sv hlt]
 try simp (disch := omega) only [wrapI, wrapU]
 refine hR _ _ ?_; clear hR R
 try simp only [go_sem, ldS_at hd, stX_at hd, ldS_sv hlt, stX_sv hlt, sv_ext hlt, sv_ext_sv hlt]
 refine W_sr [3] fun R hR => ?_
 simp only [go_sem, ldS_at hd, stX_at hd, ldS_sv hlt, stX_sv hlt, sv_ext hlt, sv_ext_sv hlt]
 try simp (disch := omega) only [wrapI, wrapU]
 refine hR _ _ ?_; clear hR R
 try simp only [go_sem, ldS_at hd, stX_at hd, ldS_sv hlt, stX_sv hlt, sv_ext hlt, sv_ext_sv hlt]
 refine W_sr [2] fun R hR => ?_
 simp only [go_sem, ldS_at hd, stX_at hd, ldS_sv hlt, stX_sv hlt, sv_ext hlt, sv_ext_sv hlt]
 refine hR _ _ ?_; clear hR R
 try simp only [go_sem, ldS_at hd, stX_at hd, ldS_sv hlt, stX_sv hlt, sv_ext hlt, sv_ext_sv hlt]
 refine W_ret ?_
 simp only [go_sem, ldS_at hd, stX_at hd, ldS_sv hlt, stX_sv hlt, sv_ext hlt, sv_ext_sv hlt]
 refine ⟨.inr (by trivial), ?_⟩
 first | refine Fin_set hcl (by simp only [go_sem]) rfl (Wk_eq ?_ (by simp only [go_sem])) | refine Fin_set0 hcl (by simp only [go_sem]) rfl (Wk_eq ?_ (by simp only [go_sem]))
 try simp only [go_sem]
 all_goals
  simp only [hitX, hitM, hitB, xorU, go_sem]; simp (disch := omega) only [wrapU]
set_option maxHeartbeats 2000000 in
theorem Roll_lo (Y : YEnv) (σ : Sg) (d : Nat) (n : Int) (hn : n < 2) :
 PC Tryz.prog Y 54 [.ptr d 0, I n] σ (I 0) (σ) := by
 refine PC_of_W Tryz.func54 rfl (by kernel_rfl) Tryz.ntmps54 (by simp) fun hcl hca => ?_
 refine W_sr [0, 1] fun R hR => ?_
 simp only [go_sem]
 refine hR _ _ ?_; clear hR R
 try simp only [go_sem]
 refine W_seq fun Z2 K2 => ?_
 refine W_sr [0, 1, 6] fun R hR => ?_
 simp only [go_sem]
 refine hR _ _ ?_; clear hR R
 try simp only [go_sem]
 refine W_cond rfl (fun c1 => ?_) (fun c1 => ?_)
 ·
  try simp only [nrm] at c1
  refine W_sr [4] fun R hR => ?_
  simp only [go_sem]
  refine hR _ _ ?_; clear hR R
  try simp only [go_sem]
  refine W_ret ?_
  simp only [go_sem]
  refine ⟨.inr (by trivial), ?_⟩
  first | refine Fsa hcl rfl ?_ | refine Fse hcl rfl ?_
  try simp only [go_sem]
  all_goals
   first | rfl | (simp_all; done) | (simp_all; omega)
 try simp only [nrm] at c1
 exfalso
 omega
set_option maxHeartbeats 2000000 in
theorem Roll_hi (Y : YEnv) (σ : Sg) (d : Nat) (b : Int) (hd : σ.store[d]? = some (some [.int .u64 b])) (n : Int) (hn : 2 ≤ n) (hn2 : n < 2 ^ 62) :
 PC Tryz.prog Y 54 [.ptr d 0, I n] σ (I ((hitX b / 2) % n)) (σ.setVar d [.int .u64 (hitB b)]) := by
 refine PC_of_W Tryz.func54 rfl (by kernel_rfl) Tryz.ntmps54 (by simp) fun hcl hca => ?_
 have hlt := lt_of_get hd
 have hb := hitX_bd b
 have e1 : (hitX b).fdiv 2 = hitX b / 2 := Int.fdiv_eq_ediv_of_nonneg _ (by omega)
 have e2 : (hitX b / 2).tmod n = (hitX b / 2) % n := Int.tmod_eq_emod_of_nonneg (by omega)
 have h1 := Int.emod_nonneg (hitX b / 2) (show n ≠ 0 by omega)
 have h2 := Int.emod_lt_of_pos (hitX b / 2) (show 0 < n by omega)
 have e3 : ¬ n = 0 := by omega
 have e4 : IntKind.u64.wrap n = n := wrapU (by omega) (by omega)
 refine W_sr [0, 1] fun R hR => ?_
 simp only [go_sem, ldS_at hd, stX_at hd, ldS_sv hlt, stX_sv hlt, sv_ext hlt, sv_ext_sv hlt]
 refine hR _ _ ?_; clear hR R
 try simp only [go_sem, ldS_at hd, stX_at hd, ldS_sv hlt, stX_sv hlt, sv_ext hlt, sv_ext_sv hlt]
 refine W_seq fun Z2 K2 => ?_
 refine W_sr [0, 1, 6] fun R hR => ?_
 simp only [go_sem, ldS_at hd, stX_at hd, ldS_sv hlt, stX_sv hlt, sv_ext hlt, sv_ext_sv hlt]
 refine hR _ _ ?_; clear hR R
 try simp only [go_sem, ldS_at hd, stX_at hd, ldS_sv hlt, stX_sv hlt, sv_ext hlt, sv_ext_sv hlt]
 refine W_cond rfl (fun c1 => ?_) (fun c1 => ?_)
 ·
  try simp only [nrm] at c1
  exfalso
  omega
 try simp only [nrm] at c1
 refine W_skip (K2 _ _ ?_)
 refine W_sr [4] fun R hR => ?_
 simp only [go_sem, ldS_at hd, stX_at hd, ldS_sv hlt, stX_sv hlt, sv_ext hlt, sv_ext_sv hlt, e4, e1, e2, e3]
 refine GCall_of (hit_pc Y _ d b hd) ?_
 simp only [go_sem, ldS_at hd, stX_at hd, ldS_sv hlt, stX_sv hlt, sv_ext hlt, sv_ext_sv hlt, e4, e1, e2, e3]
 try simp (disch := omega) only [wrapI, wrapU]
 refine hR _ _ ?_; clear hR R
 try simp only [go_sem, ldS_at hd, stX_at hd, ldS_sv hlt, stX_sv hlt, sv_ext hlt, sv_ext_sv hlt]
 refine W_ret ?_
 simp only [go_sem, ldS_at hd, stX_at hd, ldS_sv hlt, stX_sv hlt, sv_ext hlt, sv_ext_sv hlt]
 refine ⟨.inr (by trivial), ?_⟩
 first | refine Fin_set hcl (by simp only [go_sem]) rfl (Wk_eq ?_ (by simp only [go_sem])) | refine Fin_set0 hcl (by simp only [go_sem]) rfl (Wk_eq ?_ (by simp only [go_sem]))
 try simp only [go_sem]
 all_goals
  first | rfl | (simp_all; done) | (simp_all; omega)
theorem Roll_pc (Y : YEnv) (σ : Sg) (d : Nat) (b : Int) (hd : σ.store[d]? = some (some [.int .u64 b])) (n : Int) (hn2 : n < 2 ^ 62) : PC Tryz.prog Y 54 [.ptr d 0, I n] σ (I (roll n b).1) (σ.setVar d [.int .u64 (roll n b).2]) := by
 rw [roll_eq]
 dsimp only
 by_cases h : n < 2
 ·rw [if_pos h]; simp only []; rw [sv_self hd]; exact Roll_lo Y σ d n h
 rw [if_neg h]; exact Roll_hi Y σ d b hd n (by omega) hn2
set_option maxHeartbeats 2000000 in
theorem Mid_pc (Y : YEnv) (σ : Sg) (d : Nat) (b : Int) (hd : σ.store[d]? = some (some [.int .u64 b])) (lo hi : Int) (h1 : -2 ^ 60 ≤ lo) (h2 : lo ≤ 2 ^ 60) (h3 : -2 ^ 60 ≤ hi) (h4 : hi ≤ 2 ^ 60) :
 PC Tryz.prog Y 53 [.ptr d 0, I lo, I hi] σ (I (mid lo hi b).1) (σ.setVar d [.int .u64 (mid lo hi b).2]) := by
 refine PC_of_W Tryz.func53 rfl (by kernel_rfl) Tryz.ntmps53 (by simp) fun hcl hca => ?_
 have hlt := lt_of_get hd
 have hr := roll_bd (hi - lo + 1) b
 simp only [] at hr
 refine W_sr [0, 1, 2] fun R hR => ?_
 simp only [go_sem, ldS_at hd, stX_at hd, ldS_sv hlt, stX_sv hlt, sv_ext hlt, sv_ext_sv hlt]
 refine hR _ _ ?_; clear hR R
 try simp only [go_sem, ldS_at hd, stX_at hd, ldS_sv hlt, stX_sv hlt, sv_ext hlt, sv_ext_sv hlt]
 refine W_sr [6] fun R hR => ?_
 simp only [go_sem, ldS_at hd, stX_at hd, ldS_sv hlt, stX_sv hlt, sv_ext hlt, sv_ext_sv hlt]
 try simp (disch := omega) only [wrapI, wrapU]
 refine GCall_of (Roll_pc Y _ d b (by first | exact hd | exact sv_get hlt | exact get_svx hlt | exact get_extx hd) _ (by omega)) ?_
 simp only [go_sem, ldS_at hd, stX_at hd, ldS_sv hlt, stX_sv hlt, sv_ext hlt, sv_ext_sv hlt]
 try simp (disch := omega) only [wrapI, wrapU]
 refine hR _ _ ?_; clear hR R
 try simp only [go_sem, ldS_at hd, stX_at hd, ldS_sv hlt, stX_sv hlt, sv_ext hlt, sv_ext_sv hlt]
 refine W_ret ?_
 simp only [go_sem, ldS_at hd, stX_at hd, ldS_sv hlt, stX_sv hlt, sv_ext hlt, sv_ext_sv hlt]
 refine ⟨.inr (by trivial), ?_⟩
 first | refine Fin_set hcl (by simp only [go_sem]) rfl (Wk_eq ?_ (by simp only [go_sem])) | refine Fin_set0 hcl (by simp only [go_sem]) rfl (Wk_eq ?_ (by simp only [go_sem]))
 try simp only [go_sem]
 all_goals
  first | rfl | (simp_all; done) | (simp_all; omega)
set_option maxHeartbeats 2000000 in
theorem Any_pc (Y : YEnv) (σ : Sg) (d : Nat) (b : Int) (hd : σ.store[d]? = some (some [.int .u64 b])) (l : List Int) (hl : l ≠ []) (hl2 : l.length < 2 ^ 50) :
 PC Tryz.prog Y 55 [.ptr d 0, .isl (l.map I) .exact] σ (I (anyOf l b).1) (σ.setVar d [.int .u64 (anyOf l b).2]) := by
 refine PC_of_W Tryz.func55 rfl (by kernel_rfl) Tryz.ntmps55 (by simp) fun hcl hca => ?_
 have hlt := lt_of_get hd
 have hr := roll_bd l.length b
 simp only [] at hr
 have hl0 : 0 < l.length := by cases l with | nil => exact absurd rfl hl | cons => simp
 have hlt2 : (roll (l.length : Int) b).1.toNat < l.length := by omega
 obtain ⟨x, hx⟩ : ∃ x, l[(roll (l.length : Int) b).1.toNat]? = some x := ⟨_, List.getElem?_eq_getElem hlt2⟩
 have hnn := hr.1
 refine W_sr [0, 1] fun R hR => ?_
 simp only [go_sem, ldS_at hd, stX_at hd, ldS_sv hlt, stX_sv hlt, sv_ext hlt, sv_ext_sv hlt]
 refine hR _ _ ?_; clear hR R
 try simp only [go_sem, ldS_at hd, stX_at hd, ldS_sv hlt, stX_sv hlt, sv_ext hlt, sv_ext_sv hlt]
 refine W_seq fun Z2 K2 => ?_
 refine W_sr [0, 1, 7] fun R hR => ?_
 simp only [go_sem, ldS_at hd, stX_at hd, ldS_sv hlt, stX_sv hlt, sv_ext hlt, sv_ext_sv hlt]
 refine hR _ _ ?_; clear hR R
 try simp only [go_sem, ldS_at hd, stX_at hd, ldS_sv hlt, stX_sv hlt, sv_ext hlt, sv_ext_sv hlt]
 refine W_cond rfl (fun c1 => ?_) (fun c1 => ?_)
 ·
  try simp only [nrm] at c1
  exfalso
  omega
 try simp only [nrm] at c1
 refine W_skip (K2 _ _ ?_)
 refine W_sr [4] fun R hR => ?_
 simp only [go_sem, ldS_at hd, stX_at hd, ldS_sv hlt, stX_sv hlt, sv_ext hlt, sv_ext_sv hlt, hnn, hx]
 refine GCall_of (Roll_pc Y _ d b (by first | exact hd | exact sv_get hlt | exact get_svx hlt | exact get_extx hd) _ (by omega)) ?_
 simp only [go_sem, ldS_at hd, stX_at hd, ldS_sv hlt, stX_sv hlt, sv_ext hlt, sv_ext_sv hlt, hnn, hx]
 refine hR _ _ ?_; clear hR R
 try simp only [go_sem, ldS_at hd, stX_at hd, ldS_sv hlt, stX_sv hlt, sv_ext hlt, sv_ext_sv hlt]
 refine W_ret ?_
 simp only [go_sem, ldS_at hd, stX_at hd, ldS_sv hlt, stX_sv hlt, sv_ext hlt, sv_ext_sv hlt]
 refine ⟨.inr (by trivial), ?_⟩
 first | refine Fin_set hcl (by simp only [go_sem]) rfl (Wk_eq ?_ (by simp only [go_sem])) | refine Fin_set0 hcl (by simp only [go_sem]) rfl (Wk_eq ?_ (by simp only [go_sem]))
 try simp only [go_sem]
 all_goals
  simp only [anyOf, hx, Option.getD_some]
def drumB : List Int → Int → Int
 | [], b => b
 | x :: r, b => drumB r (hitB (xorU b (IntKind.u64.wrap x)))
def fit (x n : Int) : Int := if n < 2 then 0 else if x.tmod n < 0 then x.tmod n + n else x.tmod n
theorem fit_bd (x n : Int) : 0 ≤ fit x n ∧ fit x n < max n 1 := by
 unfold fit
 split
 ·omega
 have h1 := Int.tmod_lt_of_pos x (show 0 < n by omega)
 have h2 := Int.lt_tmod_of_pos x (show 0 < n by omega)
 split <;> omega
set_option maxHeartbeats 2000000 in
theorem DrumOf_pc (Y : YEnv) (σ : Sg) (nums : List Int) (hl : nums.length < 2 ^ 60) :
 PC Tryz.prog Y 25 [ints nums] σ (.ptr σ.store.length 0) (σ.ext [some [.int .u64 (drumB nums 2685821657736338717)]] []) := by
 refine PC_of_W Tryz.func25 rfl (by kernel_rfl) Tryz.ntmps25 (by simp) fun hcl hca => ?_
 refine W_sr [0] fun R hR => ?_
 simp only [go_sem]
 refine hR _ _ ?_; clear hR R
 try simp only [go_sem]
 refine W_sr [0, 3] fun R hR => ?_
 simp only [go_sem]
 refine hR _ _ ?_; clear hR R
 try simp only [go_sem]
 refine W_seq fun Z3 K3 => ?_
 refine W_sr [0, 3, 4] fun R hR => ?_
 simp only [go_sem]
 refine hR _ _ ?_; clear hR R
 try simp only [go_sem]
 refine W_block ?_
 refine W_loopT (α := Nat × Int) (fun ⟨i, b⟩ => [(4, I i)]) (fun ⟨i, b⟩ => σ.ext [some [.int .u64 b]] []) (fun ⟨i, b⟩ => i ≤ nums.length ∧ drumB nums 2685821657736338717 = drumB (nums.drop i) b) (fun ⟨i, b⟩ => nums.length - i) ((0, 2685821657736338717)) rfl (by first | rfl | (simp only [go_sem]; done) | (simp only [go_sem]; rfl)) (⟨Nat.zero_le _, rfl⟩) ?_
 rintro ⟨i, b⟩ ⟨hi, hb⟩
 refine W_seq fun Z5 K5 => ?_
 refine W_sr [0, 3, 4, 10] fun R hR => ?_
 simp only [go_sem]
 refine hR _ _ ?_; clear hR R
 try simp only [go_sem]
 refine W_cond rfl (fun c1 => ?_) (fun c1 => ?_)
 ·
  try simp only [nrm] at c1
  have hi' : i < nums.length := by first | assumption | omega
  obtain ⟨x, hx⟩ : ∃ x, nums[i]? = some x := ⟨nums[i], by simp [hi']⟩
  have hdrop : nums.drop i = x :: nums.drop (i + 1) := by
   rw [List.drop_eq_getElem_cons hi']; congr 1; exact (List.getElem?_eq_some_iff.1 hx).2
  rw [hdrop] at hb
  simp only [drumB] at hb
  refine W_skip (K5 _ _ ?_)
  refine W_seq fun Z7 K7 => ?_
  refine W_block ?_
  refine W_seq fun Z8 K8 => ?_
  refine W_draw [0, 3, 4] [0, 1, 2, 3, 4, 5, 6, 7, 8, 9, 10, 11, 12, 13] [] [[], [], [1], [1, 2], [1, 2, 3], [], [], [5, 6], [5, 6, 7], [5, 6, 7, 8], [1, 2, 3, 4, 5, 6, 7, 8, 9], [0, 1, 2, 3, 4, 5, 6, 7, 8, 9, 10], [0, 1, 2, 3, 4, 5, 6, 7, 8, 9, 10, 11], [0, 1, 2, 3, 4, 5, 6, 7, 8, 9, 10, 11, 12]] mixed (by kernel_rfl) fun R hR => ?_
  simp only [go_sem, hx]
  try simp (disch := omega) only [wrapI, wrapU]
  try refine And.intro (by repeat' (first | refine And.intro ?_ ?_ | exact GOr_right (fun _ => by simp only [go_sem, hx]))) ?_
  refine hR _ _ (K8 _ _ ?_); clear hR R; try clear K8 Z8
  try simp only [go_sem, hx]
  refine W_region [0, 3, 4] fun R hR => ?_
  simp only [go_sem, hx]
  refine GCall_of (hit_pc Y _ _ _ (Sg.get_ext0 _ _ _ _)) ?_
  simp only [go_sem, hx]
  refine hR _ _ (K7 _ _ ?_); clear hR R; try clear K7 Z7
  try simp only [go_sem, hx]
  refine W_region [0, 3, 4] fun R hR => ?_
  simp only [go_sem, hx]
  try simp (disch := omega) only [wrapI, wrapU]
  refine hR _ _ ?_; clear hR R
  try simp only [go_sem, hx]
  refine ⟨(i + 1, hitB (xorU b (IntKind.u64.wrap x))), ?_, by (try simp only []); omega, ?_⟩
  ·exact Weak.eq (by rfl) (by simp only [xorU, go_sem]; simp (disch := omega) only [wrapU])
  try dsimp only
  exact ⟨hi', hb⟩
 try simp only [nrm] at c1
 have hdrop : nums.drop i = [] := List.drop_eq_nil_of_le (by omega)
 rw [hdrop] at hb
 simp only [drumB] at hb
 refine W_exit ?_
 simp only [go_sem]
 refine K3 _ _ ?_
 refine W_sr [2] fun R hR => ?_
 simp only [go_sem]
 refine hR _ _ ?_; clear hR R
 try simp only [go_sem]
 refine W_ret ?_
 simp only [go_sem]
 refine ⟨.inr (by trivial), ?_⟩
 rw [hb]; exact Fin_ext 1 0 hcl rfl (Wk_eq rfl (by simp only [go_sem] <;> omega)) (by show CleanLs _ _ _ _; simp only [go_sem])
 try simp only [go_sem]
 all_goals
  skip
/-- Two places exchanged. -/
def swapAt (l : List Int) (i k : Nat) : List Int := (l.set i ((l[k]?).getD 0)).set k ((l[i]?).getD 0)
theorem swapAt_len (l : List Int) (i k : Nat) : (swapAt l i k).length = l.length := by simp [swapAt]
theorem swapAt_perm {l : List Int} {i k : Nat} (hi : i < l.length) (hk : k < l.length) : (swapAt l i k).Perm l := by
 unfold swapAt
 rw [List.getElem?_eq_getElem hi, List.getElem?_eq_getElem hk]
 exact List.set_set_perm hi hk
noncomputable def orderA (n : Nat) : Nat → List Int → D (List Int)
 | 0, acc => dret acc
 | j + 1, acc => dbind (roll (((n - (j + 1) : Nat) : Int) + 1)) fun k => orderA n j (swapAt (acc ++ [((n - (j + 1) : Nat) : Int)]) (n - (j + 1)) k.toNat)
noncomputable def orderD (n : Nat) : D (List Int) := orderA n n []
theorem orderA_perm (n : Nat) : ∀ (j : Nat) (acc : List Int), j ≤ n → acc.Perm ((List.range (n - j)).map fun (i : Nat) => (i : Int)) → Holds (orderA n j acc) fun l => l.Perm ((List.range n).map fun (i : Nat) => (i : Int)) := by
 intro j
 induction j with
 | zero => intro acc _ h; exact .ret h
 | succ j ih =>
  intro acc hj h
  refine (roll_bd _).bind fun k hk => ih _ (by omega) ?_
  have hl : acc.length = n - (j + 1) := by rw [h.length_eq]; simp
  have hkl : k.toNat < (acc ++ [((n - (j + 1) : Nat) : Int)]).length := by simp; omega
  refine (swapAt_perm (by simp; omega) hkl).trans ?_
  have e : n - j = (n - (j + 1)) + 1 := by omega
  rw [e, List.range_succ, List.map_append]
  exact h.append_right _
theorem orderD_perm (n : Nat) : Holds (orderD n) fun l => l.Perm ((List.range n).map fun (i : Nat) => (i : Int)) := orderA_perm n n [] (Nat.le_refl _) (by simp)
theorem glI_of {l : List Int} {m : Nat} (h : l.length = m + 1) (n : Nat) : glI n l = .gsl (n + m) (m + 1) 1 := by
 cases l with
 | nil => simp at h
 | cons x l => simp only [List.length_cons] at h; simp only [glI]; rw [show l.length = m by omega]
theorem gsI_of {l : List Int} {m : Nat} (h : l.length = m + 1) : gsI l = List.replicate m none ++ [some (l.map I)] := by
 cases l with
 | nil => simp at h
 | cons x l => simp only [List.length_cons] at h; simp only [gsI]; rw [show l.length = m by omega]
theorem Weak.ungnilT {N : Nat} {lo : Nat × Nat} {E : Env} {σ : Sg} {t : Nat} (ht : E.get t = .gnil) : Weak N lo E σ (E.put (some t) (.isl [] .ro)) σ := by
 intro Ψ0 Ψ D a w hb le hr
 refine ⟨Ψ, le, hr.size, fun t' => ?_, hr.sg, hr.dsub, hr.defs⟩
 rw [get_put1]
 split
 ·rename_i e
  subst e
  have hv := hr.env t'
  rw [ht] at hv
  exact VR.of_gnil hv
 exact hr.env t'
/-- Read at last. -/
theorem Weak.readI {N : Nat} {lo : Nat × Nat} {E : Env} {σ : Sg} {t : Nat} {A : List (Option (List PV))} {rm : List Nat} {ys : List LState} {out : List Int} (ht : E.get t = glI (σ.store.length + A.length) out) :
 Weak N lo E (σ.ext (A ++ gsI out) rm ys) (E.put (some t) (ints out)) (σ.ext (A ++ List.replicate out.length none) rm ys) := by
 cases out with
 | nil =>
  have h := Weak.ungnilT (N := N) (lo := lo) (E := E) (σ := σ.ext A rm ys) (t := t) ht
  simp only [gsI, List.append_nil, List.length_nil, List.replicate_zero]
  exact h
 | cons z zs =>
  have h := Weak.freeze (N := N) (lo := lo) (E := E) (σ := σ.ext (A ++ gsI (z :: zs)) rm ys) (t := t) (id := σ.store.length + (A.length + zs.length)) (len := zs.length + 1) (es := 1) (l := (z :: zs).map I) (by rw [ht]; simp only [glI, Nat.add_assoc]) (by rw [Sg.get_ext, rowC_ints]; exact gsI_get) (by simp) (fun q hq => by obtain ⟨x, _, rfl⟩ := List.mem_map.1 hq; rfl)
  rw [Sg.drop_ext, gsI_set] at h
  have e : List.replicate (z :: zs).length (none : Option (List PV)) = List.replicate zs.length none ++ [none] := by simp [List.replicate_succ']
  rw [e]
  exact h
set_option maxHeartbeats 4000000 in
theorem Order_pc (Y : YEnv) (σ : Sg) (d : Nat) (b : Int) (hd : σ.store[d]? = some (some [.int .u64 b])) (n : Nat) (hn : n < 2 ^ 40) :
 PC Tryz.prog Y 56 [.ptr d 0, I n] σ (ints (orderD n b).1) (σ.setVar d [.int .u64 (orderD n b).2]) := by
 refine PC_of_W Tryz.func56 rfl (by kernel_rfl) Tryz.ntmps56 (by simp) fun hcl hca => ?_
 have hlt := lt_of_get hd
 obtain ⟨res, hres⟩ : ∃ r, orderD n b = r := ⟨_, rfl⟩
 rw [hres]
 refine W_sr [0, 1] fun R hR => ?_
 simp only [go_sem, ldS_at hd, stX_at hd, ldS_sv hlt, stX_sv hlt, sv_ext hlt, sv_ext_sv hlt]
 refine hR _ _ ?_; clear hR R
 try simp only [go_sem, ldS_at hd, stX_at hd, ldS_sv hlt, stX_sv hlt, sv_ext hlt, sv_ext_sv hlt]
 refine W_sr [0, 1, 5] fun R hR => ?_
 simp only [go_sem, ldS_at hd, stX_at hd, ldS_sv hlt, stX_sv hlt, sv_ext hlt, sv_ext_sv hlt]
 refine hR _ _ ?_; clear hR R
 try simp only [go_sem, ldS_at hd, stX_at hd, ldS_sv hlt, stX_sv hlt, sv_ext hlt, sv_ext_sv hlt]
 refine W_seq fun Z3 K3 => ?_
 refine W_sr [0, 1, 5, 6] fun R hR => ?_
 simp only [go_sem, ldS_at hd, stX_at hd, ldS_sv hlt, stX_sv hlt, sv_ext hlt, sv_ext_sv hlt]
 refine hR _ _ ?_; clear hR R
 try simp only [go_sem, ldS_at hd, stX_at hd, ldS_sv hlt, stX_sv hlt, sv_ext hlt, sv_ext_sv hlt]
 refine W_block ?_
 refine W_weak (Weak.gnil (t := 5) rfl) ?_
 refine W_weak (Weak.keep [0, 1, 5, 6]) ?_
 simp only [go_sem]
 refine W_loopT (α := Nat × (List Int) × Int) (fun ⟨i, acc, b⟩ => [(5, glI σ.store.length acc), (6, I i)]) (fun ⟨i, acc, b⟩ => (σ.setVar d [.int .u64 b]).ext (gsI acc) []) (fun ⟨i, acc, b⟩ => i ≤ n ∧ acc.length = i ∧ res = orderA n (n - i) acc b) (fun ⟨i, acc, b⟩ => n - i) ((0, [], b)) rfl (by simp only [gsI, go_sem, sv_self hd]) (⟨Nat.zero_le _, rfl, hres.symm⟩) ?_
 rintro ⟨i, acc, b⟩ ⟨hi, hal, hinv⟩
 refine W_seq fun Z5 K5 => ?_
 refine W_sr [0, 1, 5, 6, 10] fun R hR => ?_
 simp only [go_sem, ldS_at hd, stX_at hd, ldS_sv hlt, stX_sv hlt, sv_ext hlt, sv_ext_sv hlt]
 refine hR _ _ ?_; clear hR R
 try simp only [go_sem, ldS_at hd, stX_at hd, ldS_sv hlt, stX_sv hlt, sv_ext hlt, sv_ext_sv hlt]
 refine W_cond rfl (fun c1 => ?_) (fun c1 => ?_)
 ·
  try simp only [nrm] at c1
  have hin : i < n := by first | omega | (simp at c1; omega)
  rw [show n - i = (n - (i + 1)) + 1 by omega] at hinv
  simp only [orderA, dbind] at hinv
  rw [show (n - (n - (i + 1) + 1) : Nat) = i by omega] at hinv
  have hkb := roll_bd ((i : Int) + 1) b
  obtain ⟨kz, hkz⟩ : ∃ z, (roll ((i : Int) + 1) b).1 = z := ⟨_, rfl⟩
  obtain ⟨b1, hb1⟩ : ∃ z, (roll ((i : Int) + 1) b).2 = z := ⟨_, rfl⟩
  simp only [hkz] at hkb
  obtain ⟨k, rfl⟩ : ∃ k : Nat, kz = k := ⟨kz.toNat, by omega⟩
  rw [hkz, hb1, Int.toNat_natCast] at hinv
  have hki : k < i + 1 := by omega
  have hL : (σ.setVar d [.int .u64 b1]).store.length = σ.store.length := sv_len
  have happ := appG_gl (σ := σ.setVar d [.int .u64 b1]) (A := []) (rm := []) (ys := []) (out := acc) (i : Int) (by omega)
  have hal2 : (acc ++ [(i : Int)]).length = i + 1 := by simp [hal]
  rw [glI_of hal2, gsI_of hal2] at happ
  obtain ⟨ac2, hac2⟩ : ∃ z, acc ++ [(i : Int)] = z := ⟨_, rfl⟩
  rw [hac2] at happ hal2 hinv
  simp only [go_sem, List.length_nil, hL] at happ
  obtain ⟨x, hx⟩ : ∃ z, ac2[i]? = some z := ⟨ac2[i]'(by omega), by simp⟩
  obtain ⟨y, hy⟩ : ∃ z, ac2[k]? = some z := ⟨ac2[k]'(by omega), by simp⟩
  have hsw : swapAt ac2 i k = (ac2.set i y).set k x := by simp only [swapAt, hx, hy, Option.getD_some]
  have hI1 : (i : Int) < ((i + 1 : Nat) : Int) := by omega
  have hI2 : (k : Int) < ((i + 1 : Nat) : Int) := by omega
  have hg1 : ∀ c : Option (List PV), (List.replicate i none ++ [c])[i]? = some c := fun c => by rw [List.getElem?_append_right (by simp)]; simp
  have hg2 : ∀ c c2 : Option (List PV), (List.replicate i none ++ [c]).set i c2 = List.replicate i none ++ [c2] := fun c c2 => by rw [List.set_append_right _ _ (by simp)]; simp
  have hm1 : i + 1 ≤ ac2.length := by omega
  have hm2 : k + 1 ≤ ac2.length := by omega
  have hsl : (swapAt ac2 i k).length = i + 1 := by rw [swapAt_len]; exact hal2
  refine W_skip (K5 _ _ ?_)
  refine W_seq fun Z7 K7 => ?_
  refine W_block ?_
  refine W_sr [0, 1, 5, 6, 7] fun R hR => ?_
  simp only [go_sem, ldS_at hd, stX_at hd, ldS_sv hlt, stX_sv hlt, sv_ext hlt, sv_ext_sv hlt, hkz, hb1, hL]
  try simp (disch := omega) only [wrapI, wrapU]
  refine GCall_of (Roll_pc Y _ d b (by first | exact hd | exact sv_get hlt | exact get_svx hlt | exact get_extx hd) ((i : Int) + 1) (by omega)) ?_
  simp only [go_sem, ldS_at hd, stX_at hd, ldS_sv hlt, stX_sv hlt, sv_ext hlt, sv_ext_sv hlt, hkz, hb1, hL]
  try simp (disch := omega) only [wrapI, wrapU]
  refine hR _ _ ?_; clear hR R
  try simp only [go_sem, ldS_at hd, stX_at hd, ldS_sv hlt, stX_sv hlt, sv_ext hlt, sv_ext_sv hlt, hkz, hb1, hL]
  refine W_sr [0, 1, 5, 6, 7] fun R hR => ?_
  simp only [go_sem, ldS_at hd, stX_at hd, ldS_sv hlt, stX_sv hlt, sv_ext hlt, sv_ext_sv hlt, hkz, hb1, hL, happ]
  try simp (disch := first | omega | (simp only [go_sem] <;> omega)) only [wrapI, wrapU, appX_exact, appX_tok]
  try simp only [go_sem, ldS_at hd, stX_at hd, ldS_sv hlt, stX_sv hlt, sv_ext hlt, sv_ext_sv hlt, hkz, hb1, hL, happ]
  refine hR _ _ ?_; clear hR R
  try simp only [go_sem, ldS_at hd, stX_at hd, ldS_sv hlt, stX_sv hlt, sv_ext hlt, sv_ext_sv hlt, hkz, hb1, hL]
  refine W_draw [0, 1, 5, 6] [0, 1, 2, 3, 4, 5, 6, 7, 8, 9, 10, 11, 12, 13, 14, 15] [(2, 15), (3, 15)] [[], [], [], [], [], [], [4, 5], [4, 5, 6], [], [], [8, 9], [8, 9, 10], [0, 1, 4, 5, 6, 7, 8, 9, 10, 11], [0, 1, 4, 5, 6, 7, 8, 9, 10, 11, 12], [0, 1, 2, 3, 4, 5, 6, 7, 8, 9, 10, 11, 12, 13], [0, 1, 2, 3, 4, 5, 6, 7, 8, 9, 10, 11, 12, 13, 14]] mixed (by kernel_rfl) fun R hR => ?_
  simp only [go_sem, ldS_at hd, stX_at hd, ldS_sv hlt, stX_sv hlt, sv_ext hlt, sv_ext_sv hlt, hkz, hb1, hL, hI1, hI2, iaM_nat (Int.ofNat_lt.1 hI1), iaM_nat (Int.ofNat_lt.1 hI2), Nat.mul_one, Nat.zero_add, hg1, hg2, hx, hy, hm1, hm2, List.getElem?_map, List.length_set]
  try refine And.intro (by repeat' (first | refine And.intro ?_ ?_ | exact GOr_right (fun _ => by simp only [go_sem, ldS_at hd, stX_at hd, ldS_sv hlt, stX_sv hlt, sv_ext hlt, sv_ext_sv hlt, hkz, hb1, hL, hI1, hI2, iaM_nat (Int.ofNat_lt.1 hI1), iaM_nat (Int.ofNat_lt.1 hI2), Nat.mul_one, Nat.zero_add, hg1, hg2, hx, hy, hm1, hm2, List.getElem?_map, List.length_set]))) ?_
  refine hR _ _ (K7 _ _ ?_); clear hR R; try clear K7 Z7
  try simp only [go_sem, ldS_at hd, stX_at hd, ldS_sv hlt, stX_sv hlt, sv_ext hlt, sv_ext_sv hlt, hkz, hb1, hL]
  refine W_region [0, 1, 5, 6] fun R hR => ?_
  simp only [go_sem, ldS_at hd, stX_at hd, ldS_sv hlt, stX_sv hlt, sv_ext hlt, sv_ext_sv hlt, hkz, hb1, hL]
  try simp (disch := omega) only [wrapI, wrapU]
  refine hR _ _ ?_; clear hR R
  try simp only [go_sem, ldS_at hd, stX_at hd, ldS_sv hlt, stX_sv hlt, sv_ext hlt, sv_ext_sv hlt, hkz, hb1, hL]
  refine ⟨(i + 1, swapAt ac2 i k, b1), ?_, by (try simp only []); omega, ?_⟩
  ·refine Weak.eq ?_ ?_
   ·simp only [go_sem, glI_of hsl]
    first | done | rfl | simp
   rw [gsI_of hsl, hsw]
  try dsimp only
  exact ⟨by omega, hsl, by rw [hinv]⟩
 try simp only [nrm] at c1
 have hie : n = i := by first | omega | (simp at c1; omega)
 subst hie
 rw [Nat.sub_self] at hinv
 simp only [orderA, dret] at hinv
 refine W_exit ?_
 simp only [go_sem, ldS_at hd, stX_at hd, ldS_sv hlt, stX_sv hlt, sv_ext hlt, sv_ext_sv hlt]
 refine K3 _ _ ?_
 refine W_seq fun Z10 K10 => ?_
 refine W_weak (Weak.readI (t := 5) (A := []) (out := acc) (by simp only [go_sem, sv_len])) ?_
 refine W_weak (Weak.keep [5]) ?_
 simp only [go_sem]
 refine W_region [4] fun R hR => ?_
 simp only [go_sem, ldS_at hd, stX_at hd, ldS_sv hlt, stX_sv hlt, sv_ext hlt, sv_ext_sv hlt]
 refine hR _ _ (K10 _ _ ?_); clear hR R; try clear K10 Z10
 try simp only [go_sem, ldS_at hd, stX_at hd, ldS_sv hlt, stX_sv hlt, sv_ext hlt, sv_ext_sv hlt]
 refine W_ret ?_
 simp only [go_sem, ldS_at hd, stX_at hd, ldS_sv hlt, stX_sv hlt, sv_ext hlt, sv_ext_sv hlt]
 refine ⟨.inr (by trivial), ?_⟩
 rw [hinv]; refine Fin_set hcl (by simp only [go_sem]) rfl (Wk_eq rfl ?_)
 try simp only [go_sem]
 all_goals
  simp only [go_sem]
theorem mem2 {a b r : Int} (h : r ∈ [a, b]) : r = a ∨ r = b := by simpa using h
theorem mem3 {a b c r : Int} (h : r ∈ [a, b, c]) : r = a ∨ r = b ∨ r = c := by simpa using h
theorem nodup_range (n : Nat) : ((List.range n).map fun (i : Nat) => (i : Int)).Nodup := by
 rw [List.nodup_iff_pairwise_ne, List.pairwise_map]
 refine List.Pairwise.imp ?_ (List.nodup_range (n := n))
 intro a b h e
 exact h (by omega)
noncomputable def roundsC : Nat → Int → List Rnd → D (List Rnd)
 | 0, _, acc => dret acc
 | k + 1, keep, acc => if k = 0 then dbind (roll 4) fun a => dbind (roll 5) fun b => roundsC k 1 (acc ++ [⟨1, a, b⟩]) else dbind (mid 1 keep) fun kp => dbind (roll 4) fun a => dbind (roll 5) fun b => roundsC k kp (acc ++ [⟨kp, a, b⟩])
noncomputable def contestD (songs juries members : Int) : D Contest := dbind (mid 1 songs) fun s => dbind (roll (juries + 1)) fun j => dbind (roll (members + 1)) fun m => dbind (anyOf [0, 2, 10]) fun mo => dbind (mid 1 3) fun k =>
 dbind (roundsC k.toNat s []) fun rs => dret ⟨s, j, m, mo, rs⟩
theorem roundsC_ok : ∀ (k : Nat) (keep : Int) (acc : List Rnd), 1 ≤ keep → (k = 0 → keep = 1) → Holds (roundsC k keep acc) fun l => ∃ r, l = acc ++ r ∧ r.length = k ∧ chkRds keep r = 0 := by
 intro k
 induction k with
 | zero => intro keep acc _ h0; exact .ret ⟨[], by simp, rfl, by simp [chkRds, h0 rfl]⟩
 | succ k ih =>
  intro keep acc hk _
  have step : ∀ {kp a b : Int}, 1 ≤ kp ∧ kp ≤ keep → 0 ≤ a ∧ a < 4 → 0 ≤ b ∧ b < 5 → ∀ l, (∃ r, l = (acc ++ [(⟨kp, a, b⟩ : Rnd)]) ++ r ∧ r.length = k ∧ chkRds kp r = 0) → ∃ r, l = acc ++ r ∧ r.length = k + 1 ∧ chkRds keep r = 0 := by
   rintro kp a b hkp ha hb l ⟨r, h1, h2, h3⟩
   refine ⟨⟨kp, a, b⟩ :: r, by rw [h1]; simp, by simp [h2], ?_⟩
   have : chkRd keep ⟨kp, a, b⟩ = true := by
    simp only [chkRd, allIn, List.all_cons, List.all_nil, Bool.and_true, Bool.and_eq_true, inR_true]
    omega
   simp only [chkRds, this, Bool.not_true, Bool.false_eq_true, if_false]
   exact h3
  simp only [roundsC]
  split
  ·rename_i h0
   subst h0
   exact (roll_bd 4).bind fun a ha => (roll_bd 5).bind fun b hb => (ih 1 _ (by omega) (fun _ => rfl)).mono (step (by omega) (by omega) (by omega))
  rename_i h0
  exact (mid_bd 1 keep hk).bind fun kp hkp => (roll_bd 4).bind fun a ha => (roll_bd 5).bind fun b hb => (ih kp _ hkp.1 (fun e => absurd e h0)).mono (step hkp (by omega) (by omega))
/-- A contest made of numbers. -/
structure CnMade (c : Contest) (songs juries members : Int) : Prop where
 ok : chkCn c = 0
 sg : 1 ≤ c.songs ∧ c.songs ≤ songs
 jr : 0 ≤ c.juries ∧ c.juries ≤ juries
 mb : 0 ≤ c.members ∧ c.members ≤ members
 ms : 0 ≤ c.most ∧ c.most ≤ 10
 rl : 1 ≤ c.rounds.length ∧ c.rounds.length ≤ 3
theorem contestD_ok {songs juries members : Int} (h1 : 1 ≤ songs ∧ songs ≤ 8) (h2 : 0 ≤ juries ∧ juries ≤ 8) (h3 : 0 ≤ members ∧ members ≤ 1000) : Holds (contestD songs juries members) fun c => CnMade c songs juries members := by
 unfold contestD
 refine (mid_bd 1 songs h1.1).bind fun s hs => (roll_bd (juries + 1)).bind fun j hj => (roll_bd (members + 1)).bind fun m hm => (anyOf_mem [0, 2, 10] (by simp)).bind fun mo hmo => (mid_bd 1 3 (by omega)).bind fun k hk => (roundsC_ok k.toNat s [] hs.1 (fun e => by omega)).bind fun rs hrs => .ret ?_
 obtain ⟨r, e1, e2, e3⟩ := hrs
 simp only [List.nil_append] at e1
 subst e1
 have hmo2 : 0 ≤ mo ∧ mo ≤ 10 := by rcases mem3 hmo with h | h | h <;> omega
 refine ⟨?_, hs, by simp only; omega, by simp only; omega, hmo2, by simp only; omega⟩
 unfold chkCn
 have e : chkCn0 ⟨s, j, m, mo, rs⟩ = true := by
  simp only [chkCn0, allIn1, Bool.and_eq_true, inR_true]
  omega
 simp only [e, Bool.not_true, Bool.false_eq_true, if_false]
 rw [if_neg (by omega), if_neg (by omega)]
 exact e3
def serAt (ser : List Int) (i : Nat) : Int := (ser[i]?).getD 0 + 1
noncomputable def ballotsC (c : Contest) (ser : List Int) : Nat → Nat → List Ballot → D (List Ballot)
 | 0, _, acc => dret acc
 | k + 1, i, acc => dbind (roll c.rounds.length) fun rd => dbind (anyOf [1, 2]) fun kd => dbind (roll c.songs) fun sg =>
  if (if c.members = 0 then 1 else if c.juries = 0 then 2 else kd) = 1 then dbind (roll c.juries) fun v => dbind (mid 0 c.most) fun p => ballotsC c ser k (i + 1) (acc ++ [⟨serAt ser i, rd, 1, v, sg, p⟩])
  else dbind (roll c.members) fun v => ballotsC c ser k (i + 1) (acc ++ [⟨serAt ser i, rd, 2, v, sg, 0⟩])
noncomputable def ballotsD (c : Contest) (most : Int) : D (List Ballot) := if c.juries + c.members = 0 then dret [] else dbind (roll (most + 1)) fun k => dbind (orderD (3 * (k.toNat + 1))) fun ser => ballotsC c ser k.toNat 0 []
theorem ballotsC_ok {c : Contest} {songs juries members : Int} (hc : CnMade c songs juries members) (h0 : c.juries + c.members ≠ 0) {ser : List Int} (hs : ∀ x, x ∈ ser → 0 ≤ x ∧ x < 100000) : ∀ (k i : Nat) (acc : List Ballot), i + k ≤ ser.length → (∀ b, b ∈ acc → BlV c b) → acc.map (·.serial) = (List.range i).map (serAt ser) →
 Holds (ballotsC c ser k i acc) fun l => l.length = acc.length + k ∧ (∀ b, b ∈ l → BlV c b) ∧ l.map (·.serial) = (List.range (i + k)).map (serAt ser) := by
 intro k
 induction k with
 | zero => intro i acc _ h2 h3; exact .ret ⟨rfl, h2, h3⟩
 | succ k ih =>
  intro i acc h1 h2 h3
  have hsg := hc.sg
  have hjr := hc.jr
  have hmb := hc.mb
  have hms := hc.ms
  have hrl := hc.rl
  have hser : 1 ≤ serAt ser i ∧ serAt ser i ≤ 1000000000 := by
   have hi : i < ser.length := by omega
   have := hs ser[i] (by simp)
   unfold serAt
   simp [hi]; omega
  have step : ∀ b : Ballot, BlV c b → b.serial = serAt ser i → Holds (ballotsC c ser k (i + 1) (acc ++ [b])) fun l => l.length = acc.length + (k + 1) ∧ (∀ b, b ∈ l → BlV c b) ∧ l.map (·.serial) = (List.range (i + (k + 1))).map (serAt ser) := by
   intro b hb e
   refine (ih (i + 1) (acc ++ [b]) (by omega) (fun x hx => ?_) ?_).mono fun l hl => ⟨by rw [hl.1]; simp; omega, hl.2.1, by rw [hl.2.2]; congr 2; omega⟩
   ·rcases List.mem_append.1 hx with hx | hx
    ·exact h2 x hx
    simp only [List.mem_singleton] at hx
    subst hx
    exact hb
   rw [List.map_append, h3, List.range_succ, List.map_append]
   simp [e]
  simp only [ballotsC]
  refine (roll_bd c.rounds.length).bind fun rd hrd => (anyOf_mem [1, 2] (by simp)).bind fun kd hkd => (roll_bd c.songs).bind fun sg hsg2 => ?_
  by_cases hk : (if c.members = 0 then (1 : Int) else if c.juries = 0 then 2 else kd) = 1
  ·rw [if_pos hk]
   refine (roll_bd c.juries).bind fun v hv => (mid_bd 0 c.most hms.1).bind fun p hp => step _ ⟨hser, by simp only; omega, .inl rfl, ?_, by simp only; omega, ?_⟩ rfl
   ·simp only
    rw [if_neg (by omega)]
    split at hk
    ·omega
    split at hk
    ·omega
    omega
   simp only
   rw [if_neg (by omega)]
   exact hp
  rw [if_neg hk]
  refine (roll_bd c.members).bind fun v hv => step _ ⟨hser, by simp only; omega, .inr rfl, ?_, by simp only; omega, ?_⟩ rfl
  ·simp only [if_true]
   split at hk
   ·omega
   omega
  simp only [if_true]
  omega
theorem ballotsD_ok {c : Contest} {songs juries members : Int} (hc : CnMade c songs juries members) {most : Int} (hm : 0 ≤ most ∧ most ≤ 300) : Holds (ballotsD c most) fun l => (l.length : Int) ≤ most ∧ (∀ b, b ∈ l → BlV c b) ∧ (l.map (·.serial)).Nodup ∧ ∀ b, b ∈ l → b.serial < 1000 * 1000 := by
 unfold ballotsD
 split
 ·exact .ret ⟨by simp; omega, by simp, by simp, by simp⟩
 rename_i h0
 refine (roll_bd (most + 1)).bind fun k hk => (orderD_perm (3 * (k.toNat + 1))).bind fun ser hser => ?_
 have hsl : ser.length = 3 * (k.toNat + 1) := by rw [hser.length_eq]; simp
 have hsb : ∀ x, x ∈ ser → 0 ≤ x ∧ x < 100000 := fun x hx => by
  obtain ⟨i, h1, rfl⟩ := List.mem_map.1 (hser.mem_iff.1 hx)
  have := List.mem_range.1 h1
  omega
 refine (ballotsC_ok hc h0 hsb k.toNat 0 [] (by omega) (by simp) rfl).mono fun l hl => ?_
 obtain ⟨h1, h2, h3⟩ := hl
 have hat : ∀ i (hi : i < ser.length), serAt ser i = ser[i] + 1 := fun i hi => by simp [serAt, hi]
 refine ⟨by rw [h1]; simp; omega, h2, ?_, fun b hb => ?_⟩
 ·rw [h3, Nat.zero_add, List.nodup_iff_pairwise_ne, List.pairwise_map]
  refine List.Pairwise.imp_of_mem ?_ (List.nodup_range (n := k.toNat))
  intro a b ha hb hne e
  have ha2 := List.mem_range.1 ha
  have hb2 := List.mem_range.1 hb
  rw [hat a (by omega), hat b (by omega)] at e
  have hnd := hser.nodup_iff.2 (nodup_range _)
  exact hne ((List.getElem_inj hnd).1 (by omega))
 have hmem : b.serial ∈ l.map (·.serial) := List.mem_map.2 ⟨b, hb, rfl⟩
 rw [h3] at hmem
 obtain ⟨i, hi, e⟩ := List.mem_map.1 hmem
 have hi2 := List.mem_range.1 hi
 rw [hat i (by omega)] at e
 have := hsb ser[i] (by simp)
 omega
def Ahd (a b : Std) : Prop := aheadS a b < 0
instance {a b : Std} : Decidable (Ahd a b) := by unfold Ahd; exact inferInstance
def insZ (x : Int) : List Int → List Int
 | [] => [x]
 | y :: l => if x ≤ y then x :: y :: l else y :: insZ x l
def isortZ : List Int → List Int
 | [] => []
 | x :: l => insZ x (isortZ l)
def Asc (l : List Int) : Prop := l.Pairwise (· ≤ ·)
theorem insZ_perm (x : Int) : ∀ l, (insZ x l).Perm (x :: l) := by
 intro l
 induction l with
 | nil => exact .refl _
 | cons y l ih =>
  simp only [insZ]
  split
  ·exact .refl _
  exact (List.Perm.cons y ih).trans (.swap x y l)
theorem isortZ_perm : ∀ l, (isortZ l).Perm l := by
 intro l
 induction l with
 | nil => exact .refl _
 | cons x l ih => exact (insZ_perm x _).trans (.cons x ih)
theorem insZ_asc (x : Int) : ∀ {l : List Int}, Asc l → Asc (insZ x l) := by
 intro l
 induction l with
 | nil => intro _; simp [insZ, Asc]
 | cons y l ih =>
  intro h
  obtain ⟨h1, h2⟩ := List.pairwise_cons.1 h
  simp only [insZ]
  split
  ·exact List.pairwise_cons.2 ⟨fun z hz => by
    rcases List.mem_cons.1 hz with rfl | hz
    ·assumption
    have := h1 z hz; omega, h⟩
  refine List.pairwise_cons.2 ⟨fun z hz => ?_, ih h2⟩
  rcases List.mem_cons.1 ((insZ_perm x l).mem_iff.1 hz) with rfl | hz
  ·omega
  exact h1 z hz
theorem isortZ_asc : ∀ l, Asc (isortZ l) := by
 intro l
 induction l with
 | nil => exact .nil
 | cons x l ih => exact insZ_asc x ih
theorem asc_perm : ∀ {a b : List Int}, a.Perm b → Asc a → Asc b → a = b := by
 intro a
 induction a with
 | nil => intro b h _ _; exact (List.nil_perm.1 h).symm
 | cons x a ih =>
  intro b h ha hb
  cases b with
  | nil => exact absurd h.length_eq (by simp)
  | cons y b =>
   obtain ⟨a1, a2⟩ := List.pairwise_cons.1 ha
   obtain ⟨b1, b2⟩ := List.pairwise_cons.1 hb
   have e : x = y := by
    have hx : x ∈ y :: b := h.mem_iff.1 (by simp)
    have hy : y ∈ x :: a := h.mem_iff.2 (by simp)
    rcases List.mem_cons.1 hx with rfl | hx
    ·rfl
    rcases List.mem_cons.1 hy with rfl | hy
    ·rfl
    have := a1 y hy; have := b1 x hx; omega
   subst e
   rw [ih (List.Perm.cons_inv h) a2 b2]
theorem sortI_isort (l : List Int) : sortI l = isortZ l := by
 refine asc_perm ((List.mergeSort_perm l _).trans (isortZ_perm l).symm) ?_ (isortZ_asc l)
 have := List.pairwise_mergeSort (le := fun x y : Int => decide (x ≤ y)) (by simp; omega) (by simp; omega) l
 exact this.imp (by simp)
def prs (t : Tally) (c : Contest) (own : Std) (s fr : Int) (l : List Int) : List (Int × Int) := l.flatMap fun x => (needOne t c own s fr x).map fun v => (x, v)
section
variable {c : Contest} {b : Ballot} {t t' : Tally}
end
/-- The error of a ballot behind others. -/
def chkB1 (c : Contest) (p : List Ballot) (b : Ballot) : Int := if inR b.serial 1 1000000000 = false then 2 else if has (p.map (·.serial)) b.serial = true then 8 else chkBl c b
theorem chkBl_bad {c : Contest} {b : Ballot} (h1 : bl1 c b = 0) (hk1 : b.kind ≠ 1) (hk2 : b.kind ≠ 2) : chkBl c b = 3 := by
 have h2 : bl2 b = 3 := by
  unfold bl2 unl
  have : inR b.kind 1 2 = false := by
   cases h : inR b.kind 1 2 with
   | false => rfl
   | true => have := inR_true.1 h; omega
  rw [this]; rfl
 simp [chkBl, blEs, firstE, h1, h2]
theorem chkF_step {c : Contest} {p l : List Ballot} {b : Ballot} : chkBlsF c (p.map (·.serial)) (b :: l) = if chkB1 c p b ≠ 0 then chkB1 c p b else chkBlsF c ((p ++ [b]).map (·.serial)) l := by
 by_cases h1 : inR b.serial 1 1000000000 = true
 ·by_cases h2 : has (p.map (·.serial)) b.serial = true
  ·simp [chkBlsF, chkB1, h1, h2]
  simp [chkBlsF, chkB1, h1, h2]
 simp [chkBlsF, chkB1, h1]
set_option maxHeartbeats 8000000 in
theorem rCheck_pc (Y : YEnv) (σ : Sg) (c : Contest) (hr : c.rounds.length < 2 ^ 40) :
 PC Tryz.prog Y 80 [cnPV c] σ (I (chkCn c)) (σ) := by
 refine PC_of_W Tryz.func80 rfl (by kernel_rfl) Tryz.ntmps80 (by simp) fun hcl hca => ?_
 obtain ⟨res, hres⟩ : ∃ r, chkCn c = r := ⟨_, rfl⟩
 rw [hres]
 refine W_sr [1] fun R hR => ?_
 simp only [go_sem, cnCells]
 refine hR _ _ ?_; clear hR R
 try simp only [go_sem, cnCells]
 refine W_seq fun Z2 K2 => ?_
 refine W_seq fun Z3 K3 => ?_
 refine W_regionJ [1, 27] [(27, .bool (!(chkCn0 c)))] ?_ fun R hR => ?_
 ·refine K3 _ _ ?_
  simp only [go_sem, cnCells]
  refine W_cond rfl (fun c1 => ?_) (fun c1 => ?_)
  ·
   try simp only [nrm] at c1
   refine W_sr [2] fun R hR => ?_
   simp only [go_sem, cnCells]
   refine hR _ _ ?_; clear hR R
   try simp only [go_sem, cnCells]
   refine W_ret ?_
   simp only [go_sem, cnCells]
   refine ⟨.inr (by trivial), ?_⟩
   first | refine Fsa hcl rfl ?_ | refine Fse hcl rfl ?_
   try simp only [go_sem]
   all_goals
    rw [← hres]; unfold chkCn; rw [if_pos (by simpa using c1)]
  try simp only [nrm] at c1
  refine W_skip (K2 _ _ ?_)
  refine W_seq fun Z5 K5 => ?_
  refine W_sr [1, 31] fun R hR => ?_
  simp only [go_sem, cnCells]
  refine hR _ _ ?_; clear hR R
  try simp only [go_sem, cnCells]
  refine W_cond rfl (fun c2 => ?_) (fun c2 => ?_)
  ·
   try simp only [nrm] at c2
   refine W_sr [2] fun R hR => ?_
   simp only [go_sem, cnCells]
   refine hR _ _ ?_; clear hR R
   try simp only [go_sem, cnCells]
   refine W_ret ?_
   simp only [go_sem, cnCells]
   refine ⟨.inr (by trivial), ?_⟩
   first | refine Fsa hcl rfl ?_ | refine Fse hcl rfl ?_
   try simp only [go_sem]
   all_goals
    rw [← hres]; unfold chkCn; rw [if_neg (by simpa using c1), if_pos (by omega)]
  try simp only [nrm] at c2
  refine W_skip (K5 _ _ ?_)
  refine W_seq fun Z8 K8 => ?_
  refine W_sr [1, 35] fun R hR => ?_
  simp only [go_sem, cnCells]
  refine hR _ _ ?_; clear hR R
  try simp only [go_sem, cnCells]
  refine W_cond rfl (fun c3 => ?_) (fun c3 => ?_)
  ·
   try simp only [nrm] at c3
   refine W_sr [2] fun R hR => ?_
   simp only [go_sem, cnCells]
   refine hR _ _ ?_; clear hR R
   try simp only [go_sem, cnCells]
   refine W_ret ?_
   simp only [go_sem, cnCells]
   refine ⟨.inr (by trivial), ?_⟩
   first | refine Fsa hcl rfl ?_ | refine Fse hcl rfl ?_
   try simp only [go_sem]
   all_goals
    rw [← hres]; unfold chkCn; rw [if_neg (by simpa using c1), if_neg (by omega), if_pos (by omega)]
  try simp only [nrm] at c3
  refine W_skip (K8 _ _ ?_)
  refine W_sr [1, 3] fun R hR => ?_
  simp only [go_sem, cnCells]
  refine hR _ _ ?_; clear hR R
  try simp only [go_sem, cnCells]
  refine W_seq fun Z12 K12 => ?_
  refine W_sr [1, 3, 4] fun R hR => ?_
  simp only [go_sem, cnCells]
  refine hR _ _ ?_; clear hR R
  try simp only [go_sem, cnCells]
  refine W_block ?_
  refine W_loopS (α := Nat × Int) (fun ⟨i, sg⟩ => [(3, I sg), (4, I i)]) (fun ⟨i, sg⟩ => i ≤ c.rounds.length ∧ res = chkRds sg (c.rounds.drop i)) (fun ⟨i, sg⟩ => c.rounds.length - i) ((0, c.songs)) rfl (⟨Nat.zero_le _, by rw [← hres]; unfold chkCn; rw [if_neg (by simpa using c1), if_neg (by omega), if_neg (by omega)]; rfl⟩) ?_
  rintro ⟨i, sg⟩ ⟨hi, hinv⟩
  refine W_seq fun Z14 K14 => ?_
  refine W_sr [1, 3, 4, 42] fun R hR => ?_
  simp only [go_sem, cnCells]
  refine hR _ _ ?_; clear hR R
  try simp only [go_sem, cnCells]
  refine W_cond rfl (fun c4 => ?_) (fun c4 => ?_)
  ·
   try simp only [nrm] at c4
   have hi' : i < c.rounds.length := by first | assumption | omega
   obtain ⟨r, hx⟩ : ∃ r, c.rounds[i]? = some r := ⟨c.rounds[i], by simp [hi']⟩
   have hdrop : c.rounds.drop i = r :: c.rounds.drop (i + 1) := by
    rw [List.drop_eq_getElem_cons hi']; congr 1; exact (List.getElem?_eq_some_iff.1 hx).2
   rw [hdrop] at hinv
   simp only [chkRds] at hinv
   refine W_skip (K14 _ _ ?_)
   refine W_seq fun Z16 K16 => ?_
   refine W_block ?_
   refine W_sr [1, 3, 4, 5] fun R hR => ?_
   simp only [go_sem, cnCells, hx]
   refine hR _ _ ?_; clear hR R
   try simp only [go_sem, cnCells, hx]
   refine W_seq fun Z18 K18 => ?_
   refine W_seq fun Z19 K19 => ?_
   refine W_regionJ [1, 4, 5, 66] [(66, .bool (!(chkRd sg r)))] ?_ fun R hR => ?_
   ·refine K19 _ _ ?_
    simp only [go_sem, cnCells, hx]
    refine W_cond rfl (fun c5 => ?_) (fun c5 => ?_)
    ·
     try simp only [nrm] at c5
     refine W_sr [2] fun R hR => ?_
     simp only [go_sem, cnCells, hx]
     refine hR _ _ ?_; clear hR R
     try simp only [go_sem, cnCells, hx]
     refine W_ret ?_
     simp only [go_sem, cnCells, hx]
     refine ⟨.inr (by trivial), ?_⟩
     first | refine Fsa hcl rfl ?_ | refine Fse hcl rfl ?_
     try simp only [go_sem]
     all_goals
      rw [hinv, if_pos (by simp [c5])]
    try simp only [nrm] at c5
    refine W_skip (K18 _ _ ?_)
    refine W_region [1, 3, 4] fun R hR => ?_
    simp only [go_sem, cnCells, hx]
    refine hR _ _ (K16 _ _ ?_); clear hR R; try clear K16 Z16
    try simp only [go_sem, cnCells, hx]
    refine W_region [1, 3, 4] fun R hR => ?_
    simp only [go_sem, cnCells, hx]
    try simp (disch := omega) only [wrapI, wrapU]
    refine hR _ _ ?_; clear hR R
    try simp only [go_sem, cnCells, hx]
    refine ⟨(i + 1, r.keep), ?_, by (try simp only []); omega, ?_⟩
    ·refine Weak.trans (Weak.cutX 1 0 (by omega) (by omega) hcl (by simp only [go_sem] <;> omega) (by simp only [go_sem] <;> omega)) ?_
     simp only [go_sem]
     exact Weak.eq (by first | rfl | (simp only [go_sem]; done) | (simp only [go_sem]; rfl) | (simp [go_sem]; done) | (simp [go_sem]; omega)) (by first | rfl | (simp only [go_sem]; done) | (simp [go_sem]; done))
    try dsimp only
    refine ⟨hi', ?_⟩
    rw [hinv, if_neg (by simp [c5])]
   simp only [go_sem, cnCells, hx]
   refine GCall_of (within_pc Y _ r.jury 0 1000) ?_
   simp only [go_sem, cnCells, hx]
   refine GWant_split (fun g1 => ?_) (fun g1 => ?_)
   ·try simp only [Bool.not_eq_true', Bool.not_eq_false'] at g1
    have n1 := g1; try simp only [nrm] at n1
    simp only [go_sem, cnCells, hx, g1]
    refine GCall_of (within_pc Y _ r.member 0 1000) ?_
    simp only [go_sem, cnCells, hx, g1]
    refine GWant_split (fun g2 => ?_) (fun g2 => ?_)
    ·try simp only [Bool.not_eq_true', Bool.not_eq_false'] at g2
     have n2 := g2; try simp only [nrm] at n2
     simp only [go_sem, cnCells, hx, g1, g2]
     refine GCall_of (within_pc Y _ r.keep 1 sg) ?_
     simp only [go_sem, cnCells, hx, g1, g2]
     refine hR _ ?_
     all_goals try simp only [go_sem, cnCells, hx]
     all_goals
      first | rfl | (simp [chkRd, allIn, *]; done) | (simp_all [chkRd, allIn]; done)
    try simp only [Bool.not_eq_true', Bool.not_eq_false'] at g2
    have n2 := g2; try simp only [nrm] at n2
    simp only [go_sem, cnCells, hx, g1, g2]
    refine hR _ ?_
    all_goals try simp only [go_sem, cnCells, hx]
    all_goals
     first | rfl | (simp [chkRd, allIn, *]; done) | (simp_all [chkRd, allIn]; done)
   try simp only [Bool.not_eq_true', Bool.not_eq_false'] at g1
   have n1 := g1; try simp only [nrm] at n1
   simp only [go_sem, cnCells, hx, g1]
   refine hR _ ?_
   all_goals try simp only [go_sem, cnCells, hx]
   all_goals
    first | rfl | (simp [chkRd, allIn, *]; done) | (simp_all [chkRd, allIn]; done)
  try simp only [nrm] at c4
  have hdrop : c.rounds.drop i = [] := List.drop_eq_nil_of_le (by omega)
  rw [hdrop] at hinv
  simp only [chkRds] at hinv
  refine W_exit ?_
  simp only [go_sem, cnCells]
  refine K12 _ _ ?_
  refine W_seq fun Z21 K21 => ?_
  refine W_sr [70] fun R hR => ?_
  simp only [go_sem, cnCells]
  refine hR _ _ ?_; clear hR R
  try simp only [go_sem, cnCells]
  refine W_cond rfl (fun c6 => ?_) (fun c6 => ?_)
  ·
   try simp only [nrm] at c6
   refine W_sr [2] fun R hR => ?_
   simp only [go_sem, cnCells]
   refine hR _ _ ?_; clear hR R
   try simp only [go_sem, cnCells]
   refine W_ret ?_
   simp only [go_sem, cnCells]
   refine ⟨.inr (by trivial), ?_⟩
   first | refine Fsa hcl rfl ?_ | refine Fse hcl rfl ?_
   try simp only [go_sem]
   all_goals
    rw [hinv, if_neg (by omega)]
  try simp only [nrm] at c6
  refine W_skip (K21 _ _ ?_)
  refine W_sr [2] fun R hR => ?_
  simp only [go_sem, cnCells]
  refine hR _ _ ?_; clear hR R
  try simp only [go_sem, cnCells]
  refine W_ret ?_
  simp only [go_sem, cnCells]
  refine ⟨.inr (by trivial), ?_⟩
  first | refine Fsa hcl rfl ?_ | refine Fse hcl rfl ?_
  try simp only [go_sem]
  all_goals
   rw [hinv, if_pos (by omega)]
 simp only [go_sem, cnCells]
 refine GCall_of (within_pc Y _ c.songs 1 8) ?_
 simp only [go_sem, cnCells]
 refine GWant_split (fun g3 => ?_) (fun g3 => ?_)
 ·try simp only [Bool.not_eq_true', Bool.not_eq_false'] at g3
  have n3 := g3; try simp only [nrm] at n3
  simp only [go_sem, cnCells, g3]
  refine GCall_of (within_pc Y _ c.juries 0 8) ?_
  simp only [go_sem, cnCells, g3]
  refine GWant_split (fun g4 => ?_) (fun g4 => ?_)
  ·try simp only [Bool.not_eq_true', Bool.not_eq_false'] at g4
   have n4 := g4; try simp only [nrm] at n4
   simp only [go_sem, cnCells, g3, g4]
   refine GCall_of (within_pc Y _ c.members 0 1000) ?_
   simp only [go_sem, cnCells, g3, g4]
   refine GWant_split (fun g5 => ?_) (fun g5 => ?_)
   ·try simp only [Bool.not_eq_true', Bool.not_eq_false'] at g5
    have n5 := g5; try simp only [nrm] at n5
    simp only [go_sem, cnCells, g3, g4, g5]
    refine GCall_of (within_pc Y _ c.most 0 100) ?_
    simp only [go_sem, cnCells, g3, g4, g5]
    refine hR _ ?_
    all_goals try simp only [go_sem, cnCells]
    all_goals
     first | rfl | (simp [chkCn0, allIn1, *]; done) | (simp_all [chkCn0, allIn1]; done)
   try simp only [Bool.not_eq_true', Bool.not_eq_false'] at g5
   have n5 := g5; try simp only [nrm] at n5
   simp only [go_sem, cnCells, g3, g4, g5]
   refine hR _ ?_
   all_goals try simp only [go_sem, cnCells]
   all_goals
    first | rfl | (simp [chkCn0, allIn1, *]; done) | (simp_all [chkCn0, allIn1]; done)
  try simp only [Bool.not_eq_true', Bool.not_eq_false'] at g4
  have n4 := g4; try simp only [nrm] at n4
  simp only [go_sem, cnCells, g3, g4]
  refine hR _ ?_
  all_goals try simp only [go_sem, cnCells]
  all_goals
   first | rfl | (simp [chkCn0, allIn1, *]; done) | (simp_all [chkCn0, allIn1]; done)
 try simp only [Bool.not_eq_true', Bool.not_eq_false'] at g3
 have n3 := g3; try simp only [nrm] at n3
 simp only [go_sem, cnCells, g3]
 refine hR _ ?_
 all_goals try simp only [go_sem, cnCells]
 all_goals
  first | rfl | (simp [chkCn0, allIn1, *]; done) | (simp_all [chkCn0, allIn1]; done)
set_option maxHeartbeats 8000000 in
theorem rchkB_pc (Y : YEnv) (σ : Sg) (c : Contest) (p : List Ballot) (b : Ballot) (o : Own) (hV : CnV c) (hp : p.length < 2 ^ 40) :
    PC Tryz.prog Y 81 [cnPV c, .isl (p.map blPV) o, blPV b] σ (I (chkB1 c p b)) (σ) := by
  refine PC_of_W Tryz.func81 rfl (by kernel_rfl) Tryz.ntmps81 (by simp) fun hcl hca => ?_
  have h1 := hV.sg
  have h2 := hV.jr
  have h3 := hV.mb
  have h4 := hV.rl
  have hw1 : IntKind.i64.wrap ((c.rounds.length : Int) - 1) = (c.rounds.length : Int) - 1 := wrapI (by omega) (by omega)
  have hw2 : IntKind.i64.wrap (c.juries - 1) = c.juries - 1 := wrapI (by omega) (by omega)
  have hw3 : IntKind.i64.wrap (c.songs - 1) = c.songs - 1 := wrapI (by omega) (by omega)
  have hw4 : IntKind.i64.wrap (c.members - 1) = c.members - 1 := wrapI (by omega) (by omega)
  obtain ⟨res, hres⟩ : ∃ r, chkB1 c p b = r := ⟨_, rfl⟩
  rw [hres]
  refine W_sr [1, 3, 5] fun R hR => ?_
  simp only [go_sem, cnCells, blCells]
  refine hR _ _ ?_; clear hR R
  try simp only [go_sem, cnCells, blCells]
  refine W_seq fun Z2 K2 => ?_
  refine W_sr [1, 3, 5, 11] fun R hR => ?_
  simp only [go_sem, cnCells, blCells]
  refine GCall_of (within_pc Y _ b.serial 1 1000000000) ?_
  simp only [go_sem, cnCells, blCells]
  refine hR _ _ ?_; clear hR R
  try simp only [go_sem, cnCells, blCells]
  refine W_cond rfl (fun c1 => ?_) (fun c1 => ?_)
  ·
    try simp only [nrm] at c1
    refine W_sr [6] fun R hR => ?_
    simp only [go_sem, cnCells, blCells]
    refine hR _ _ ?_; clear hR R
    try simp only [go_sem, cnCells, blCells]
    refine W_ret ?_
    simp only [go_sem, cnCells, blCells]
    refine ⟨.inr (by trivial), ?_⟩
    first | refine Fsa hcl rfl ?_ | refine Fse hcl rfl ?_
    try simp only [go_sem]
    all_goals
      rw [← hres]; unfold chkB1; rw [if_pos (by simpa using c1)]
  ·
    try simp only [nrm] at c1
    refine W_skip (K2 _ _ ?_)
    refine W_seq fun Z5 K5 => ?_
    refine W_sr [1, 3, 5, 7] fun R hR => ?_
    simp only [go_sem, cnCells, blCells]
    refine hR _ _ ?_; clear hR R
    try simp only [go_sem, cnCells, blCells]
    refine W_block ?_
    refine W_loopS (α := Nat) (fun (i : Nat) => [(7, I i)]) (fun (i : Nat) => i ≤ p.length ∧ has ((p.take i).map (·.serial)) b.serial = false) (fun (i : Nat) => p.length - i) (0) rfl (⟨Nat.zero_le _, rfl⟩) ?_
    rintro i ⟨hi, hno⟩
    refine W_seq fun Z7 K7 => ?_
    refine W_sr [1, 3, 5, 7, 15] fun R hR => ?_
    simp only [go_sem, cnCells, blCells]
    refine hR _ _ ?_; clear hR R
    try simp only [go_sem, cnCells, blCells]
    refine W_cond rfl (fun c2 => ?_) (fun c2 => ?_)
    ·
      try simp only [nrm] at c2
      have hi' : i < p.length := by first | assumption | omega
      obtain ⟨q, hx⟩ : ∃ q, p[i]? = some q := ⟨p[i], by simp [hi']⟩
      have hdrop : p.drop i = q :: p.drop (i + 1) := by
        rw [List.drop_eq_getElem_cons hi']; congr 1; exact (List.getElem?_eq_some_iff.1 hx).2
      have hil : (i : Int) < (p.length : Int) := by omega
      refine W_skip (K7 _ _ ?_)
      refine W_seq fun Z9 K9 => ?_
      refine W_block ?_
      refine W_seq fun Z10 K10 => ?_
      refine W_draw [1, 3, 5, 7, 25] [0, 1, 2, 3, 4, 5, 6, 7] [] [[], [], [0, 1], [0, 1, 2], [0, 1, 2, 3], [], [5], [0, 1, 2, 3, 4, 5, 6]] mixed (by kernel_rfl) fun R hR => ?_
      simp only [go_sem, cnCells, blCells, hx, hil]
      try refine And.intro (by repeat' (first | refine And.intro ?_ ?_ | exact GOr_right (fun _ => by simp only [go_sem, cnCells, blCells, hx, hil]))) ?_
      refine hR _ _ (K10 _ _ ?_); clear hR R; try clear K10 Z10
      try simp only [go_sem, cnCells, blCells, hx, hil]
      refine W_cond rfl (fun c3 => ?_) (fun c3 => ?_)
      ·
        try simp only [nrm] at c3
        refine W_sr [6] fun R hR => ?_
        simp only [go_sem, cnCells, blCells, hx, hil]
        refine hR _ _ ?_; clear hR R
        try simp only [go_sem, cnCells, blCells, hx, hil]
        refine W_ret ?_
        simp only [go_sem, cnCells, blCells, hx, hil]
        refine ⟨.inr (by trivial), ?_⟩
        first | refine Fsa hcl rfl ?_ | refine Fse hcl rfl ?_
        try simp only [go_sem]
        all_goals
          rw [← hres]; unfold chkB1; rw [if_neg (by simpa using c1), if_pos]
          rw [has_iff]
          exact List.mem_map.2 ⟨q, List.mem_of_getElem? hx, by omega⟩
      ·
        try simp only [nrm] at c3
        refine W_skip (K9 _ _ ?_)
        refine W_region [1, 3, 5, 7] fun R hR => ?_
        simp only [go_sem, cnCells, blCells, hx, hil]
        try simp (disch := omega) only [wrapI, wrapU]
        refine hR _ _ ?_; clear hR R
        try simp only [go_sem, cnCells, blCells, hx, hil]
        refine ⟨i + 1, ?_, by (try simp only []); omega, ?_⟩
        · first | exact Weak.refl | exact Wqq
        · try dsimp only
          refine ⟨hi', ?_⟩
          rw [List.take_add_one, hx]
          simp only [Option.toList_some, List.map_append, List.map_cons, List.map_nil]
          simp only [has] at hno ⊢
          rw [List.any_append, hno]
          simp
          first | omega | exact c3
    ·
      try simp only [nrm] at c2
      have hie : p.length = i := by omega
      rw [← hie, List.take_length] at hno
      have hB : res = chkBl c b := by rw [← hres]; unfold chkB1; rw [if_neg (by simpa using c1), if_neg (by rw [hno]; simp)]
      refine W_exit ?_
      simp only [go_sem, cnCells, blCells]
      refine K5 _ _ ?_
      refine W_seq fun Z12 K12 => ?_
      refine W_sr [3, 5, 33] fun R hR => ?_
      simp only [go_sem, cnCells, blCells, hw1]
      try simp (disch := omega) only [wrapI, wrapU]
      refine GCall_of (within_pc Y _ b.round 0 ((c.rounds.length : Int) - 1)) ?_
      simp only [go_sem, cnCells, blCells, hw1]
      try simp (disch := omega) only [wrapI, wrapU]
      refine hR _ _ ?_; clear hR R
      try simp only [go_sem, cnCells, blCells]
      refine W_cond rfl (fun c4 => ?_) (fun c4 => ?_)
      ·
        try simp only [nrm] at c4
        refine W_sr [6] fun R hR => ?_
        simp only [go_sem, cnCells, blCells]
        refine hR _ _ ?_; clear hR R
        try simp only [go_sem, cnCells, blCells]
        refine W_ret ?_
        simp only [go_sem, cnCells, blCells]
        refine ⟨.inr (by trivial), ?_⟩
        first | refine Fsa hcl rfl ?_ | refine Fse hcl rfl ?_
        try simp only [go_sem]
        all_goals
          rw [hB]
          first
          | (rw [chkBl_bad (by unfold bl1 unl; simp [c4]) (by omega) (by omega)])
          | (unfold chkBl blEs bl1 bl2 bl3 bl4 bl5 unl
             simp_all [firstE, inR]; done)
          | (unfold chkBl blEs bl1 bl2 bl3 bl4 bl5 unl
             simp_all [firstE, inR]
             omega)
      ·
        try simp only [nrm] at c4
        refine W_skip (K12 _ _ ?_)
        refine W_seq fun Z15 K15 => ?_
        refine W_sr [3, 5, 35] fun R hR => ?_
        simp only [go_sem, cnCells, blCells]
        refine hR _ _ ?_; clear hR R
        try simp only [go_sem, cnCells, blCells]
        refine W_block ?_
        refine W_sr [3, 5, 35, 36] fun R hR => ?_
        simp only [go_sem, cnCells, blCells]
        refine hR _ _ ?_; clear hR R
        try simp only [go_sem, cnCells, blCells]
        refine W_cond rfl (fun c5 => ?_) (fun c5 => ?_)
        ·
          try simp only [nrm] at c5
          refine W_seq fun Z18 K18 => ?_
          refine W_seq fun Z19 K19 => ?_
          refine W_regionJ [3, 5, 53] [(53, .bool (!(inR b.voter 0 (c.juries - 1)) || !(inR b.song 0 (c.songs - 1))))] ?_ fun R hR => ?_
          · refine K19 _ _ ?_
            simp only [go_sem, cnCells, blCells]
            refine W_cond rfl (fun c6 => ?_) (fun c6 => ?_)
            ·
              try simp only [nrm] at c6
              refine W_sr [6] fun R hR => ?_
              simp only [go_sem, cnCells, blCells]
              refine hR _ _ ?_; clear hR R
              try simp only [go_sem, cnCells, blCells]
              refine W_ret ?_
              simp only [go_sem, cnCells, blCells]
              refine ⟨.inr (by trivial), ?_⟩
              first | refine Fsa hcl rfl ?_ | refine Fse hcl rfl ?_
              try simp only [go_sem]
              all_goals
                rw [hB]
                first
                | (rw [chkBl_bad (by unfold bl1 unl; simp [c4]) (by omega) (by omega)])
                | (unfold chkBl blEs bl1 bl2 bl3 bl4 bl5 unl
                   simp_all [firstE, inR]; done)
                | (unfold chkBl blEs bl1 bl2 bl3 bl4 bl5 unl
                   simp_all [firstE, inR]
                   omega)
            ·
              try simp only [nrm] at c6
              refine W_skip (K18 _ _ ?_)
              refine W_seq fun Z21 K21 => ?_
              refine W_sr [59] fun R hR => ?_
              simp only [go_sem, cnCells, blCells]
              refine GCall_of (within_pc Y _ b.points 0 c.most) ?_
              simp only [go_sem, cnCells, blCells]
              refine hR _ _ ?_; clear hR R
              try simp only [go_sem, cnCells, blCells]
              refine W_cond rfl (fun c7 => ?_) (fun c7 => ?_)
              ·
                try simp only [nrm] at c7
                refine W_sr [6] fun R hR => ?_
                simp only [go_sem, cnCells, blCells]
                refine hR _ _ ?_; clear hR R
                try simp only [go_sem, cnCells, blCells]
                refine W_ret ?_
                simp only [go_sem, cnCells, blCells]
                refine ⟨.inr (by trivial), ?_⟩
                first | refine Fsa hcl rfl ?_ | refine Fse hcl rfl ?_
                try simp only [go_sem]
                all_goals
                  rw [hB]
                  first
                  | (rw [chkBl_bad (by unfold bl1 unl; simp [c4]) (by omega) (by omega)])
                  | (unfold chkBl blEs bl1 bl2 bl3 bl4 bl5 unl
                     simp_all [firstE, inR]; done)
                  | (unfold chkBl blEs bl1 bl2 bl3 bl4 bl5 unl
                     simp_all [firstE, inR]
                     omega)
              ·
                try simp only [nrm] at c7
                refine W_skip (K21 _ _ ?_)
                refine W_sr [6] fun R hR => ?_
                simp only [go_sem, cnCells, blCells]
                refine hR _ _ ?_; clear hR R
                try simp only [go_sem, cnCells, blCells]
                refine W_ret ?_
                simp only [go_sem, cnCells, blCells]
                refine ⟨.inr (by trivial), ?_⟩
                first | refine Fsa hcl rfl ?_ | refine Fse hcl rfl ?_
                try simp only [go_sem]
                all_goals
                  rw [hB]
                  first
                  | (rw [chkBl_bad (by unfold bl1 unl; simp [c4]) (by omega) (by omega)])
                  | (unfold chkBl blEs bl1 bl2 bl3 bl4 bl5 unl
                     simp_all [firstE, inR]; done)
                  | (unfold chkBl blEs bl1 bl2 bl3 bl4 bl5 unl
                     simp_all [firstE, inR]
                     omega)
          · simp only [go_sem, cnCells, blCells, hw2, hw3]
            try simp (disch := omega) only [wrapI, wrapU]
            refine GCall_of (within_pc Y _ b.voter 0 (c.juries - 1)) ?_
            simp only [go_sem, cnCells, blCells, hw2, hw3]
            refine GWant_split (fun g1 => ?_) (fun g1 => ?_)
            · try simp only [Bool.not_eq_true', Bool.not_eq_false'] at g1
              have n1 := g1; try simp only [nrm] at n1
              try simp (disch := omega) only [wrapI, wrapU] at n1
              simp only [go_sem, cnCells, blCells, hw2, hw3, g1]
              try simp (disch := omega) only [wrapI, wrapU]
              refine GCall_of (within_pc Y _ b.song 0 (c.songs - 1)) ?_
              simp only [go_sem, cnCells, blCells, hw2, hw3, g1]
              try simp (disch := omega) only [wrapI, wrapU]
              refine hR _ ?_
              all_goals try simp only [go_sem, cnCells, blCells, hw2, hw3]
              all_goals
                first | rfl | (simp [*]; done) | (simp_all; done)
            · try simp only [Bool.not_eq_true', Bool.not_eq_false'] at g1
              have n1 := g1; try simp only [nrm] at n1
              try simp (disch := omega) only [wrapI, wrapU] at n1
              simp only [go_sem, cnCells, blCells, hw2, hw3, g1]
              try simp (disch := omega) only [wrapI, wrapU]
              refine hR _ ?_
              all_goals try simp only [go_sem, cnCells, blCells, hw2, hw3]
              all_goals
                first | rfl | (simp [*]; done) | (simp_all; done)
        ·
          try simp only [nrm] at c5
          refine W_sr [3, 5, 60] fun R hR => ?_
          simp only [go_sem, cnCells, blCells]
          refine hR _ _ ?_; clear hR R
          try simp only [go_sem, cnCells, blCells]
          refine W_cond rfl (fun c8 => ?_) (fun c8 => ?_)
          ·
            try simp only [nrm] at c8
            refine W_seq fun Z26 K26 => ?_
            refine W_seq fun Z27 K27 => ?_
            refine W_regionJ [5, 77] [(77, .bool (!(inR b.voter 0 (c.members - 1)) || !(inR b.song 0 (c.songs - 1))))] ?_ fun R hR => ?_
            · refine K27 _ _ ?_
              simp only [go_sem, cnCells, blCells]
              refine W_cond rfl (fun c9 => ?_) (fun c9 => ?_)
              ·
                try simp only [nrm] at c9
                refine W_sr [6] fun R hR => ?_
                simp only [go_sem, cnCells, blCells]
                refine hR _ _ ?_; clear hR R
                try simp only [go_sem, cnCells, blCells]
                refine W_ret ?_
                simp only [go_sem, cnCells, blCells]
                refine ⟨.inr (by trivial), ?_⟩
                first | refine Fsa hcl rfl ?_ | refine Fse hcl rfl ?_
                try simp only [go_sem]
                all_goals
                  rw [hB]
                  first
                  | (rw [chkBl_bad (by unfold bl1 unl; simp [c4]) (by omega) (by omega)])
                  | (unfold chkBl blEs bl1 bl2 bl3 bl4 bl5 unl
                     simp_all [firstE, inR]; done)
                  | (unfold chkBl blEs bl1 bl2 bl3 bl4 bl5 unl
                     simp_all [firstE, inR]
                     omega)
              ·
                try simp only [nrm] at c9
                refine W_skip (K26 _ _ ?_)
                refine W_seq fun Z29 K29 => ?_
                refine W_sr [80] fun R hR => ?_
                simp only [go_sem, cnCells, blCells]
                refine hR _ _ ?_; clear hR R
                try simp only [go_sem, cnCells, blCells]
                refine W_cond rfl (fun c10 => ?_) (fun c10 => ?_)
                ·
                  try simp only [nrm] at c10
                  refine W_sr [6] fun R hR => ?_
                  simp only [go_sem, cnCells, blCells]
                  refine hR _ _ ?_; clear hR R
                  try simp only [go_sem, cnCells, blCells]
                  refine W_ret ?_
                  simp only [go_sem, cnCells, blCells]
                  refine ⟨.inr (by trivial), ?_⟩
                  first | refine Fsa hcl rfl ?_ | refine Fse hcl rfl ?_
                  try simp only [go_sem]
                  all_goals
                    rw [hB]
                    first
                    | (rw [chkBl_bad (by unfold bl1 unl; simp [c4]) (by omega) (by omega)])
                    | (unfold chkBl blEs bl1 bl2 bl3 bl4 bl5 unl
                       simp_all [firstE, inR]; done)
                    | (unfold chkBl blEs bl1 bl2 bl3 bl4 bl5 unl
                       simp_all [firstE, inR]
                       omega)
                ·
                  try simp only [nrm] at c10
                  refine W_skip (K29 _ _ ?_)
                  refine W_sr [6] fun R hR => ?_
                  simp only [go_sem, cnCells, blCells]
                  refine hR _ _ ?_; clear hR R
                  try simp only [go_sem, cnCells, blCells]
                  refine W_ret ?_
                  simp only [go_sem, cnCells, blCells]
                  refine ⟨.inr (by trivial), ?_⟩
                  first | refine Fsa hcl rfl ?_ | refine Fse hcl rfl ?_
                  try simp only [go_sem]
                  all_goals
                    rw [hB]
                    first
                    | (rw [chkBl_bad (by unfold bl1 unl; simp [c4]) (by omega) (by omega)])
                    | (unfold chkBl blEs bl1 bl2 bl3 bl4 bl5 unl
                       simp_all [firstE, inR]; done)
                    | (unfold chkBl blEs bl1 bl2 bl3 bl4 bl5 unl
                       simp_all [firstE, inR]
                       omega)
            · simp only [go_sem, cnCells, blCells, hw4, hw3]
              try simp (disch := omega) only [wrapI, wrapU]
              refine GCall_of (within_pc Y _ b.voter 0 (c.members - 1)) ?_
              simp only [go_sem, cnCells, blCells, hw4, hw3]
              refine GWant_split (fun g2 => ?_) (fun g2 => ?_)
              · try simp only [Bool.not_eq_true', Bool.not_eq_false'] at g2
                have n2 := g2; try simp only [nrm] at n2
                try simp (disch := omega) only [wrapI, wrapU] at n2
                simp only [go_sem, cnCells, blCells, hw4, hw3, g2]
                try simp (disch := omega) only [wrapI, wrapU]
                refine GCall_of (within_pc Y _ b.song 0 (c.songs - 1)) ?_
                simp only [go_sem, cnCells, blCells, hw4, hw3, g2]
                try simp (disch := omega) only [wrapI, wrapU]
                refine hR _ ?_
                all_goals try simp only [go_sem, cnCells, blCells, hw4, hw3]
                all_goals
                  first | rfl | (simp [*]; done) | (simp_all; done)
              · try simp only [Bool.not_eq_true', Bool.not_eq_false'] at g2
                have n2 := g2; try simp only [nrm] at n2
                try simp (disch := omega) only [wrapI, wrapU] at n2
                simp only [go_sem, cnCells, blCells, hw4, hw3, g2]
                try simp (disch := omega) only [wrapI, wrapU]
                refine hR _ ?_
                all_goals try simp only [go_sem, cnCells, blCells, hw4, hw3]
                all_goals
                  first | rfl | (simp [*]; done) | (simp_all; done)
          ·
            try simp only [nrm] at c8
            refine W_skip (K15 _ _ ?_)
            refine W_sr [6] fun R hR => ?_
            simp only [go_sem, cnCells, blCells]
            refine hR _ _ ?_; clear hR R
            try simp only [go_sem, cnCells, blCells]
            refine W_ret ?_
            simp only [go_sem, cnCells, blCells]
            refine ⟨.inr (by trivial), ?_⟩
            first | refine Fsa hcl rfl ?_ | refine Fse hcl rfl ?_
            try simp only [go_sem]
            all_goals
              rw [hB]
              first
              | (rw [chkBl_bad (by unfold bl1 unl; simp [c4]) (by omega) (by omega)])
              | (unfold chkBl blEs bl1 bl2 bl3 bl4 bl5 unl
                 simp_all [firstE, inR]; done)
              | (unfold chkBl blEs bl1 bl2 bl3 bl4 bl5 unl
                 simp_all [firstE, inR]
                 omega)
set_option maxHeartbeats 8000000 in
theorem rchkBls_pc (Y : YEnv) (σ : Sg) (c : Contest) (l : List Ballot) (hr : c.rounds.length < 2 ^ 40) (hl : l.length < 2 ^ 40) :
 PC Tryz.prog Y 57 [cnPV c, bls l] σ (I (chkBls c l)) (σ) := by
 refine PC_of_W Tryz.func57 rfl (by kernel_rfl) Tryz.ntmps57 (by simp) fun hcl hca => ?_
 obtain ⟨res, hres⟩ : ∃ r, chkBls c l = r := ⟨_, rfl⟩
 rw [hres]
 refine W_sr [1, 2] fun R hR => ?_
 simp only [go_sem]
 refine hR _ _ ?_; clear hR R
 try simp only [go_sem]
 refine W_seq fun Z2 K2 => ?_
 refine W_sr [1, 2, 5] fun R hR => ?_
 simp only [go_sem]
 refine GCall_of (rCheck_pc Y _ c hr) ?_
 simp only [go_sem]
 refine hR _ _ ?_; clear hR R
 try simp only [go_sem]
 refine W_sr [1, 2, 5, 11] fun R hR => ?_
 simp only [go_sem]
 refine hR _ _ ?_; clear hR R
 try simp only [go_sem]
 refine W_cond rfl (fun c1 => ?_) (fun c1 => ?_)
 ·
  try simp only [nrm] at c1
  refine W_sr [4] fun R hR => ?_
  simp only [go_sem]
  refine hR _ _ ?_; clear hR R
  try simp only [go_sem]
  refine W_ret ?_
  simp only [go_sem]
  refine ⟨.inr (by trivial), ?_⟩
  first | refine Fsa hcl rfl ?_ | refine Fse hcl rfl ?_
  try simp only [go_sem]
  all_goals
   rw [← hres]; unfold chkBls; rw [if_pos (by simpa using c1)]
 try simp only [nrm] at c1
 refine W_skip (K2 _ _ ?_)
 refine W_seq fun Z6 K6 => ?_
 refine W_sr [1, 2, 15] fun R hR => ?_
 simp only [go_sem]
 refine hR _ _ ?_; clear hR R
 try simp only [go_sem]
 refine W_cond rfl (fun c2 => ?_) (fun c2 => ?_)
 ·
  try simp only [nrm] at c2
  refine W_sr [4] fun R hR => ?_
  simp only [go_sem]
  refine hR _ _ ?_; clear hR R
  try simp only [go_sem]
  refine W_ret ?_
  simp only [go_sem]
  refine ⟨.inr (by trivial), ?_⟩
  first | refine Fsa hcl rfl ?_ | refine Fse hcl rfl ?_
  try simp only [go_sem]
  all_goals
   rw [← hres]; unfold chkBls; rw [if_neg (by simp [c1]), if_pos (by omega)]
 try simp only [nrm] at c2
 refine W_skip (K6 _ _ ?_)
 refine W_seq fun Z9 K9 => ?_
 refine W_sr [1, 2, 6] fun R hR => ?_
 simp only [go_sem]
 refine hR _ _ ?_; clear hR R
 try simp only [go_sem]
 refine W_block ?_
 have hV := cnV_of c1
 refine W_loopS (α := Nat) (fun (i : Nat) => [(6, I i)]) (fun (i : Nat) => i ≤ l.length ∧ res = chkBlsF c ((l.take i).map (·.serial)) (l.drop i)) (fun (i : Nat) => l.length - i) (0) rfl (⟨Nat.zero_le _, by rw [← hres]; unfold chkBls; rw [if_neg (by simp [c1]), if_neg (by omega)]; rfl⟩) ?_
 rintro i ⟨hi, hinv⟩
 refine W_seq fun Z11 K11 => ?_
 refine W_sr [1, 2, 6, 19] fun R hR => ?_
 simp only [go_sem]
 refine hR _ _ ?_; clear hR R
 try simp only [go_sem]
 refine W_cond rfl (fun c3 => ?_) (fun c3 => ?_)
 ·
  try simp only [nrm] at c3
  have hi' : i < l.length := by first | assumption | omega
  obtain ⟨b, hx⟩ : ∃ b, l[i]? = some b := ⟨l[i], by simp [hi']⟩
  have hdrop : l.drop i = b :: l.drop (i + 1) := by
   rw [List.drop_eq_getElem_cons hi']; congr 1; exact (List.getElem?_eq_some_iff.1 hx).2
  rw [hdrop, chkF_step] at hinv
  have hil : (i : Int) < (l.length : Int) := by omega
  have hi0 : (0 : Int) ≤ (i : Int) := by omega
  have hile : i ≤ l.length := hi
  have hsn : l.take (i + 1) = l.take i ++ [b] := by rw [List.take_add_one, hx]; rfl
  rw [← hsn] at hinv
  refine W_skip (K11 _ _ ?_)
  refine W_seq fun Z13 K13 => ?_
  refine W_block ?_
  refine W_seq fun Z14 K14 => ?_
  refine W_draw [1, 2, 6, 7] [0, 1, 2, 3, 4, 5, 6, 7, 8, 9] [] [[], [], [], [1, 2], [], [], [4, 5], [4, 5, 6], [0, 1, 2, 3, 4, 5, 6, 7], [0, 1, 2, 3, 4, 5, 6, 7, 8]] mixed (by kernel_rfl) fun R hR => ?_
  simp only [go_sem, hx, hx, hil, hile, hi0, ← List.map_take]
  refine GCall_of (rchkB_pc Y _ c (l.take i) b _ hV (by rw [List.length_take]; omega)) ?_
  simp only [go_sem, hx, hx, hil, hile, hi0, ← List.map_take]
  try refine And.intro (by repeat' (first | refine And.intro ?_ ?_ | exact GOr_right (fun _ => by simp only [go_sem, hx, hx, hil, hile, hi0, ← List.map_take]))) ?_
  refine hR _ _ (K14 _ _ ?_); clear hR R; try clear K14 Z14
  try simp only [go_sem, hx]
  refine W_sr [1, 2, 6, 7, 32] fun R hR => ?_
  simp only [go_sem, hx]
  refine hR _ _ ?_; clear hR R
  try simp only [go_sem, hx]
  refine W_cond rfl (fun c4 => ?_) (fun c4 => ?_)
  ·
   try simp only [nrm] at c4
   refine W_sr [4] fun R hR => ?_
   simp only [go_sem, hx]
   refine hR _ _ ?_; clear hR R
   try simp only [go_sem, hx]
   refine W_ret ?_
   simp only [go_sem, hx]
   refine ⟨.inr (by trivial), ?_⟩
   first | refine Fsa hcl rfl ?_ | refine Fse hcl rfl ?_
   try simp only [go_sem]
   all_goals
    rw [hinv, if_pos c4]
  try simp only [nrm] at c4
  refine W_skip (K13 _ _ ?_)
  refine W_region [1, 2, 6] fun R hR => ?_
  simp only [go_sem, hx]
  try simp (disch := omega) only [wrapI, wrapU]
  refine hR _ _ ?_; clear hR R
  try simp only [go_sem, hx]
  refine ⟨i + 1, ?_, by (try simp only []); omega, ?_⟩
  ·first | exact Weak.refl | exact Wqq
  try dsimp only
  refine ⟨hi', ?_⟩
  rw [hinv, if_neg (by simp [c4])]
 try simp only [nrm] at c3
 have hdrop : l.drop i = [] := List.drop_eq_nil_of_le (by omega)
 rw [hdrop] at hinv
 simp only [chkBlsF] at hinv
 refine W_exit ?_
 simp only [go_sem]
 refine K9 _ _ ?_
 refine W_sr [4] fun R hR => ?_
 simp only [go_sem]
 refine hR _ _ ?_; clear hR R
 try simp only [go_sem]
 refine W_ret ?_
 simp only [go_sem]
 refine ⟨.inr (by trivial), ?_⟩
 first | refine Fsa hcl rfl ?_ | refine Fse hcl rfl ?_
 try simp only [go_sem]
 all_goals
  rw [hinv]
theorem roL_bools {xs : List Bool} : PV.roL (xs.map PV.bool) = xs.map PV.bool := roL_enc fun x => by simp only [ro_bool]
attribute [go_sem] roL_bools
theorem okC_bools {xs : List Bool} : okC 1 (xs.map PV.bool) = True := okC_map fun x => by simp [okC, PV.cells, PV.scalar]
attribute [go_sem] okC_bools
/-- The first song of a list that is not left out. -/
def firstLeft (out l : List Int) : Option Int := l.find? fun s => !has out s
/-- How many lists are for a song. -/
def manyFor (out : List Int) (ls : List (List Int)) (s : Int) : Nat := ls.countP fun l => decide (firstLeft out l = some s)
theorem manyFor_snoc (out : List Int) (ls : List (List Int)) (l : List Int) (s : Int) : manyFor out (ls ++ [l]) s = manyFor out ls s + (if firstLeft out l = some s then 1 else 0) := by
 simp [manyFor, List.countP_append, List.countP_cons]
theorem manyFor_le (out : List Int) (ls : List (List Int)) (s : Int) : manyFor out ls s ≤ ls.length := List.countP_le_length
/-- The last one of those for which the fewest lists are. -/
def worstF (out : List Int) (ls : List (List Int)) : Nat → Int
 | 0 => -1
 | i + 1 => if !has out i && (decide (worstF out ls i < 0) || decide (manyFor out ls i ≤ manyFor out ls (worstF out ls i))) then (i : Int) else worstF out ls i
theorem worstF_bd (out : List Int) (ls : List (List Int)) : ∀ i, (worstF out ls i = -1 ∧ ∀ s : Nat, s < i → has out s = true) ∨ (0 ≤ worstF out ls i ∧ worstF out ls i < i ∧ has out (worstF out ls i) = false) := by
 intro i
 induction i with
 | zero => exact .inl ⟨rfl, fun s h => by omega⟩
 | succ i ih =>
  simp only [worstF]
  split
  ·rename_i h
   right
   simp only [Bool.and_eq_true, Bool.not_eq_true'] at h
   exact ⟨by omega, by omega, h.1⟩
  rename_i h
  rcases ih with ⟨h1, h2⟩ | ⟨h1, h2, h3⟩
  ·left
   refine ⟨h1, fun s hs => ?_⟩
   by_cases e : s = i
   ·subst e
    rw [h1] at h
    simpa using h
   exact h2 s (by omega)
  right; exact ⟨h1, by omega, h3⟩
/-- So many songs, left out. -/
def runU (n : Nat) (ls : List (List Int)) : Nat → List Int
 | 0 => []
 | i + 1 => runU n ls i ++ [worstF (runU n ls i) ls n]
theorem runU_len (n : Nat) (ls : List (List Int)) : ∀ i, (runU n ls i).length = i := by
 intro i
 induction i with
 | zero => rfl
 | succ i ih => simp [runU, ih]
theorem sub_len : ∀ {l l' : List Int}, l.Nodup → (∀ x, x ∈ l → x ∈ l') → l.length ≤ l'.length := by
 intro l
 induction l with
 | nil => intro l' _ _; simp
 | cons a l ih =>
  intro l' hn hs
  obtain ⟨h1, h2⟩ := List.nodup_cons.1 hn
  have ha := hs a (by simp)
  have := ih (l' := l'.erase a) h2 fun x hx => (List.mem_erase_of_ne (show x ≠ a from fun e => h1 (by rw [← e]; exact hx))).2 (hs x (by simp [hx]))
  rw [List.length_erase_of_mem ha] at this
  have hp := List.length_pos_of_mem ha
  simp only [List.length_cons]
  omega
theorem some_left {n : Nat} {out : List Int} (h : out.length < n) : ∃ s : Nat, s < n ∧ has out s = false := by
 refine Classical.byContradiction fun hh => ?_
 have hall : ∀ s : Nat, s < n → has out s = true := fun s hs => by
  cases e : has out s with
  | true => rfl
  | false => exact absurd ⟨s, hs, e⟩ hh
 have hnd : ((List.range n).map fun s : Nat => (s : Int)).Nodup := by
  rw [List.nodup_iff_pairwise_ne, List.pairwise_map]
  exact (List.nodup_iff_pairwise_ne.1 List.nodup_range).imp fun h e => h (by omega)
 have := sub_len hnd (l' := out) fun x hx => by
  obtain ⟨s, hs, rfl⟩ := List.mem_map.1 hx
  exact has_iff.1 (hall s (List.mem_range.1 hs))
 simp at this
 omega
theorem worst_ok {n : Nat} {out : List Int} (ls : List (List Int)) (h : out.length < n) : 0 ≤ worstF out ls n ∧ worstF out ls n < n ∧ has out (worstF out ls n) = false := by
 rcases worstF_bd out ls n with ⟨_, h2⟩ | h2
 ·obtain ⟨s, hs, e⟩ := some_left h
  rw [h2 s hs] at e; cases e
 exact h2
theorem runU_ok (n : Nat) (ls : List (List Int)) : ∀ i, i ≤ n → (∀ x, x ∈ runU n ls i → 0 ≤ x ∧ x < n) ∧ (runU n ls i).Nodup := by
 intro i
 induction i with
 | zero => intro _; exact ⟨fun x hx => absurd hx (by simp [runU]), by simp [runU]⟩
 | succ i ih =>
  intro hi
  obtain ⟨h1, h2⟩ := ih (by omega)
  obtain ⟨w1, w2, w3⟩ := worst_ok (n := n) (out := runU n ls i) ls (by rw [runU_len]; omega)
  refine ⟨fun x hx => ?_, ?_⟩
  ·simp only [runU, List.mem_append, List.mem_singleton] at hx
   rcases hx with hx | rfl
   ·exact h1 x hx
   exact ⟨w1, w2⟩
  simp only [runU]
  rw [List.nodup_append]
  refine ⟨h2, by simp, fun a ha b hb e => ?_⟩
  simp at hb
  subst hb e
  rw [has_iff.2 ha] at w3; cases w3
/-- The first song that is not left out. -/
def winF (out : List Int) : Nat → Nat → Int
 | 0, i => i
 | k + 1, i => if has out i then winF out k (i + 1) else i
/-- Songs left out, the one that remains, an error. -/
def runoffA (n : Int) (ls : List (List Int)) : List Int × Int × Int :=
 if chkPf n ls ≠ 0 then ([], 0, chkPf n ls) else (runU n.toNat ls (n.toNat - 1), winF (runU n.toNat ls (n.toNat - 1)) n.toNat 0, 0)
def goneC (out : List Int) : List PV := (List.range 8).map fun s : Nat => PV.bool (has out s)
def manyC (out : List Int) (ls : List (List Int)) : List PV := (List.range 8).map fun s : Nat => I (manyFor out ls s : Nat)
theorem goneC_get {out : List Int} {s : Nat} (h : s < 8) : (goneC out)[s]? = some (.bool (has out s)) := by simp [goneC, h]
theorem manyC_get {out : List Int} {ls : List (List Int)} {s : Nat} (h : s < 8) : (manyC out ls)[s]? = some (I (manyFor out ls s : Nat)) := by simp [manyC, h]
theorem has_snoc {out : List Int} {w v : Int} : has (out ++ [w]) v = (has out v || decide (w = v)) := by simp [has, List.any_append]
theorem goneC_set {out : List Int} {s : Nat} (h : s < 8) : (goneC out).set s (.bool true) = goneC (out ++ [(s : Int)]) := by
 apply List.ext_getElem?
 intro i
 by_cases e : s = i
 ·subst e
  rw [List.getElem?_set_self (by simpa [goneC] using h), goneC_get h, has_snoc]
  simp
 rw [List.getElem?_set_ne e]
 by_cases hi : i < 8
 ·rw [goneC_get hi, goneC_get hi, has_snoc]
  simp; omega
 simp [goneC, hi]
theorem manyC_none {out : List Int} {ls : List (List Int)} {l : List Int} (h : firstLeft out l = none) : manyC out (ls ++ [l]) = manyC out ls := by
 unfold manyC
 refine List.map_congr_left fun s _ => ?_
 rw [manyFor_snoc, if_neg (by rw [h]; simp)]
 rfl
theorem manyC_some {out : List Int} {ls : List (List Int)} {l : List Int} {s : Nat} (h : s < 8) (hf : firstLeft out l = some (s : Int)) : (manyC out ls).set s (I ((manyFor out ls s : Nat) + 1)) = manyC out (ls ++ [l]) := by
 apply List.ext_getElem?
 intro i
 by_cases e : s = i
 ·subst e
  rw [List.getElem?_set_self (by simpa [manyC] using h), manyC_get h, manyFor_snoc, if_pos hf]
  rfl
 rw [List.getElem?_set_ne e]
 by_cases hi : i < 8
 ·rw [manyC_get hi, manyC_get hi, manyFor_snoc, if_neg (by rw [hf]; intro h; injection h with h; omega)]
  rfl
 simp [manyC, hi]
theorem firstLeft_at {out l : List Int} {k : Nat} {v : Int} (hk : ∀ x, x ∈ l.take k → has out x = true) (hv : l[k]? = some v) (h : has out v = false) : firstLeft out l = some v := by
 have hlt := (List.getElem?_eq_some_iff.1 hv).1
 unfold firstLeft
 rw [List.find?_eq_some_iff_append]
 refine ⟨by simp [h], l.take k, l.drop (k + 1), ?_, fun x hx => by simp [hk x hx]⟩
 conv => lhs; rw [← List.take_append_drop k l]
 rw [List.drop_eq_getElem_cons hlt, (List.getElem?_eq_some_iff.1 hv).2]
theorem firstLeft_none {out l : List Int} (h : ∀ x, x ∈ l → has out x = true) : firstLeft out l = none := by
 unfold firstLeft
 rw [List.find?_eq_none]
 intro x hx
 simp [h x hx]
theorem goneC_len (out : List Int) : (goneC out).length = 8 := by simp [goneC]
theorem manyC_len (out : List Int) (ls : List (List Int)) : (manyC out ls).length = 8 := by simp [manyC]
theorem goneC_clean {a b c : Nat} (out : List Int) : CleanAll a b c (goneC out) := by
 intro p hp
 obtain ⟨s, _, rfl⟩ := List.mem_map.1 hp
 simp only [go_sem]
theorem beqB2 {a b : Bool} : eqPV Tryz.prog 4 (.bool a) (.bool b) = some (decide (a = b)) := by cases a <;> cases b <;> kernel_rfl
theorem sl123 {id : Nat} {k : IntKind} {n : Nat} (h0 : 0 < n) (h8 : n ≤ 8) : slicePV Tryz.prog 123 (.ptr id 0) none (some (.int k n)) none = some (.msl id 0 n) := by
 unfold slicePV
 rw [Tryz.underlying123]
 simp only [Tryz.underlying4, bnd]
 simp [h8]
 omega
def idxF (out : List Int) : Nat → Nat → Int
 | 0, _ => -1
 | k + 1, i => if has out i = false then i else idxF out k (i + 1)
theorem idxF_eq {n : Nat} {out : List Int} : ∀ (k i : Nat), i + k = n → (∃ s : Nat, i ≤ s ∧ s < n ∧ has out s = false) → idxF out k i = winF out k i := by
 intro k
 induction k with
 | zero => rintro i h ⟨s, h1, h2, _⟩; omega
 | succ k ih =>
  rintro i h ⟨s, h1, h2, h3⟩
  simp only [idxF, winF]
  cases e : has out i with
  | false => simp
  | true =>
   simp only [Bool.true_eq_false, if_false, if_true]
   exact ih (i + 1) (by omega) ⟨s, by
    by_cases q : s = i
    ·subst q; rw [e] at h3; cases h3
    omega, h2, h3⟩
set_option maxHeartbeats 2000000 in
theorem gIndex_pc (Y : YEnv) (σ : Sg) (out : List Int) (id n : Nat) (hn8 : n ≤ 8) (hd : σ.store[id]? = some (some (goneC out))) :
 PC Tryz.prog Y 64 [.msl id 0 n, .bool false] σ (I (idxF out n 0)) (σ) := by
 refine PC_of_W Tryz.func64 rfl (by kernel_rfl) Tryz.ntmps64 (by simp) fun hcl hca => ?_
 obtain ⟨res, hres⟩ : ∃ r, idxF out n 0 = r := ⟨_, rfl⟩
 rw [hres]
 refine W_sr [0, 1] fun R hR => ?_
 simp only [go_sem, beqB2, ldS_at hd]
 refine hR _ _ ?_; clear hR R
 try simp only [go_sem, beqB2, ldS_at hd]
 refine W_seq fun Z2 K2 => ?_
 refine W_sr [0, 1, 7, 8] fun R hR => ?_
 simp only [go_sem, beqB2, ldS_at hd]
 refine hR _ _ ?_; clear hR R
 try simp only [go_sem, beqB2, ldS_at hd]
 refine W_block ?_
 refine W_loopS (α := Nat) (fun (i : Nat) => [(8, I i)]) (fun (i : Nat) => i ≤ n ∧ res = idxF out (n - i) i) (fun (i : Nat) => n - i) (0) rfl (⟨Nat.zero_le _, hres.symm⟩) ?_
 rintro i ⟨hi, hinv⟩
 refine W_sr [0, 1, 7, 8, 9] fun R hR => ?_
 simp only [go_sem, beqB2, ldS_at hd]
 refine hR _ _ ?_; clear hR R
 try simp only [go_sem, beqB2, ldS_at hd]
 refine W_seq fun Z5 K5 => ?_
 refine W_cond rfl (fun c1 => ?_) (fun c1 => ?_)
 ·
  try simp only [nrm] at c1
  have hin : i < n := by first | assumption | omega
  have hin2 : (i : Int) < (n : Int) := by omega
  obtain ⟨k, hk⟩ : ∃ k, n - i = k + 1 := ⟨n - i - 1, by omega⟩
  rw [hk] at hinv
  simp only [idxF] at hinv
  have hg := goneC_get (out := out) (s := i) (by omega)
  refine W_skip (K5 _ _ ?_)
  refine W_seq fun Z6 K6 => ?_
  refine W_block ?_
  refine W_sr [0, 1, 5, 7, 8] fun R hR => ?_
  simp only [go_sem, beqB2, ldS_at hd, hg]
  refine hR _ _ ?_; clear hR R
  try simp only [go_sem, beqB2, ldS_at hd, hg]
  refine W_sr [0, 1, 5, 7, 8, 16] fun R hR => ?_
  simp only [go_sem, beqB2, ldS_at hd, hg, hin2, iaM_nat (Int.ofNat_lt.1 hin2), Nat.mul_one, Nat.zero_add, bindSome]
  refine hR _ _ ?_; clear hR R
  try simp only [go_sem, beqB2, ldS_at hd, hg]
  refine W_cond rfl (fun c2 => ?_) (fun c2 => ?_)
  ·
   try simp only [nrm] at c2
   refine W_sr [4] fun R hR => ?_
   simp only [go_sem, beqB2, ldS_at hd, hg]
   refine hR _ _ ?_; clear hR R
   try simp only [go_sem, beqB2, ldS_at hd, hg]
   refine W_ret ?_
   simp only [go_sem, beqB2, ldS_at hd, hg]
   refine ⟨.inr (by trivial), ?_⟩
   first | refine Fsa hcl rfl ?_ | refine Fse hcl rfl ?_
   try simp only [go_sem]
   all_goals
    first | (rw [hinv]; done) | (rw [hinv]; simp_all; done) | rfl
  try simp only [nrm] at c2
  refine W_skip (K6 _ _ ?_)
  refine W_region [0, 1, 7, 8] fun R hR => ?_
  simp only [go_sem, beqB2, ldS_at hd, hg]
  try simp (disch := omega) only [wrapI, wrapU]
  refine hR _ _ ?_; clear hR R
  try simp only [go_sem, beqB2, ldS_at hd, hg]
  refine ⟨i + 1, ?_, by (try simp only []); omega, ?_⟩
  ·first | exact Weak.refl | exact Wqq
  try dsimp only
  refine ⟨hin, ?_⟩
  rw [hinv, show n - (i + 1) = k by omega]
  simp_all
 try simp only [nrm] at c1
 have hie : n - i = 0 := by omega
 rw [hie] at hinv
 simp only [idxF] at hinv
 refine W_exit ?_
 simp only [go_sem, beqB2, ldS_at hd]
 refine K2 _ _ ?_
 refine W_sr [4] fun R hR => ?_
 simp only [go_sem, beqB2, ldS_at hd]
 refine hR _ _ ?_; clear hR R
 try simp only [go_sem, beqB2, ldS_at hd]
 refine W_ret ?_
 simp only [go_sem, beqB2, ldS_at hd]
 refine ⟨.inr (by trivial), ?_⟩
 first | refine Fsa hcl rfl ?_ | refine Fse hcl rfl ?_
 try simp only [go_sem]
 all_goals
  first | (rw [hinv]; done) | (rw [hinv]; simp_all; done) | rfl
set_option maxHeartbeats 8000000 in
theorem Runoff_pc (Y : YEnv) (σ : Sg) (n : Int) (ls : List (List Int)) (hl : ls.length < 2 ^ 40) (hl2 : ∀ l, l ∈ ls → l.length < 2 ^ 40) :
 PC Tryz.prog Y 34 [I n, lls ls] σ (.tuple [ints (runoffA n ls).1, I (runoffA n ls).2.1, I (runoffA n ls).2.2]) (σ) := by
 refine PC_of_W Tryz.func34 rfl (by kernel_rfl) Tryz.ntmps34 (by simp) fun hcl hca => ?_
 refine W_sr [0, 1, 4] fun R hR => ?_
 simp only [go_sem]
 refine hR _ _ ?_; clear hR R
 try simp only [go_sem]
 refine W_seq fun Z2 K2 => ?_
 refine W_sr [0, 1, 4, 7] fun R hR => ?_
 simp only [go_sem]
 refine GCall_of (chkPf_pc Y _ n ls hl hl2) ?_
 simp only [go_sem]
 refine hR _ _ ?_; clear hR R
 try simp only [go_sem]
 refine W_sr [0, 1, 4, 7, 20] fun R hR => ?_
 simp only [go_sem]
 refine hR _ _ ?_; clear hR R
 try simp only [go_sem]
 refine W_cond rfl (fun c1 => ?_) (fun c1 => ?_)
 ·
  try simp only [nrm] at c1
  refine W_sr [4, 5, 6] fun R hR => ?_
  simp only [go_sem]
  refine hR _ _ ?_; clear hR R
  try simp only [go_sem]
  refine W_ret ?_
  simp only [go_sem]
  refine ⟨.inr (by trivial), ?_⟩
  first | (rw [hall]; refine Fin_same hcl rfl (Wk.ro (by simp only [go_sem]) ?_)) | refine Fin_same hcl rfl (Wk.ro (by simp only [go_sem]) ?_) | refine Fin_self hcl rfl (Wk.ro (by simp only [go_sem]) ?_)
  try simp only [go_sem]
  all_goals
   simp only [runoffA]; rw [if_pos c1]; first | rfl | simp only [go_sem]
 try simp only [nrm] at c1
 have hV := pfV_iff.1 c1
 have hn1 := hV.nb
 obtain ⟨N, hN⟩ : ∃ z : Nat, n = z := ⟨n.toNat, by omega⟩
 have hall : runoffA n ls = (runU N ls (N - 1), winF (runU N ls (N - 1)) N 0, 0) := by
  unfold runoffA
  rw [if_neg (by simp [c1]), hN, Int.toNat_natCast]
 have hmem := fun l (h : l ∈ ls) => (chkRow_mem (hV.ck l h)).1
 subst hN
 refine W_skip (K2 _ _ ?_)
 refine W_sr [0, 1, 4, 8] fun R hR => ?_
 simp only [go_sem]
 refine hR _ _ ?_; clear hR R
 try simp only [go_sem]
 refine W_seq fun Z7 K7 => ?_
 refine W_block ?_
 refine W_weak (Weak.room (t := 4) (es := 1) rfl (by simp)) ?_
 refine W_weak (Weak.keep [0, 1, 4, 8]) ?_
 simp only [go_sem]
 refine W_loopT (α := Nat) (fun (i : Nat) => [(4, .isl ((runU N ls i).map I) (.tok σ.rooms.length i 1))]) (fun (i : Nat) => σ.ext [some (goneC (runU N ls i))] [i]) (fun (i : Nat) => i ≤ N - 1) (fun (i : Nat) => N - 1 - i) (0) rfl (by first | rfl | (simp only [go_sem]; done) | (simp only [go_sem]; rfl)) (Nat.zero_le _) ?_
 rintro i hi
 have hrl := runU_len N ls i
 obtain ⟨out, hout⟩ : ∃ z, runU N ls i = z := ⟨_, rfl⟩
 rw [hout] at hrl
 rw [hout]
 refine W_seq fun Z8 K8 => ?_
 refine W_sr [0, 1, 4, 8, 26] fun R hR => ?_
 simp only [go_sem, hrl]
 try simp (disch := omega) only [wrapI, wrapU]
 refine hR _ _ ?_; clear hR R
 try simp only [go_sem, hrl]
 refine W_cond rfl (fun c2 => ?_) (fun c2 => ?_)
 ·
  try simp only [nrm] at c2
  have hiN : i < N - 1 := by first | omega | (simp at c2; omega)
  have hok := runU_ok N ls i (by omega)
  have hw := worst_ok (n := N) ls (out := out) (by omega)
  refine W_skip (K8 _ _ ?_)
  refine W_block ?_
  refine W_scope ?_
  refine W_sr [0, 1, 4, 8, 9] fun R hR => ?_
  simp only [go_sem, hrl]
  refine hR _ _ ?_; clear hR R
  try simp only [go_sem, hrl]
  refine W_seq fun Z11 K11 => ?_
  refine W_label (K11 _ _ ?_)
  refine W_seq fun Z12 K12 => ?_
  refine W_sr [0, 1, 4, 8, 9, 27, 28, 29] fun R hR => ?_
  simp only [go_sem, hrl]
  refine hR _ _ ?_; clear hR R
  try simp only [go_sem, hrl]
  refine W_block ?_
  refine W_loopT (α := Nat) (fun (j : Nat) => [(29, I j)]) (fun (j : Nat) => σ.ext [some (goneC out), some (manyC out (ls.take j))] [i]) (fun (j : Nat) => j ≤ ls.length) (fun (j : Nat) => ls.length - j) (0) rfl (by first | rfl | (simp only [go_sem]; done) | (simp only [go_sem]; rfl)) (Nat.zero_le _) ?_
  rintro j hj
  refine W_sr [0, 1, 4, 8, 9, 27, 28, 29, 30] fun R hR => ?_
  simp only [go_sem, hrl]
  refine hR _ _ ?_; clear hR R
  try simp only [go_sem, hrl]
  refine W_seq fun Z15 K15 => ?_
  refine W_cond rfl (fun c3 => ?_) (fun c3 => ?_)
  ·
   try simp only [nrm] at c3
   have hj' : j < ls.length := by first | assumption | omega
   obtain ⟨l, hlj⟩ : ∃ l, ls[j]? = some l := ⟨ls[j], by simp [hj']⟩
   have hdrop : ls.drop j = l :: ls.drop (j + 1) := by
    rw [List.drop_eq_getElem_cons hj']; congr 1; exact (List.getElem?_eq_some_iff.1 hlj).2
   have hsn : ls.take (j + 1) = ls.take j ++ [l] := by rw [List.take_add_one, hlj]; rfl
   have hlm := hmem l (List.mem_of_getElem? hlj)
   have hll := hl2 l (List.mem_of_getElem? hlj)
   have hj2 : j + 1 ≤ ls.length := hj'
   refine W_skip (K15 _ _ ?_)
   refine W_seq fun Z16 K16 => ?_
   refine W_block ?_
   refine W_sr [0, 1, 4, 8, 9, 11, 27, 28, 29] fun R hR => ?_
   simp only [go_sem, hrl, hlj, llPV]
   refine hR _ _ ?_; clear hR R
   try simp only [go_sem, hrl, hlj, llPV]
   refine W_sr [0, 1, 4, 8, 9, 27, 28, 29, 33, 34, 35] fun R hR => ?_
   simp only [go_sem, hrl, hlj, llPV]
   refine hR _ _ ?_; clear hR R
   try simp only [go_sem, hrl, hlj, llPV]
   refine W_block ?_
   refine W_loopT (α := Nat) (fun (k : Nat) => [(35, I k)]) (fun (k : Nat) => σ.ext [some (goneC out), some (manyC out (ls.take j))] [i]) (fun (k : Nat) => k ≤ l.length ∧ ∀ x, x ∈ l.take k → has out x = true) (fun (k : Nat) => l.length - k) (0) rfl (by first | rfl | (simp only [go_sem]; done) | (simp only [go_sem]; rfl)) (⟨Nat.zero_le _, fun x hx => by simp at hx⟩) ?_
   rintro k ⟨hk, hta⟩
   refine W_sr [0, 1, 4, 8, 9, 27, 28, 29, 33, 34, 35, 36] fun R hR => ?_
   simp only [go_sem, hrl, hlj, llPV]
   refine hR _ _ ?_; clear hR R
   try simp only [go_sem, hrl, hlj, llPV]
   refine W_seq fun Z20 K20 => ?_
   refine W_cond rfl (fun c4 => ?_) (fun c4 => ?_)
   ·
    try simp only [nrm] at c4
    have hk' : k < l.length := by first | assumption | omega
    obtain ⟨v, hv⟩ : ∃ v, l[k]? = some v := ⟨l[k], by simp [hk']⟩
    have hdrop : l.drop k = v :: l.drop (k + 1) := by
     rw [List.drop_eq_getElem_cons hk']; congr 1; exact (List.getElem?_eq_some_iff.1 hv).2
    have hvb := hlm v (List.mem_of_getElem? hv)
    obtain ⟨vn, hvn⟩ : ∃ z : Nat, v = z := ⟨v.toNat, by omega⟩
    subst hvn
    have hgv := goneC_get (out := out) (s := vn) (by omega)
    have hmv := manyC_get (out := out) (ls := ls.take j) (s := vn) (by omega)
    have hml := manyFor_le out (ls.take j) vn
    have hvn8 : (vn : Int) < 8 := by omega
    have hml8 : decide (vn + 1 ≤ (manyC out (ls.take j)).length) = true := decide_eq_true (by rw [manyC_len]; omega)
    rw [List.length_take] at hml
    refine W_skip (K20 _ _ ?_)
    refine W_seq fun Z21 K21 => ?_
    refine W_block ?_
    refine W_sr [0, 1, 4, 8, 9, 13, 27, 28, 29, 33, 34, 35] fun R hR => ?_
    simp only [go_sem, hrl, hlj, llPV, hv, hgv, hmv, hvn8, hml8, Nat.mul_one]
    refine hR _ _ ?_; clear hR R
    try simp only [go_sem, hrl, hlj, llPV, hv, hgv, hmv, hvn8, hml8, Nat.mul_one]
    refine W_sr [0, 1, 4, 8, 9, 13, 27, 28, 29, 33, 34, 35, 42] fun R hR => ?_
    simp only [go_sem, hrl, hlj, llPV, hv, hgv, hmv, hvn8, hml8, Nat.mul_one]
    refine hR _ _ ?_; clear hR R
    try simp only [go_sem, hrl, hlj, llPV, hv, hgv, hmv, hvn8, hml8, Nat.mul_one]
    refine W_cond rfl (fun c5 => ?_) (fun c5 => ?_)
    ·
     try simp only [nrm] at c5
     have hf := firstLeft_at hta hv (by simpa using c5)
     have hset := manyC_some (out := out) (ls := ls.take j) (s := vn) (by omega) hf
     rw [← hsn] at hset
     refine W_sr [0, 1, 4, 8, 9, 27, 28, 29] fun R hR => ?_
     simp only [go_sem, hrl, hlj, llPV, hv, hgv, hmv, hvn8, hml8, Nat.mul_one, hset]
     try simp (disch := omega) only [wrapI, wrapU]
     refine hR _ _ ?_; clear hR R
     try simp only [go_sem, hrl, hlj, llPV, hv, hgv, hmv, hvn8, hml8, Nat.mul_one]
     refine W_exit ?_
     simp only [go_sem, hrl, hlj, llPV, hv, hgv, hmv, hvn8, hml8, Nat.mul_one]
     refine K16 _ _ ?_
     refine W_region [0, 1, 4, 8, 9, 27, 28, 29] fun R hR => ?_
     simp only [go_sem, hrl, hlj, llPV, hv, hgv, hmv, hvn8, hml8, Nat.mul_one]
     try simp (disch := omega) only [wrapI, wrapU]
     refine hR _ _ ?_; clear hR R
     try simp only [go_sem, hrl, hlj, llPV, hv, hgv, hmv, hvn8, hml8, Nat.mul_one]
     refine ⟨j + 1, ?_, by (try simp only []); omega, ?_⟩
     ·first | exact Weak.refl | exact Weak.eq rfl (by rw [hmn]) | exact Weak.eq rfl (congrArg (fun z => σ.ext [some (goneC out), some z] [i]) hset)
     try dsimp only
     exact hj2
    try simp only [nrm] at c5
    have hhv : has out (vn : Int) = true := by simpa using c5
    refine W_skip (K21 _ _ ?_)
    refine W_region [0, 1, 4, 8, 9, 27, 28, 29, 33, 34, 35] fun R hR => ?_
    simp only [go_sem, hrl, hlj, llPV, hv, hgv, hmv, hvn8, hml8, Nat.mul_one]
    try simp (disch := omega) only [wrapI, wrapU]
    refine hR _ _ ?_; clear hR R
    try simp only [go_sem, hrl, hlj, llPV, hv, hgv, hmv, hvn8, hml8, Nat.mul_one]
    refine ⟨k + 1, ?_, by (try simp only []); omega, ?_⟩
    ·first | exact Weak.refl | exact Wqq
    try dsimp only
    refine ⟨by omega, fun x hx => ?_⟩
    rw [List.take_add_one, hv] at hx
    rcases List.mem_append.1 hx with h | h
    ·exact hta x h
    simp at h; subst h; exact hhv
   try simp only [nrm] at c4
   have hke : k = l.length := by omega
   rw [hke, List.take_length] at hta
   have hmn : manyC out (ls.take j) = manyC out (ls.take (j + 1)) := by rw [hsn, manyC_none (firstLeft_none hta)]
   refine W_exit ?_
   simp only [go_sem, hrl, hlj, llPV]
   refine K16 _ _ ?_
   refine W_region [0, 1, 4, 8, 9, 27, 28, 29] fun R hR => ?_
   simp only [go_sem, hrl, hlj, llPV]
   try simp (disch := omega) only [wrapI, wrapU]
   refine hR _ _ ?_; clear hR R
   try simp only [go_sem, hrl, hlj, llPV]
   refine ⟨j + 1, ?_, by (try simp only []); omega, ?_⟩
   ·first | exact Weak.refl | exact Weak.eq rfl (by rw [hmn]) | exact Weak.eq rfl (congrArg (fun z => σ.ext [some (goneC out), some z] [i]) hset)
   try dsimp only
   exact hj2
  try simp only [nrm] at c3
  have hje : j = ls.length := by omega
  subst hje
  rw [List.take_length]
  refine W_exit ?_
  simp only [go_sem, hrl]
  refine K12 _ _ ?_
  refine W_sr [0, 1, 4, 8, 9, 14] fun R hR => ?_
  simp only [go_sem, hrl]
  refine hR _ _ ?_; clear hR R
  try simp only [go_sem, hrl]
  refine W_seq fun Z26 K26 => ?_
  refine W_sr [0, 1, 4, 8, 9, 14, 50, 51] fun R hR => ?_
  simp only [go_sem, hrl]
  refine hR _ _ ?_; clear hR R
  try simp only [go_sem, hrl]
  refine W_block ?_
  refine W_loopS (α := Nat) (fun (s : Nat) => [(14, I (worstF out ls s)), (51, I s)]) (fun (s : Nat) => s ≤ N) (fun (s : Nat) => N - s) (0) rfl (Nat.zero_le _) ?_
  rintro s hs
  refine W_sr [0, 1, 4, 8, 9, 14, 50, 51, 52] fun R hR => ?_
  simp only [go_sem, hrl]
  refine hR _ _ ?_; clear hR R
  try simp only [go_sem, hrl]
  refine W_seq fun Z29 K29 => ?_
  refine W_cond rfl (fun c6 => ?_) (fun c6 => ?_)
  ·
   try simp only [nrm] at c6
   have hsN : s < N := by first | omega | (simp at c6; omega)
   have hgs := goneC_get (out := out) (s := s) (by omega)
   have hms := manyC_get (out := out) (ls := ls) (s := s) (by omega)
   have hwb := worstF_bd out ls s
   have hs8 : (s : Int) < 8 := by omega
   refine W_skip (K29 _ _ ?_)
   refine W_seq fun Z30 K30 => ?_
   refine W_block ?_
   refine W_sr [0, 1, 4, 8, 9, 14, 15, 50, 51] fun R hR => ?_
   simp only [go_sem, hrl, hgs, hms, hs8, Nat.mul_one]
   refine hR _ _ ?_; clear hR R
   try simp only [go_sem, hrl, hgs, hms, hs8, Nat.mul_one]
   refine W_seq fun Z32 K32 => ?_
   refine W_drawJ [0, 1, 4, 8, 9, 14, 15, 50, 51, 70] [(70, .bool (!has out s && (decide (worstF out ls s < 0) || decide (manyFor out ls s ≤ manyFor out ls (worstF out ls s)))))] [0, 1, 2, 3, 4, 5, 6, 7, 8, 9, 10, 11, 12, 13, 14, 15, 16] [] [[], [0], [0, 1], [0, 1, 2], [0, 1, 2, 3], [0, 1, 2, 3, 4], [0, 1, 2, 3, 4, 5], [0, 1, 2, 3, 4, 5, 6], [0, 1, 2, 3, 4, 5, 6, 7], [0, 1, 2, 3, 4, 5, 6, 7, 8], [0, 1, 2, 3, 4, 5, 6, 7, 8, 9], [0, 1, 2, 3, 4, 5, 6, 7], [0, 1, 2, 3, 4, 5, 6, 7, 11], [0, 1, 2, 3, 4, 5, 6, 7, 11, 12], [0, 1, 2, 3, 4, 5, 6, 7, 8, 9, 10, 11, 12, 13], [0, 1, 2, 3, 4, 5, 6, 7, 8, 9, 10, 11, 12, 13, 14], [0, 1, 2, 3, 4, 5, 6, 7, 8, 9, 10, 11, 12, 13, 14, 15]] mixed (by kernel_rfl) ?_ fun R hR => ?_
   ·refine K32 _ _ ?_
    simp only [go_sem, hrl, hgs, hms, hs8, Nat.mul_one]
    refine W_cond rfl (fun c7 => ?_) (fun c7 => ?_)
    ·
     try simp only [nrm] at c7
     have hws1 : worstF out ls (s + 1) = (s : Int) := by simp only [worstF]; rw [if_pos c7]
     refine W_region [0, 1, 4, 8, 9, 14, 50, 51] fun R hR => ?_
     simp only [go_sem, hrl, hgs, hms, hs8, Nat.mul_one]
     refine hR _ _ (K30 _ _ ?_); clear hR R; try clear K30 Z30
     try simp only [go_sem, hrl, hgs, hms, hs8, Nat.mul_one]
     refine W_region [0, 1, 4, 8, 9, 14, 50, 51] fun R hR => ?_
     simp only [go_sem, hrl, hgs, hms, hs8, Nat.mul_one]
     try simp (disch := omega) only [wrapI, wrapU]
     refine hR _ _ ?_; clear hR R
     try simp only [go_sem, hrl, hgs, hms, hs8, Nat.mul_one]
     refine ⟨s + 1, ?_, by (try simp only []); omega, ?_⟩
     ·refine Weak.eq (by simp only [hws1]; first | done | rfl | (simp only [go_sem]; done)) rfl
     try dsimp only
     omega
    try simp only [nrm] at c7
    have hws1 : worstF out ls (s + 1) = worstF out ls s := by simp only [worstF]; rw [if_neg (by rw [c7]; simp)]
    refine W_skip (K30 _ _ ?_)
    refine W_region [0, 1, 4, 8, 9, 14, 50, 51] fun R hR => ?_
    simp only [go_sem, hrl, hgs, hms, hs8, Nat.mul_one]
    try simp (disch := omega) only [wrapI, wrapU]
    refine hR _ _ ?_; clear hR R
    try simp only [go_sem, hrl, hgs, hms, hs8, Nat.mul_one]
    refine ⟨s + 1, ?_, by (try simp only []); omega, ?_⟩
    ·refine Weak.eq (by simp only [hws1]; first | done | rfl | (simp only [go_sem]; done)) rfl
    try dsimp only
    omega
   simp only [go_sem, hrl, hgs, hms, hs8, Nat.mul_one]
   refine GWant_split (fun g1 => ?_) (fun g1 => ?_)
   ·try simp only [Bool.not_eq_true', Bool.not_eq_false'] at g1
    have n1 := g1; try simp only [nrm] at n1
    simp only [go_sem, hrl, hgs, hms, hs8, Nat.mul_one, g1]
    refine GWant_split (fun g2 => ?_) (fun g2 => ?_)
    ·try simp only [Bool.not_eq_true', Bool.not_eq_false'] at g2
     have n2 := g2; try simp only [nrm] at n2
     obtain ⟨wn, hwn⟩ : ∃ z : Nat, worstF out ls s = z := ⟨(worstF out ls s).toNat, by simp at g2; omega⟩
     rw [hwn] at g2
     have hmw := manyC_get (out := out) (ls := ls) (s := wn) (by omega)
     have hwn8 : (wn : Int) < 8 := by omega
     simp only [go_sem, hrl, hgs, hms, hs8, Nat.mul_one, hwn, hmw, hwn8, Nat.mul_one, g1, g2]
     try refine And.intro (by repeat' (first | refine And.intro ?_ ?_ | exact GOr_right (fun _ => by simp only [go_sem, hrl, hgs, hms, hs8, Nat.mul_one, hwn, hmw, hwn8, Nat.mul_one]))) ?_
     refine hR _ ?_
     all_goals try simp only [go_sem, hrl, hgs, hms, hs8, Nat.mul_one, hwn, hmw, hwn8, Nat.mul_one]
     all_goals
      first | rfl | (simp [*]; done) | (simp_all; done) | (simp_all; omega)
    try simp only [Bool.not_eq_true', Bool.not_eq_false'] at g2
    have n2 := g2; try simp only [nrm] at n2
    simp only [go_sem, hrl, hgs, hms, hs8, Nat.mul_one, g1, g2]
    try refine And.intro (by repeat' (first | refine And.intro ?_ ?_ | exact GOr_right (fun _ => by simp only [go_sem, hrl, hgs, hms, hs8, Nat.mul_one]))) ?_
    refine hR _ ?_
    all_goals try simp only [go_sem, hrl, hgs, hms, hs8, Nat.mul_one]
    all_goals
     first | rfl | (simp [*]; done) | (simp_all; done) | (simp_all; omega)
   try simp only [Bool.not_eq_true', Bool.not_eq_false'] at g1
   have n1 := g1; try simp only [nrm] at n1
   simp only [go_sem, hrl, hgs, hms, hs8, Nat.mul_one, g1]
   try refine And.intro (by repeat' (first | refine And.intro ?_ ?_ | exact GOr_right (fun _ => by simp only [go_sem, hrl, hgs, hms, hs8, Nat.mul_one]))) ?_
   refine hR _ ?_
   all_goals try simp only [go_sem, hrl, hgs, hms, hs8, Nat.mul_one]
   all_goals
    first | rfl | (simp [*]; done) | (simp_all; done) | (simp_all; omega)
  try simp only [nrm] at c6
  have hse : N = s := by first | omega | (simp at c6; omega)
  subst hse
  obtain ⟨wl, hwl⟩ : ∃ z : Nat, worstF out ls N = z := ⟨(worstF out ls N).toNat, by omega⟩
  have hgset := goneC_set (out := out) (s := wl) (by omega)
  have hwl8 : (wl : Int) < 8 := by omega
  have hgl8 : decide (wl + 1 ≤ (goneC out).length) = true := decide_eq_true (by rw [goneC_len]; omega)
  refine W_exit ?_
  simp only [go_sem, hrl, hwl, hgset, hwl8, hgl8, Nat.mul_one]
  refine K26 _ _ ?_
  refine W_sr [0, 1, 4, 8, 14] fun R hR => ?_
  simp only [go_sem, hrl, hwl, hgset, hwl8, hgl8, Nat.mul_one]
  refine hR _ _ ?_; clear hR R
  try simp only [go_sem, hrl, hwl, hgset, hwl8, hgl8, Nat.mul_one]
  refine W_region [0, 1, 4, 8] fun R hR => ?_
  simp only [go_sem, hrl, hwl, hgset, hwl8, hgl8, Nat.mul_one]
  try simp (disch := first | omega | (simp only [go_sem] <;> omega)) only [wrapI, wrapU, appX_exact, appX_tok]
  try simp only [go_sem, hrl, hwl, hgset, hwl8, hgl8, Nat.mul_one]
  refine hR _ _ ?_; clear hR R
  try simp only [go_sem, hrl, hwl, hgset, hwl8, hgl8, Nat.mul_one]
  refine ⟨i + 1, ?_, by (try simp only []); omega, ?_⟩
  ·have hru : runU N ls (i + 1) = out ++ [(wl : Int)] := by simp only [runU, hout, hwl]
   refine Weak.trans (Weak.cutX 1 1 (by omega) (by omega) hcl ?_ ?_) ?_
   ·simp only [go_sem, eq_true (goneC_clean _)]
   ·simp only [go_sem]
    all_goals first | omega | exact fail1
   simp only [go_sem]
   refine Weak.eq ?_ ?_
   ·simp only [hru, List.map_append, List.map_cons, List.map_nil]; first | done | rfl
   simp only [hru]; first | done | rfl
  try dsimp only
  omega
 try simp only [nrm] at c2
 have hie : i = N - 1 := by first | omega | (simp at c2; omega)
 subst hie
 have hlo := some_left (n := N) (out := out) (by omega)
 have hsl : ∀ id, slicePV Tryz.prog 123 (.ptr id 0) none (some (I N)) none = some (.msl id 0 N) := fun id => sl123 (by omega) (by omega)
 refine W_exit ?_
 simp only [go_sem, hrl, hsl]
 refine K7 _ _ ?_
 refine W_sr [4, 5, 6] fun R hR => ?_
 simp only [go_sem, hrl, hsl]
 refine GCall_of (gIndex_pc Y (σ.ext [some (goneC out)] [N - 1]) out σ.store.length N (by omega) (Sg.get_ext0 ..)) ?_
 simp only [go_sem, hrl, hsl]
 refine hR _ _ ?_; clear hR R
 try simp only [go_sem, hrl, hsl]
 refine W_ret ?_
 simp only [go_sem, hrl, hsl]
 refine ⟨.inr (by trivial), ?_⟩
 first | (rw [hall]; refine Fin_same hcl rfl (Wk.ro (by simp only [go_sem]) ?_)) | refine Fin_same hcl rfl (Wk.ro (by simp only [go_sem]) ?_) | refine Fin_self hcl rfl (Wk.ro (by simp only [go_sem]) ?_)
 try simp only [go_sem]
 all_goals
  first | done | rfl | (simp only [go_sem]; done) | (rw [idxF_eq (n := N) (out := out) N 0 (by omega) (by obtain ⟨s, h1, h2⟩ := hlo; exact ⟨s, Nat.zero_le _, h1, h2⟩), hout]; first | done | rfl)
theorem eqCn (a b : Contest) : decide (a = b) = ((decide (a.songs = b.songs) && (decide (a.juries = b.juries) && (decide (a.members = b.members) && decide (a.most = b.most)))) && decide (a.rounds = b.rounds)) := by
 obtain ⟨a1, a2, a3, a4, a5⟩ := a
 obtain ⟨b1, b2, b3, b4, b5⟩ := b
 rw [Bool.eq_iff_iff]
 simp only [Contest.mk.injEq, decide_eq_true_eq, Bool.and_eq_true]
 constructor
 ·rintro ⟨h1, h2, h3, h4, h5⟩
  exact ⟨⟨h1, h2, h3, h4⟩, h5⟩
 rintro ⟨⟨h1, h2, h3, h4⟩, h5⟩
 exact ⟨h1, h2, h3, h4, h5⟩
theorem eqRnd (x y : Rnd) : decide (x = y) = (x.keep == y.keep && (x.jury == y.jury && (x.member == y.member && true))) := by
 obtain ⟨a1, a2, a3⟩ := x
 obtain ⟨b1, b2, b3⟩ := y
 rw [Bool.eq_iff_iff]
 simp
theorem eqBal (x y : Ballot) : decide (x = y) = (x.serial == y.serial && (x.round == y.round && (x.kind == y.kind && (x.voter == y.voter && (x.song == y.song && (x.points == y.points && true)))))) := by
 obtain ⟨a1, a2, a3, a4, a5, a6⟩ := x
 obtain ⟨b1, b2, b3, b4, b5, b6⟩ := y
 rw [Bool.eq_iff_iff]
 simp
theorem take_snoc_eq {α : Type} [DecidableEq α] {a b : List α} {i : Nat} {x y : α} (hx : a[i]? = some x) (hy : b[i]? = some y) (h : a.take i = b.take i) : decide (a.take (i + 1) = b.take (i + 1)) = decide (x = y) := by
 rw [List.take_add_one, List.take_add_one, hx, hy, h]
 simp
/-- Does a law say nothing of a contest and ballots? -/
def longD (c : Contest) (l : List Ballot) : Bool := decide (10 < (c.rounds.length : Int)) || (decide (40 < (l.length : Int)) && decide ((l.length : Int) ≤ 300)) || decide (309 < (l.length : Int))
set_option maxHeartbeats 4000000 in
theorem EqBls_pc (Y : YEnv) (σ : Sg) (a b : List Ballot) (o o2 : Own) (hl : a.length < 2 ^ 40) :
 PC Tryz.prog Y 33 [.isl (a.map blPV) o, .isl (b.map blPV) o2] σ (.bool (decide (a = b))) (σ) := by
 refine PC_of_W Tryz.func33 rfl (by kernel_rfl) Tryz.ntmps33 (by simp) fun hcl hca => ?_
 refine W_sr [0, 1] fun R hR => ?_
 simp only [go_sem, beqB2]
 refine hR _ _ ?_; clear hR R
 try simp only [go_sem, beqB2]
 refine W_sr [0, 1, 5] fun R hR => ?_
 simp only [go_sem, beqB2]
 refine hR _ _ ?_; clear hR R
 try simp only [go_sem, beqB2]
 refine W_seq fun Z3 K3 => ?_
 refine W_sr [0, 1, 5, 6] fun R hR => ?_
 simp only [go_sem, beqB2]
 refine hR _ _ ?_; clear hR R
 try simp only [go_sem, beqB2]
 refine W_block ?_
 refine W_loopS (α := Nat × Bool) (fun ⟨i, same⟩ => [(5, .bool same), (6, I i)]) (fun ⟨i, same⟩ => i ≤ a.length ∧ same = (decide (a.length = b.length) && decide (a.take i = b.take i))) (fun ⟨i, same⟩ => a.length - i) ((0, ((a.length : Int) == (b.length : Int)))) rfl (⟨Nat.zero_le _, by rw [Bool.eq_iff_iff]; simp; omega⟩) ?_
 rintro ⟨i, same⟩ ⟨hi, hs⟩
 refine W_seq fun Z5 K5 => ?_
 refine W_seq fun Z6 K6 => ?_
 refine W_regionJ [0, 1, 5, 6, 18] [(18, .bool (same && decide (i < a.length)))] ?_ fun R hR => ?_
 ·refine K6 _ _ ?_
  simp only [go_sem, beqB2]
  refine W_cond rfl (fun c1 => ?_) (fun c1 => ?_)
  ·
   try simp only [nrm] at c1
   have hsi : same = true ∧ i < a.length := by simpa using c1
   have hab : a.length = b.length ∧ a.take i = b.take i := by rw [hsi.1] at hs; simpa using hs.symm
   have hi1 : i < a.length := hsi.2
   obtain ⟨x, hx⟩ : ∃ z, a[i]? = some z := ⟨a[i], by simp [hi1]⟩
   obtain ⟨y, hy⟩ : ∃ z, b[i]? = some z := ⟨b[i]'(by omega), by simp⟩
   have hib : i < b.length := by omega
   have hial : (i : Int) < (a.length : Int) := by omega
   have hibl : (i : Int) < (b.length : Int) := by omega
   have hst : (decide (a.length = b.length) && decide (a.take (i + 1) = b.take (i + 1))) = decide (x = y) := by
    rw [take_snoc_eq hx hy hab.2]
    simp [hab.1]
   have hxy := eqBal x y
   refine W_skip (K5 _ _ ?_)
   refine W_seq fun Z7 K7 => ?_
   refine W_block ?_
   refine W_drawJ [0, 1, 5, 6] [(5, .bool (decide (x = y)))] [0, 1, 2, 3, 4, 5, 6, 7, 8, 9] [] [[], [], [0, 1], [0, 1, 2], [], [], [4, 5], [4, 5, 6], [0, 1, 2, 3, 4, 5, 6, 7], [0, 1, 2, 3, 4, 5, 6, 7, 8]] mixed (by kernel_rfl) ?_ fun R hR => ?_
   ·refine K7 _ _ ?_
    simp only [go_sem, beqB2, hx, hy, hial, hibl]
    refine W_region [0, 1, 5, 6] fun R hR => ?_
    simp only [go_sem, beqB2, hx, hy, hial, hibl]
    try simp (disch := omega) only [wrapI, wrapU]
    refine hR _ _ ?_; clear hR R
    try simp only [go_sem, beqB2, hx, hy, hial, hibl]
    refine ⟨(i + 1, decide (x = y)), ?_, by (try simp only []); omega, ?_⟩
    ·first | exact Weak.refl | exact Wqq
    try dsimp only
    exact ⟨hi1, hst.symm⟩
   simp only [go_sem, beqB2, hx, hy, hial, hibl]
   try refine And.intro (by repeat' (first | refine And.intro ?_ ?_ | exact trivial | exact GOr_right (fun _ => by simp only [go_sem, beqB2, hx, hy, hial, hibl]))) ?_
   refine hR _ ?_
   all_goals try simp only [go_sem, beqB2, hx, hy, hial, hibl]
   all_goals
    first | rfl | (rw [hxy]; first | done | rfl) | (rw [hxy]; simp; done)
  try simp only [nrm] at c1
  have hfin : same = decide (a = b) := by
   rw [hs, Bool.eq_iff_iff]
   simp only [Bool.and_eq_true, decide_eq_true_eq]
   constructor
   ·rintro ⟨h1, h2⟩
    have h3 : same = true := by rw [hs]; simp [h1, h2]
    have h4 : ¬ i < a.length := by rw [h3] at c1; simpa using c1
    rw [List.take_of_length_le (by omega), List.take_of_length_le (by omega)] at h2
    exact h2
   rintro rfl; exact ⟨rfl, rfl⟩
  refine W_exit ?_
  simp only [go_sem, beqB2]
  refine K3 _ _ ?_
  refine W_sr [4] fun R hR => ?_
  simp only [go_sem, beqB2]
  refine hR _ _ ?_; clear hR R
  try simp only [go_sem, beqB2]
  refine W_ret ?_
  simp only [go_sem, beqB2]
  refine ⟨.inr (by trivial), ?_⟩
  first | refine Fsa hcl rfl ?_ | refine Fse hcl rfl ?_
  try simp only [go_sem]
  all_goals
   rw [hfin]
 simp only [go_sem, beqB2]
 refine GWant_split (fun g1 => ?_) (fun g1 => ?_)
 ·try simp only [Bool.not_eq_true', Bool.not_eq_false'] at g1
  have n1 := g1; try simp only [nrm] at n1
  simp only [go_sem, beqB2, g1]
  refine hR _ ?_
  all_goals try simp only [go_sem, beqB2]
  all_goals
   first | rfl | (simp [*]; done) | (simp_all; done)
 try simp only [Bool.not_eq_true', Bool.not_eq_false'] at g1
 have n1 := g1; try simp only [nrm] at n1
 simp only [go_sem, beqB2, g1]
 refine hR _ ?_
 all_goals try simp only [go_sem, beqB2]
 all_goals
  first | rfl | (simp [*]; done) | (simp_all; done)
set_option maxHeartbeats 8000000 in
theorem EqCns_pc (Y : YEnv) (σ : Sg) (a b : Contest) (hl : a.rounds.length < 2 ^ 40) :
 PC Tryz.prog Y 32 [cnPV a, cnPV b] σ (.bool (decide (a = b))) (σ) := by
 refine PC_of_W Tryz.func32 rfl (by kernel_rfl) Tryz.ntmps32 (by simp) fun hcl hca => ?_
 obtain ⟨h0, hh0⟩ : ∃ z, (decide (a.songs = b.songs) && (decide (a.juries = b.juries) && (decide (a.members = b.members) && decide (a.most = b.most)))) = z := ⟨_, rfl⟩
 have heq := eqCn a b
 rw [hh0] at heq
 have hlen : decide (a.rounds.length = b.rounds.length) = ((a.rounds.length : Int) == (b.rounds.length : Int)) := by rw [Bool.eq_iff_iff]; simp; omega
 refine W_sr [2, 3] fun R hR => ?_
 simp only [go_sem, cnCells]
 refine hR _ _ ?_; clear hR R
 try simp only [go_sem, cnCells]
 refine W_seq fun Z2 K2 => ?_
 refine W_regionJ [2, 3, 5] [(5, .bool (h0 && decide (a.rounds.length = b.rounds.length)))] ?_ fun R hR => ?_
 ·refine K2 _ _ ?_
  simp only [go_sem, cnCells]
  refine W_seq fun Z3 K3 => ?_
  refine W_sr [2, 3, 5, 6] fun R hR => ?_
  simp only [go_sem, cnCells]
  refine hR _ _ ?_; clear hR R
  try simp only [go_sem, cnCells]
  refine W_block ?_
  refine W_loopS (α := Nat × Bool) (fun ⟨i, same⟩ => [(5, .bool same), (6, I i)]) (fun ⟨i, same⟩ => i ≤ a.rounds.length ∧ same = (h0 && (decide (a.rounds.length = b.rounds.length) && decide (a.rounds.take i = b.rounds.take i)))) (fun ⟨i, same⟩ => a.rounds.length - i) ((0, (h0 && decide (a.rounds.length = b.rounds.length)))) rfl (⟨Nat.zero_le _, by simp⟩) ?_
  rintro ⟨i, same⟩ ⟨hi, hs⟩
  refine W_seq fun Z5 K5 => ?_
  refine W_seq fun Z6 K6 => ?_
  refine W_regionJ [2, 3, 5, 6, 49] [(49, .bool (same && decide (i < a.rounds.length)))] ?_ fun R hR => ?_
  ·refine K6 _ _ ?_
   simp only [go_sem, cnCells]
   refine W_cond rfl (fun c1 => ?_) (fun c1 => ?_)
   ·
    try simp only [nrm] at c1
    have hsi : same = true ∧ i < a.rounds.length := by simpa using c1
    have hab : h0 = true ∧ a.rounds.length = b.rounds.length ∧ a.rounds.take i = b.rounds.take i := by rw [hsi.1] at hs; simpa using hs.symm
    have hi1 : i < a.rounds.length := hsi.2
    obtain ⟨x, hx⟩ : ∃ z, a.rounds[i]? = some z := ⟨a.rounds[i], by simp [hi1]⟩
    obtain ⟨y, hy⟩ : ∃ z, b.rounds[i]? = some z := ⟨b.rounds[i]'(by omega), by simp⟩
    have hib : i < b.rounds.length := by omega
    have hial : (i : Int) < (a.rounds.length : Int) := by omega
    have hibl : (i : Int) < (b.rounds.length : Int) := by omega
    have hst : (h0 && (decide (a.rounds.length = b.rounds.length) && decide (a.rounds.take (i + 1) = b.rounds.take (i + 1)))) = decide (x = y) := by
     rw [take_snoc_eq hx hy hab.2.2, hab.1]
     simp [hab.2.1]
    have hxy := eqRnd x y
    refine W_skip (K5 _ _ ?_)
    refine W_seq fun Z7 K7 => ?_
    refine W_block ?_
    refine W_drawJ [2, 3, 5, 6] [(5, .bool (decide (x = y)))] [0, 1, 2, 3, 4, 5, 6, 7, 8, 9, 10, 11] [] [[], [0], [], [0, 1, 2], [0, 1, 2, 3], [], [5], [], [5, 6, 7], [5, 6, 7, 8], [0, 1, 2, 3, 4, 5, 6, 7, 8, 9], [0, 1, 2, 3, 4, 5, 6, 7, 8, 9, 10]] mixed (by kernel_rfl) ?_ fun R hR => ?_
    ·refine K7 _ _ ?_
     simp only [go_sem, cnCells, hx, hy, hial, hibl]
     refine W_region [2, 3, 5, 6] fun R hR => ?_
     simp only [go_sem, cnCells, hx, hy, hial, hibl]
     try simp (disch := omega) only [wrapI, wrapU]
     refine hR _ _ ?_; clear hR R
     try simp only [go_sem, cnCells, hx, hy, hial, hibl]
     refine ⟨(i + 1, decide (x = y)), ?_, by (try simp only []); omega, ?_⟩
     ·first | exact Weak.refl | exact Wqq
     try dsimp only
     exact ⟨hi1, hst.symm⟩
    simp only [go_sem, cnCells, hx, hy, hial, hibl]
    try refine And.intro (by repeat' (first | refine And.intro ?_ ?_ | exact trivial | exact GOr_right (fun _ => by simp only [go_sem, cnCells, hx, hy, hial, hibl]))) ?_
    refine hR _ ?_
    all_goals try simp only [go_sem, cnCells, hx, hy, hial, hibl]
    all_goals
     first | rfl | (rw [hxy]; first | done | rfl) | (rw [hxy]; simp; done)
   try simp only [nrm] at c1
   have hfin : same = decide (a = b) := by
    rw [hs, heq, Bool.eq_iff_iff]
    simp only [Bool.and_eq_true, decide_eq_true_eq]
    constructor
    ·rintro ⟨h1, h2, h3⟩
     have h4 : same = true := by rw [hs]; simp [h1, h2, h3]
     have h5 : ¬ i < a.rounds.length := by rw [h4] at c1; simpa using c1
     rw [List.take_of_length_le (by omega), List.take_of_length_le (by omega)] at h3
     exact ⟨h1, h3⟩
    rintro ⟨h1, h2⟩
    rw [h2]
    exact ⟨h1, rfl, rfl⟩
   refine W_exit ?_
   simp only [go_sem, cnCells]
   refine K3 _ _ ?_
   refine W_sr [4] fun R hR => ?_
   simp only [go_sem, cnCells]
   refine hR _ _ ?_; clear hR R
   try simp only [go_sem, cnCells]
   refine W_ret ?_
   simp only [go_sem, cnCells]
   refine ⟨.inr (by trivial), ?_⟩
   first | refine Fsa hcl rfl ?_ | refine Fse hcl rfl ?_
   try simp only [go_sem]
   all_goals
    rw [hfin]
  simp only [go_sem, cnCells]
  refine GWant_split (fun g1 => ?_) (fun g1 => ?_)
  ·try simp only [Bool.not_eq_true', Bool.not_eq_false'] at g1
   have n1 := g1; try simp only [nrm] at n1
   simp only [go_sem, cnCells, g1]
   refine hR _ ?_
   all_goals try simp only [go_sem, cnCells]
   all_goals
    first | rfl | (simp [*]; done) | (simp_all; done)
  try simp only [Bool.not_eq_true', Bool.not_eq_false'] at g1
  have n1 := g1; try simp only [nrm] at n1
  simp only [go_sem, cnCells, g1]
  refine hR _ ?_
  all_goals try simp only [go_sem, cnCells]
  all_goals
   first | rfl | (simp [*]; done) | (simp_all; done)
 simp only [go_sem, cnCells]
 refine GWant_split (fun g2 => ?_) (fun g2 => ?_)
 ·try simp only [Bool.not_eq_true', Bool.not_eq_false'] at g2
  have n2 := g2; try simp only [nrm] at n2
  simp only [go_sem, cnCells, g2]
  refine GWant_split (fun g3 => ?_) (fun g3 => ?_)
  ·try simp only [Bool.not_eq_true', Bool.not_eq_false'] at g3
   have n3 := g3; try simp only [nrm] at n3
   simp only [go_sem, cnCells, g2, g3]
   refine GWant_split (fun g4 => ?_) (fun g4 => ?_)
   ·try simp only [Bool.not_eq_true', Bool.not_eq_false'] at g4
    have n4 := g4; try simp only [nrm] at n4
    simp only [go_sem, cnCells, g2, g3, g4]
    refine GWant_split (fun g5 => ?_) (fun g5 => ?_)
    ·try simp only [Bool.not_eq_true', Bool.not_eq_false'] at g5
     have n5 := g5; try simp only [nrm] at n5
     simp only [go_sem, cnCells, g2, g3, g4, g5]
     refine hR _ ?_
     all_goals try simp only [go_sem, cnCells]
     all_goals
      first | rfl | (rw [hlen, ← hh0]; simp [*]; done) | (rw [← hh0]; simp [*]; done) | (rw [← hh0]; simp_all; done)
    try simp only [Bool.not_eq_true', Bool.not_eq_false'] at g5
    have n5 := g5; try simp only [nrm] at n5
    simp only [go_sem, cnCells, g2, g3, g4, g5]
    refine hR _ ?_
    all_goals try simp only [go_sem, cnCells]
    all_goals
     first | rfl | (rw [hlen, ← hh0]; simp [*]; done) | (rw [← hh0]; simp [*]; done) | (rw [← hh0]; simp_all; done)
   try simp only [Bool.not_eq_true', Bool.not_eq_false'] at g4
   have n4 := g4; try simp only [nrm] at n4
   simp only [go_sem, cnCells, g2, g3, g4]
   refine hR _ ?_
   all_goals try simp only [go_sem, cnCells]
   all_goals
    first | rfl | (rw [hlen, ← hh0]; simp [*]; done) | (rw [← hh0]; simp [*]; done) | (rw [← hh0]; simp_all; done)
  try simp only [Bool.not_eq_true', Bool.not_eq_false'] at g3
  have n3 := g3; try simp only [nrm] at n3
  simp only [go_sem, cnCells, g2, g3]
  refine hR _ ?_
  all_goals try simp only [go_sem, cnCells]
  all_goals
   first | rfl | (rw [hlen, ← hh0]; simp [*]; done) | (rw [← hh0]; simp [*]; done) | (rw [← hh0]; simp_all; done)
 try simp only [Bool.not_eq_true', Bool.not_eq_false'] at g2
 have n2 := g2; try simp only [nrm] at n2
 simp only [go_sem, cnCells, g2]
 refine hR _ ?_
 all_goals try simp only [go_sem, cnCells]
 all_goals
  first | rfl | (rw [hlen, ← hh0]; simp [*]; done) | (rw [← hh0]; simp [*]; done) | (rw [← hh0]; simp_all; done)
set_option maxHeartbeats 2000000 in
theorem long_pc (Y : YEnv) (σ : Sg) (c : Contest) (l : List Ballot) :
 PC Tryz.prog Y 24 [cnPV c, bls l] σ (.bool (longD c l)) (σ) := by
 refine PC_of_W Tryz.func24 rfl (by kernel_rfl) Tryz.ntmps24 (by simp) fun hcl hca => ?_
 refine W_sr [1, 2] fun R hR => ?_
 simp only [go_sem, cnCells]
 refine hR _ _ ?_; clear hR R
 try simp only [go_sem, cnCells]
 refine W_seq fun Z2 K2 => ?_
 refine W_regionJ [4] [(4, .bool (longD c l))] ?_ fun R hR => ?_
 ·refine K2 _ _ ?_
  simp only [go_sem, cnCells]
  refine W_ret ?_
  simp only [go_sem, cnCells]
  refine ⟨.inr (by trivial), ?_⟩
  first | refine Fsa hcl rfl ?_ | refine Fse hcl rfl ?_
  try simp only [go_sem]
  all_goals
   rfl
 simp only [go_sem, cnCells]
 refine GWant_split (fun g1 => ?_) (fun g1 => ?_)
 ·try simp only [Bool.not_eq_true', Bool.not_eq_false'] at g1
  have n1 := g1; try simp only [nrm] at n1
  simp only [go_sem, cnCells, g1]
  refine GWant_split (fun g2 => ?_) (fun g2 => ?_)
  ·try simp only [Bool.not_eq_true', Bool.not_eq_false'] at g2
   have n2 := g2; try simp only [nrm] at n2
   simp only [go_sem, cnCells, g1, g2]
   refine GWant_split (fun g3 => ?_) (fun g3 => ?_)
   ·try simp only [Bool.not_eq_true', Bool.not_eq_false'] at g3
    have n3 := g3; try simp only [nrm] at n3
    simp only [go_sem, cnCells, g1, g2, g3]
    refine hR _ ?_
    all_goals try simp only [go_sem, cnCells]
    all_goals
     first | rfl | (simp [longD, *]; done) | (simp_all [longD]; done)
   try simp only [Bool.not_eq_true', Bool.not_eq_false'] at g3
   have n3 := g3; try simp only [nrm] at n3
   simp only [go_sem, cnCells, g1, g2, g3]
   refine hR _ ?_
   all_goals try simp only [go_sem, cnCells]
   all_goals
    first | rfl | (simp [longD, *]; done) | (simp_all [longD]; done)
  try simp only [Bool.not_eq_true', Bool.not_eq_false'] at g2
  have n2 := g2; try simp only [nrm] at n2
  simp only [go_sem, cnCells, g1, g2]
  refine hR _ ?_
  all_goals try simp only [go_sem, cnCells]
  all_goals
   first | rfl | (simp [longD, *]; done) | (simp_all [longD]; done)
 try simp only [Bool.not_eq_true', Bool.not_eq_false'] at g1
 have n1 := g1; try simp only [nrm] at n1
 simp only [go_sem, cnCells, g1]
 refine hR _ ?_
 all_goals try simp only [go_sem, cnCells]
 all_goals
  first | rfl | (simp [longD, *]; done) | (simp_all [longD]; done)
end Go.Proofs.YtdoohibbfjdblaaGreatDoor
