/-
  The law SongUrns: whatever comes in, it answers true and leaves what came in as it was.
  The law SongUrns, walked: urns as the document has them.
  Walks: urns of any length are read.
  Walk: urns are read (the program's).
  Walk: numbers behind a word (the program's).
-/
import Derived.Test.YtdoohibbfjdblaaGreatDoorPf
import Derived.CallsIn
import Derived.RangeFuncLeaves
import Derived.RangeFuncRecord
import Derived.OrdersIn
import Derived.Below
import Derived.Laws.World
import Derived.Laws.StructEq
import Derived.Laws.BytesString
import Derived.Laws.Append
import Derived.MapKept
import Derived.ProofKit
import Derived.Carry
import Derived.Handed
import Derived.ChangeCalls
import Derived.Stop.Joined
import Derived.Lib.LaidTab
import Derived.Shelf.Strconv.Itoa3
import Derived.RangeFuncIn
import Derived.RangeFuncNested
import Derived.Test.YtdoohibbfjdblaaGreatDoorProg
import Derived.KernelRfl
import Derived.IntWalk
import Derived.Sort.OwnSortedInts
import Derived.Lib.SlicesCompact
import Derived.Test.YtdoohibbfjdblaaGreatDoorRows
import Derived.Shelf.Sort.Plain
import Derived.Shelf.Slices.In.SortNone
import Derived.Shelf.Small.Bits
import Derived.Shelf.Strings.Builder1
import Derived.Lib.SplitLaws
import Derived.Lib.AtoiAll
import Derived.Lib.ItoaNum
import Derived.Lib.IndexBytes
import Derived.Shelf.Strings.Split
import Derived.Shelf.Strconv.AtoiAll
import Derived.Lib.AtoiErrMem
import Derived.Lib.ItoaLen
import Derived.Lib.AtoiAllCases
import Derived.Test.YtdoohibbfjdblaaGreatDoorCards
import Derived.Test.YtdoohibbfjdblaaGreatDoorTie
import Derived.JoinedOf
import Derived.LaidMore
import Derived.LaidSub
import Derived.Lay
import Derived.SevenTiedAt
import Derived.Lib.LaidU8
import Derived.Shelf.Vars
set_option linter.unusedSimpArgs false
set_option linter.unusedVariables false
namespace Go.Proofs.YtdoohibbfjdblaaGreatDoor
open Go Go.RowKit
set_option maxRecDepth 100000
theorem nilErr {ok : Bool} : nilICmp Tryz.prog .eql 103 (errPV ok) = some (.bool ok) := by
 cases ok <;> (unfold nilICmp; rw [show Tryz.prog.underlying 103 = some (.interface _) from Tryz.underlying103]; rfl)
attribute [go_sem] nilErr
theorem atoiV_bd (w : List UInt8) : -9223372036854775808 ≤ atoiV w ∧ atoiV w ≤ 9223372036854775807 := by
 unfold atoiV
 split
 ·rename_i v h
  have := Lib.atoiAll_bounds h
  exact this
 ·exact Lib.atoiSat_bounds w
 omega
theorem numsE_all {k : Nat} (hk : k ≤ 18) : ∀ W : List (List UInt8), numsE k W = if W.all (wordOK k) = true then some (W.map atoiV) else none := by
 intro W
 induction W with
 | nil => rfl
 | cons w W ih =>
  obtain ⟨h1, h2⟩ := wordOK_num hk w
  simp only [numsE, List.all_cons, List.map_cons]
  cases hn : numE k w with
  | none =>
   rw [hn] at h1
   simp [h1]
  | some n =>
   rw [hn] at h1
   rw [ih, h2 n hn]
   simp only [h1, Option.isSome_some, Bool.true_and]
   split <;> simp_all
theorem nilErrN {ok : Bool} : nilICmp Tryz.prog .neq 103 (errPV ok) = some (.bool (!ok)) := by
 cases ok <;> (unfold nilICmp; rw [show Tryz.prog.underlying 103 = some (.interface _) from Tryz.underlying103]; rfl)
attribute [go_sem] nilErrN
set_option maxHeartbeats 4000000 in
theorem numbers_pc (Y : YEnv) (σ : Sg) (s w0 : List UInt8) (m : Nat) (hs : s.length ≤ 2 ^ 30) (hm : m ≤ 100) :
 PC Tryz.prog Y 61 [txt s, txt w0, I m] σ (numPV (numsW s w0 m)) (σ) := by
 refine PC_of_W Tryz.func61 rfl (by kernel_rfl) Tryz.ntmps61 (by simp) fun hcl hca => ?_
 obtain ⟨ws, hws⟩ : ∃ z, splitL 32 s = z := ⟨_, rfl⟩
 have hwm2 : ∀ p, p ∈ ws → p.length ≤ 2 ^ 30 := fun p hp => by rw [← hws] at hp; have := splitL_mem hp; omega
 have hws1 : 1 ≤ ws.length := List.length_pos_iff.2 (by rw [← hws]; exact splitL_ne 32 s)
 have hws2 : ws.length ≤ 2 ^ 30 + 1 := by rw [← hws]; have := splitL_le (b := 32) (s := s); omega
 obtain ⟨v, hx0⟩ : ∃ w, ws[0]? = some w := ⟨ws[0], by simp⟩
 obtain ⟨V, hV⟩ : ∃ z, ws.drop 1 = z := ⟨_, rfl⟩
 have hVm : ∀ p, p ∈ V → p.length ≤ 2 ^ 30 := fun p hp => by rw [← hV] at hp; exact hwm2 p (List.mem_of_mem_drop hp)
 have hVl : V.length ≤ 2 ^ 30 := by rw [← hV]; simp; omega
 have hso2 : sliceOwn .exact 1 ws.length ws.length = .exact := if_pos rfl
 have hpe := numsW_of (w := w0) (m := m) hws hx0
 rw [tail_drop, hV, numsE_all (by omega)] at hpe
 refine W_sr [0, 1, 2] fun R hR => ?_
 simp only [go_sem]
 refine hR _ _ ?_; clear hR R
 try simp only [go_sem]
 refine W_sr [1, 2, 8] fun R hR => ?_
 simp only [go_sem]
 refine GCall_of (PC.val (v' := .isl (ws.map txt) .exact) (Split_pc Y _ s 32 (by omega)) (by rw [hws])) ?_
 simp only [go_sem]
 refine hR _ _ ?_; clear hR R
 try simp only [go_sem]
 refine W_seq fun Z3 K3 => ?_
 refine W_seq fun Z4 K4 => ?_
 refine W_regionJ [8, 27] [(27, .bool (!decide (v = w0) || !decide (ws.length = m + 1)))] ?_ fun R hR => ?_
 ·refine K4 _ _ ?_
  simp only [go_sem]
  refine W_cond rfl (fun c1 => ?_) (fun c1 => ?_)
  ·
   try simp only [nrm] at c1
   have hno : numsW s w0 m = none := by
    rw [hpe, if_neg]
    intro q
    simp [q.1, q.2] at c1
   refine W_sr [6, 7] fun R hR => ?_
   simp only [go_sem]
   refine hR _ _ ?_; clear hR R
   try simp only [go_sem]
   rw [hno]
   simp only [numPV, Option.getD_none, Option.isSome_none]
   refine W_ret ?_
   simp only [go_sem]
   refine ⟨.inr (by trivial), ?_⟩
   first | refine Fin_same hcl rfl (Wk.ro (by simp only [go_sem]) ?_) | refine Fin_self hcl rfl (Wk.ro (by simp only [go_sem]) ?_)
   try simp only [go_sem]
   all_goals
    first | done | rfl
  try simp only [nrm] at c1
  have hyes : v = w0 ∧ ws.length = m + 1 := by
   simp at c1
   exact ⟨c1.1, by omega⟩
  rw [if_pos hyes] at hpe
  refine W_skip (K3 _ _ ?_)
  refine W_sr [8, 9] fun R hR => ?_
  simp only [go_sem]
  refine hR _ _ ?_; clear hR R
  try simp only [go_sem]
  refine W_seq fun Z7 K7 => ?_
  refine W_sr [9, 29, 30, 31] fun R hR => ?_
  simp only [go_sem, Int.reduceToNat, Int.reduceLE, hws1, ← List.map_drop, hso2, hV]
  try simp (disch := (first | omega | (simp only [go_sem, List.length_append] <;> omega))) only [wrapI, wrapU, strAdd, slT, slTa, slTb]
  refine hR _ _ ?_; clear hR R
  try simp only [go_sem]
  refine W_block ?_
  refine W_weak (Weak.room (t := 9) (es := 1) rfl (by simp)) ?_
  refine W_weak (Weak.keep [9, 29, 30, 31]) ?_
  simp only [go_sem]
  refine W_loopT (α := Nat × (List Int)) (fun ⟨k, n⟩ => [(9, .isl (n.map I) (.tok σ.rooms.length n.length 1)), (31, I k)]) (fun ⟨k, n⟩ => σ.ext [] [n.length]) (fun ⟨k, n⟩ => k ≤ V.length ∧ n = (V.take k).map atoiV ∧ (V.take k).all (wordOK 10) = true) (fun ⟨k, n⟩ => V.length - k) ((0, [])) rfl (by first | rfl | (simp only [go_sem]; done) | (simp only [go_sem]; rfl)) (⟨Nat.zero_le _, rfl, by simp⟩) ?_
  rintro ⟨k, n⟩ ⟨hk, hn, hok⟩
  have hnl : n.length = k := by rw [hn]; simp; omega
  refine W_sr [9, 29, 30, 31, 32] fun R hR => ?_
  simp only [go_sem]
  refine hR _ _ ?_; clear hR R
  try simp only [go_sem]
  refine W_seq fun Z10 K10 => ?_
  refine W_cond rfl (fun c2 => ?_) (fun c2 => ?_)
  ·
   try simp only [nrm] at c2
   have hi' : k < V.length := by first | omega | (simp at c2; omega)
   obtain ⟨w, hx⟩ : ∃ w, V[k]? = some w := ⟨V[k], by simp [hi']⟩
   have hdrop : V.drop k = w :: V.drop (k + 1) := by
    rw [List.drop_eq_getElem_cons hi']; congr 1; exact (List.getElem?_eq_some_iff.1 hx).2
   have hwl2 := hVm w (List.mem_of_getElem? hx)
   refine W_skip (K10 _ _ ?_)
   refine W_seq fun Z11 K11 => ?_
   refine W_block ?_
   refine W_sr [9, 11, 29, 30, 31] fun R hR => ?_
   simp only [go_sem, hx]
   refine hR _ _ ?_; clear hR R
   try simp only [go_sem, hx]
   refine W_sr [9, 11, 12, 13, 29, 30, 31] fun R hR => ?_
   simp only [go_sem, hx]
   refine GCall_of (Atoi_pc Y _ w (by omega)) ?_
   simp only [go_sem, hx]
   refine hR _ _ ?_; clear hR R
   try simp only [go_sem, hx]
   refine W_seq fun Z14 K14 => ?_
   refine W_seq fun Z15 K15 => ?_
   refine W_regionJ [9, 12, 29, 30, 31, 56] [(56, .bool (!wordOK 10 w))] ?_ fun R hR => ?_
   ·refine K15 _ _ ?_
    simp only [go_sem, hx]
    refine W_cond rfl (fun c3 => ?_) (fun c3 => ?_)
    ·
     try simp only [nrm] at c3
     have hwok : wordOK 10 w = false := by simpa using c3
     have hall : V.all (wordOK 10) = false := by
      rw [List.all_eq_false]
      exact ⟨w, List.mem_of_getElem? hx, by simp [hwok]⟩
     rw [if_neg (by rw [hall]; simp)] at hpe
     refine W_sr [6, 7] fun R hR => ?_
     simp only [go_sem, hx]
     refine hR _ _ ?_; clear hR R
     try simp only [go_sem, hx]
     rw [hpe]
     simp only [numPV, Option.getD_none, Option.isSome_none]
     refine W_ret ?_
     simp only [go_sem, hx]
     refine ⟨.inr (by trivial), ?_⟩
     first | refine Fin_same hcl rfl (Wk.ro (by simp only [go_sem]) ?_) | refine Fin_self hcl rfl (Wk.ro (by simp only [go_sem]) ?_)
     try simp only [go_sem]
     all_goals
      first | done | rfl
    try simp only [nrm] at c3
    have hwok : wordOK 10 w = true := by simpa using c3
    refine W_skip (K14 _ _ ?_)
    refine W_region [9, 29, 30, 31] fun R hR => ?_
    simp only [go_sem, hx]
    try simp (disch := (first | omega | (simp only [go_sem, List.length_append] <;> omega))) only [wrapI, wrapU, appX_exact, appX_tok, strAdd, slT, slTa, slTb]
    try simp only [go_sem, hx]
    refine hR _ _ (K11 _ _ ?_); clear hR R; try clear K11 Z11
    try simp only [go_sem, hx]
    refine W_region [9, 29, 30, 31] fun R hR => ?_
    simp only [go_sem, hx]
    try simp (disch := (first | omega | (simp only [go_sem, List.length_append] <;> omega))) only [wrapI, wrapU, strAdd, slT, slTa, slTb]
    refine hR _ _ ?_; clear hR R
    try simp only [go_sem, hx]
    refine ⟨(k + 1, n ++ [atoiV w]), ?_, by (try simp only []); omega, ?_⟩
    ·first | exact Weak.refl | exact Wqq
    try dsimp only
    refine ⟨by omega, ?_, ?_⟩
    ·rw [List.take_add_one, hx, hn]; simp
    rw [List.take_add_one, hx, List.all_append, hok]; simp [hwok]
   simp only [go_sem, hx]
   refine GWant_split (fun g1 => ?_) (fun g1 => ?_)
   ·try simp only [Bool.not_eq_true', Bool.not_eq_false'] at g1
    have n1 := g1; try simp only [nrm] at n1
    simp only [go_sem, hx, g1]
    refine GWant_split (fun g2 => ?_) (fun g2 => ?_)
    ·try simp only [Bool.not_eq_true', Bool.not_eq_false'] at g2
     have n2 := g2; try simp only [nrm] at n2
     simp only [go_sem, hx, g1, g2]
     refine GWant_split (fun g3 => ?_) (fun g3 => ?_)
     ·try simp only [Bool.not_eq_true', Bool.not_eq_false'] at g3
      have n3 := g3; try simp only [nrm] at n3
      simp only [go_sem, hx, g1, g2, g3]
      refine GCall_of (Itoa_pc Y _ (atoiV w) (atoiV_bd w).1 (atoiV_bd w).2) ?_
      simp only [go_sem, hx, g1, g2, g3]
      refine hR _ ?_
      all_goals try simp only [go_sem, hx]
      all_goals
       first | rfl | (clear hok hn; simp [wordOK, *]; done) | (clear hok hn; simp [wordOK, *]; intro hz; first | omega | (intro _; omega)) | (clear hok hn; simp_all [wordOK]; done) | (clear hok hn; simp_all [wordOK]; omega)
     try simp only [Bool.not_eq_true', Bool.not_eq_false'] at g3
     have n3 := g3; try simp only [nrm] at n3
     simp only [go_sem, hx, g1, g2, g3]
     refine hR _ ?_
     all_goals try simp only [go_sem, hx]
     all_goals
      first | rfl | (clear hok hn; simp [wordOK, *]; done) | (clear hok hn; simp [wordOK, *]; intro hz; first | omega | (intro _; omega)) | (clear hok hn; simp_all [wordOK]; done) | (clear hok hn; simp_all [wordOK]; omega)
    try simp only [Bool.not_eq_true', Bool.not_eq_false'] at g2
    have n2 := g2; try simp only [nrm] at n2
    simp only [go_sem, hx, g1, g2]
    refine hR _ ?_
    all_goals try simp only [go_sem, hx]
    all_goals
     first | rfl | (clear hok hn; simp [wordOK, *]; done) | (clear hok hn; simp [wordOK, *]; intro hz; first | omega | (intro _; omega)) | (clear hok hn; simp_all [wordOK]; done) | (clear hok hn; simp_all [wordOK]; omega)
   try simp only [Bool.not_eq_true', Bool.not_eq_false'] at g1
   have n1 := g1; try simp only [nrm] at n1
   simp only [go_sem, hx, g1]
   refine hR _ ?_
   all_goals try simp only [go_sem, hx]
   all_goals
    first | rfl | (clear hok hn; simp [wordOK, *]; done) | (clear hok hn; simp [wordOK, *]; intro hz; first | omega | (intro _; omega)) | (clear hok hn; simp_all [wordOK]; done) | (clear hok hn; simp_all [wordOK]; omega)
  try simp only [nrm] at c2
  have hke : k = V.length := by first | omega | (simp at c2; omega)
  rw [hke, List.take_length] at hn hok
  rw [if_pos hok, ← hn] at hpe
  refine W_exit ?_
  simp only [go_sem]
  refine K7 _ _ ?_
  refine W_sr [6, 7] fun R hR => ?_
  simp only [go_sem]
  refine hR _ _ ?_; clear hR R
  try simp only [go_sem]
  rw [hpe]
  simp only [numPV, Option.getD_some, Option.isSome_some]
  refine W_ret ?_
  simp only [go_sem]
  refine ⟨.inr (by trivial), ?_⟩
  first | refine Fin_same hcl rfl (Wk.ro (by simp only [go_sem]) ?_) | refine Fin_self hcl rfl (Wk.ro (by simp only [go_sem]) ?_)
  try simp only [go_sem]
  all_goals
   first | done | rfl
 simp only [go_sem, hx0, Int.toNat_zero, Int.le_refl]
 refine GWant_split (fun g4 => ?_) (fun g4 => ?_)
 ·try simp only [Bool.not_eq_true', Bool.not_eq_false'] at g4
  have n4 := g4; try simp only [nrm] at n4
  simp only [go_sem, hx0, Int.toNat_zero, Int.le_refl, g4]
  try simp (disch := (first | omega | (simp only [go_sem, List.length_append] <;> omega))) only [wrapI, wrapU, strAdd, slT, slTa, slTb]
  try simp only [go_sem, hx0, Int.toNat_zero, Int.le_refl, g4]
  refine hR _ ?_
  all_goals try simp only [go_sem, hx0, Int.toNat_zero, Int.le_refl]
  all_goals
   first | rfl | (simp [*]; done) | (simp only [List.cons.injEq, Prod.mk.injEq, PV.bool.injEq, true_and, and_true]; rw [Bool.eq_iff_iff]; simp only [Bool.not_eq_true', decide_eq_false_iff_not, decide_eq_true_eq, Bool.or_eq_true, Bool.and_eq_true]; first | omega | (simp_all; done) | (simp_all; omega))
 try simp only [Bool.not_eq_true', Bool.not_eq_false'] at g4
 have n4 := g4; try simp only [nrm] at n4
 simp only [go_sem, hx0, Int.toNat_zero, Int.le_refl, g4]
 try simp (disch := (first | omega | (simp only [go_sem, List.length_append] <;> omega))) only [wrapI, wrapU, strAdd, slT, slTa, slTb]
 try simp only [go_sem, hx0, Int.toNat_zero, Int.le_refl, g4]
 refine hR _ ?_
 all_goals try simp only [go_sem, hx0, Int.toNat_zero, Int.le_refl]
 all_goals
  first | rfl | (simp [*]; done) | (simp only [List.cons.injEq, Prod.mk.injEq, PV.bool.injEq, true_and, and_true]; rw [Bool.eq_iff_iff]; simp only [Bool.not_eq_true', decide_eq_false_iff_not, decide_eq_true_eq, Bool.or_eq_true, Bool.and_eq_true]; first | omega | (simp_all; done) | (simp_all; omega))
abbrev rdV (σ : Sg) (c : Contest) (l : List Ballot) : Sg := σ.ext [some (cnT (σ.rooms.length + 1) c)] [l.length, c.rounds.length]
set_option maxHeartbeats 16000000 in
theorem Read_pc (Y : YEnv) (σ : Sg) (s : List UInt8) (hs : s.length ≤ 2 ^ 30) :
 PC Tryz.prog Y 30 [txt s] σ (ansU (readU s)) (σ) := by
 refine PC_of_W Tryz.func30 rfl (by kernel_rfl) Tryz.ntmps30 (by simp) fun hcl hca => ?_
 obtain ⟨rows, hrw⟩ : ∃ z, splitL 10 s = z := ⟨_, rfl⟩
 have hwm : ∀ p, p ∈ rows → p.length ≤ 2 ^ 30 := fun p hp => by rw [← hrw] at hp; have := splitL_mem hp; omega
 have hwn : rows ≠ [] := by rw [← hrw]; exact splitL_ne 10 s
 have hwl : 0 < rows.length := List.length_pos_iff.2 hwn
 have hw40 : rows.length ≤ 2 ^ 30 + 1 := by rw [← hrw]; have := splitL_le (b := 10) (s := s); omega
 obtain ⟨xl, hxl⟩ : ∃ w, rows[rows.length - 1]? = some w := ⟨rows[rows.length - 1], by simp [hwl]⟩
 obtain ⟨R, hR0⟩ : ∃ z, rows.take (rows.length - 1) = z := ⟨_, rfl⟩
 have hRl : R.length = rows.length - 1 := by rw [← hR0]; simp
 have hlast : rows[((rows.length : Int) - 1).toNat]? = some xl := by rw [show ((rows.length : Int) - 1).toNat = rows.length - 1 by omega]; exact hxl
 have hposl : (0 ≤ (rows.length : Int) - 1) = True := by simp; omega
 have hRr : ∀ (k : Nat) (x : List UInt8), R[k]? = some x → rows[k]? = some x := fun k x h => by rw [← hR0] at h; rw [List.getElem?_take] at h; split at h <;> first | exact h | cases h
 have htn : ((rows.length : Int) - 1).toNat = rows.length - 1 := by omega
 have hlel : rows.length - 1 ≤ rows.length := by omega
 have hso : sliceOwn .exact 0 (rows.length - 1) rows.length = .ro := if_neg (by omega)
 refine W_sr [0, 2, 3] fun R hR => ?_
 simp only [go_sem]
 refine hR _ _ ?_; clear hR R
 try simp only [go_sem]
 refine W_seq fun Z2 K2 => ?_
 refine W_sr [0, 2, 3, 23] fun R hR => ?_
 simp only [go_sem]
 refine hR _ _ ?_; clear hR R
 try simp only [go_sem]
 refine W_cond rfl (fun c1 => ?_) (fun c1 => ?_)
 ·
  try simp only [nrm] at c1
  have hres : readU s = (cn0, [], 0, 6) := by unfold readU; rw [if_pos (by omega)]
  refine W_sr [2, 3, 4, 5] fun R hR => ?_
  simp only [go_sem]
  refine hR _ _ ?_; clear hR R
  try simp only [go_sem]
  refine W_ret ?_
  simp only [go_sem]
  refine ⟨.inr (by trivial), ?_⟩
  refine Fin_same hcl (by show resPV Tryz.prog _ _ [.cell 2 24, .tmp 3, .tmp 4, .tmp 5] = some _; simp only [resPV, go_sem]; rfl) (Wk.ro (by simp only [go_sem]) ?_)
  try simp only [go_sem]
  all_goals
   first | (rw [hres2]; done) | (rw [hres]; done) | (rw [hres2]; rfl) | (rw [hres]; rfl)
 try simp only [nrm] at c1
 have hres : readU s = readRU rows := by unfold readU; rw [if_neg (by omega), hrw]
 refine W_skip (K2 _ _ ?_)
 refine W_sr [2, 3, 6] fun R hR => ?_
 simp only [go_sem]
 refine GCall_of (PC.val (v' := .isl (rows.map txt) .exact) (Split_pc Y _ s 10 (by omega)) (by rw [hrw])) ?_
 simp only [go_sem]
 refine hR _ _ ?_; clear hR R
 try simp only [go_sem]
 refine W_sr [2, 3, 6, 7] fun R hR => ?_
 simp only [go_sem]
 try simp (disch := (first | omega | (simp only [go_sem, List.length_append] <;> omega))) only [wrapI, wrapU, strAdd, slT, slTa, slTb]
 refine hR _ _ ?_; clear hR R
 try simp only [go_sem]
 refine W_sr [2, 3, 6, 7, 8] fun R hR => ?_
 simp only [go_sem]
 refine hR _ _ ?_; clear hR R
 try simp only [go_sem]
 refine W_seq fun Z8 K8 => ?_
 refine W_sr [2, 3, 6, 7, 8, 32, 33, 34] fun R hR => ?_
 simp only [go_sem, hposl, htn, hlel, ← List.map_take, hso, hR0]
 try simp (disch := (first | omega | (simp only [go_sem, List.length_append] <;> omega))) only [wrapI, wrapU, strAdd, slT, slTa, slTb]
 refine hR _ _ ?_; clear hR R
 try simp only [go_sem]
 refine W_block ?_
 refine W_weak (Weak.room (t := 3) (es := 6) rfl (by simp)) ?_
 refine W_weak (Weak.keep [2, 3, 6, 7, 8, 32, 33, 34]) ?_
 simp only [go_sem]
 refine W_weak (Weak.roomX (j := 0) (off := 4) (es := 3) rfl rfl (by simp)) ?_
 simp only [go_sem]
 refine W_loopT (α := Nat × Contest × (List Ballot) × Bool) (fun ⟨i, c, l, ended⟩ => [(3, .isl (l.map blPV) (.tok σ.rooms.length l.length 6)), (8, .bool ended), (34, I i)]) (fun ⟨i, c, l, ended⟩ => rdV σ c l) (fun ⟨i, c, l, ended⟩ => i ≤ R.length ∧ l.length ≤ i ∧ c.rounds.length ≤ i ∧ (i = 0 → c.rounds = []) ∧ rowsU i (c, l, ended) (R.drop i) = rowsU 0 (cn0, [], false) R) (fun ⟨i, c, l, ended⟩ => R.length - i) ((0, cn0, [], false)) rfl (by first | rfl | (simp only [go_sem]; done) | (simp only [go_sem]; rfl)) (⟨Nat.zero_le _, Nat.le_refl _, Nat.le_refl _, fun _ => rfl, rfl⟩) ?_
 rintro ⟨i, c, l, ended⟩ ⟨hi, hll, hrl, hz, hinv⟩
 refine W_sr [2, 3, 6, 7, 8, 32, 33, 34, 35] fun R hR => ?_
 simp only [go_sem]
 refine hR _ _ ?_; clear hR R
 try simp only [go_sem]
 refine W_seq fun Z11 K11 => ?_
 refine W_cond rfl (fun c2 => ?_) (fun c2 => ?_)
 ·
  try simp only [nrm] at c2
  have hi' : i < R.length := by first | omega | (simp at c2; omega)
  obtain ⟨x, hx⟩ : ∃ x, R[i]? = some x := ⟨R[i], by simp [hi']⟩
  have hdrop : R.drop i = x :: R.drop (i + 1) := by
   rw [List.drop_eq_getElem_cons hi']; congr 1; exact (List.getElem?_eq_some_iff.1 hx).2
  have hxr := hRr i x hx
  have hxm := hwm x (List.mem_of_getElem? hxr)
  rw [hdrop] at hinv
  have hl0 : ((l.length : Int) == 0) = decide (l = []) := by rw [Bool.eq_iff_iff, beq_iff_eq, decide_eq_true_eq, ← List.length_eq_zero_iff]; omega
  obtain ⟨A, hA⟩ : ∃ z, numsW x contestW 4 = z := ⟨_, rfl⟩
  obtain ⟨B, hB⟩ : ∃ z, numsW x roundW 3 = z := ⟨_, rfl⟩
  obtain ⟨C, hC⟩ : ∃ z, numsW x ballotW 6 = z := ⟨_, rfl⟩
  obtain ⟨D, hD⟩ : ∃ z, numsW x endW 1 = z := ⟨_, rfl⟩
  refine W_skip (K11 _ _ ?_)
  refine W_seq fun Z12 K12 => ?_
  refine W_block ?_
  refine W_sr [2, 3, 6, 7, 8, 9, 10, 32, 33, 34] fun R hR => ?_
  simp only [go_sem, hx, hl0]
  refine hR _ _ ?_; clear hR R
  try simp only [go_sem, hx, hl0]
  refine W_sr [2, 3, 6, 7, 8, 9, 10, 11, 12, 32, 33, 34] fun R hR => ?_
  simp only [go_sem, hx, hl0]
  refine GCall_of (PC.val (v' := .tuple [ints (A.getD []), .bool A.isSome]) (numbers_pc Y _ x contestW 4 (by have := hwm x (List.mem_of_getElem? hxr); omega) (by omega)) (by rw [hA]; rfl)) ?_
  simp only [go_sem, hx, hl0]
  refine hR _ _ ?_; clear hR R
  try simp only [go_sem, hx, hl0]
  refine W_sr [2, 3, 6, 7, 8, 9, 10, 11, 12, 13, 14, 32, 33, 34] fun R hR => ?_
  simp only [go_sem, hx, hl0]
  refine GCall_of (PC.val (v' := .tuple [ints (B.getD []), .bool B.isSome]) (numbers_pc Y _ x roundW 3 (by have := hwm x (List.mem_of_getElem? hxr); omega) (by omega)) (by rw [hB]; rfl)) ?_
  simp only [go_sem, hx, hl0]
  refine hR _ _ ?_; clear hR R
  try simp only [go_sem, hx, hl0]
  refine W_sr [2, 3, 6, 7, 8, 9, 10, 11, 12, 13, 14, 15, 16, 32, 33, 34] fun R hR => ?_
  simp only [go_sem, hx, hl0]
  refine GCall_of (PC.val (v' := .tuple [ints (C.getD []), .bool C.isSome]) (numbers_pc Y _ x ballotW 6 (by have := hwm x (List.mem_of_getElem? hxr); omega) (by omega)) (by rw [hC]; rfl)) ?_
  simp only [go_sem, hx, hl0]
  refine hR _ _ ?_; clear hR R
  try simp only [go_sem, hx, hl0]
  refine W_sr [2, 3, 6, 7, 8, 9, 11, 12, 13, 14, 15, 16, 17, 18, 32, 33, 34] fun R hR => ?_
  simp only [go_sem, hx, hl0]
  refine GCall_of (PC.val (v' := .tuple [ints (D.getD []), .bool D.isSome]) (numbers_pc Y _ x endW 1 (by have := hwm x (List.mem_of_getElem? hxr); omega) (by omega)) (by rw [hD]; rfl)) ?_
  simp only [go_sem, hx, hl0]
  refine hR _ _ ?_; clear hR R
  try simp only [go_sem, hx, hl0]
  refine W_seq fun Z18 K18 => ?_
  refine W_regionJ [2, 3, 6, 7, 8, 9, 11, 12, 13, 14, 15, 16, 17, 18, 19, 32, 33, 34] [(19, .bool (!ended && (A.isSome == ((i : Int) == 0))))] ?_ fun R hR => ?_
  ·refine K18 _ _ ?_
   simp only [go_sem, hx, hl0]
   refine W_seq fun Z19 K19 => ?_
   refine W_block ?_
   refine W_sr [2, 3, 6, 7, 8, 9, 11, 12, 13, 14, 15, 16, 17, 18, 19, 32, 33, 34, 67] fun R hR => ?_
   simp only [go_sem, hx, hl0]
   refine hR _ _ ?_; clear hR R
   try simp only [go_sem, hx, hl0]
   refine W_cond rfl (fun c3 => ?_) (fun c3 => ?_)
   ·
    try simp only [nrm] at c3
    have c3n : (ended || (A.isSome != ((i : Int) == 0))) = true := by revert c3; cases ended <;> cases A.isSome <;> cases ((i : Int) == 0) <;> simp
    have hst := step_no (c := c) (l := l) hA c3n
    rw [rowsU_none hst] at hinv
    have hres2 : readU s = (cn0, [], (i : Int) + 1, 1) := by rw [hres]; exact readU_bad (by rw [hR0]; exact hinv.symm) (by omega)
    refine W_skip (K19 _ _ ?_)
    refine W_sr [2, 3, 6, 7, 8, 9, 32, 33, 34, 138] fun R hR => ?_
    simp only [go_sem, hx, hl0]
    refine hR _ _ ?_; clear hR R
    try simp only [go_sem, hx, hl0]
    refine W_cond rfl (fun c4 => ?_) (fun c4 => ?_)
    ·
     try simp only [nrm] at c4
     refine W_sr [2, 3, 4, 5] fun R hR => ?_
     simp only [go_sem, hx, hl0]
     try simp (disch := (first | omega | (simp only [go_sem, List.length_append] <;> omega))) only [wrapI, wrapU, strAdd, slT, slTa, slTb]
     refine hR _ _ ?_; clear hR R
     try simp only [go_sem, hx, hl0]
     refine W_ret ?_
     simp only [go_sem, hx, hl0]
     refine ⟨.inr (by trivial), ?_⟩
     refine Fin_same hcl (by show resPV Tryz.prog _ _ [.cell 2 24, .tmp 3, .tmp 4, .tmp 5] = some _; simp only [resPV, go_sem]; rfl) (Wk.ro (by simp only [go_sem]) ?_)
     try simp only [go_sem]
     all_goals
      first | (rw [hres2]; done) | (rw [hres]; done) | (rw [hres2]; rfl) | (rw [hres]; rfl)
    try simp only [nrm] at c4
    exfalso
    first | omega | (simp at c4; omega) | (simp_all; done) | (simp_all; omega)
   try simp only [nrm] at c3
   obtain ⟨c31, c32⟩ : ended = false ∧ A.isSome = ((i : Int) == 0) := by revert c3; cases ended <;> cases A.isSome <;> cases ((i : Int) == 0) <;> simp
   obtain rfl : ended = false := c31
   have hstp := step_yes (c := c) (l := l) hA hB hC hD c32
   refine W_sr [2, 3, 6, 7, 8, 9, 11, 13, 14, 15, 16, 17, 18, 19, 32, 33, 34, 70] fun R hR => ?_
   simp only [go_sem, hx, hl0]
   refine hR _ _ ?_; clear hR R
   try simp only [go_sem, hx, hl0]
   refine W_cond rfl (fun c5 => ?_) (fun c5 => ?_)
   ·
    try simp only [nrm] at c5
    obtain ⟨n, rfl⟩ : ∃ n, A = some n := by cases A with
     | none => simp at c5
     | some n => exact ⟨n, rfl⟩
    have hnl := numsW_len hA
    have hi0 : i = 0 := by
     have := c32.symm
     simp at this
     omega
    have hc0 := hz hi0
    have hgk : ∀ k, k < n.length → n[k]? = some (n.getD k 0) := fun k h => by simp [h]
    have hg0 := hgk 0 (by omega)
    have hg1 := hgk 1 (by omega)
    have hg2 := hgk 2 (by omega)
    have hg3 := hgk 3 (by omega)
    have hst : stepU i (c, l, false) x = some (mkCn n, l, false) := by
     rw [hstp]
     rfl
    rw [rowsU_some hst] at hinv
    refine W_draw [2, 3, 6, 7, 8, 9, 19, 32, 33, 34] [0, 1, 2, 3, 4, 5, 6, 7, 8, 9, 10, 11, 12, 13] [] [[], [0], [0, 1], [], [3], [3, 4], [], [6], [6, 7], [], [9], [9, 10], [0, 1, 2, 3, 4, 5, 6, 7, 8, 9, 10, 11], [0, 1, 2, 3, 4, 5, 6, 7, 8, 9, 10, 11, 12]] mixed (by kernel_rfl) fun R hR => ?_
    simp only [go_sem, hx, hl0, hg0, hg1, hg2, hg3, Option.getD_some, Int.reduceToNat, Int.reduceLE, Int.le_refl, Int.toNat_zero]
    try refine And.intro (by repeat' (first | refine And.intro ?_ ?_ | exact trivial | exact GOr_right (fun _ => by simp only [go_sem, hx, hl0, hg0, hg1, hg2, hg3, Option.getD_some, Int.reduceToNat, Int.reduceLE, Int.le_refl, Int.toNat_zero]))) ?_
    refine hR _ _ (K19 _ _ ?_); clear hR R; try clear K19 Z19
    try simp only [go_sem, hx, hl0, hg0, hg1, hg2, hg3, Option.getD_some, Int.reduceToNat, Int.reduceLE, Int.le_refl, Int.toNat_zero]
    refine W_sr [2, 3, 6, 7, 8, 9, 32, 33, 34, 138] fun R hR => ?_
    simp only [go_sem, hx, hl0, hg0, hg1, hg2, hg3, Option.getD_some, Int.reduceToNat, Int.reduceLE, Int.le_refl, Int.toNat_zero]
    refine hR _ _ ?_; clear hR R
    try simp only [go_sem, hx, hl0, hg0, hg1, hg2, hg3, Option.getD_some, Int.reduceToNat, Int.reduceLE, Int.le_refl, Int.toNat_zero]
    refine W_cond rfl (fun c6 => ?_) (fun c6 => ?_)
    ·
     try simp only [nrm] at c6
     exfalso
     first | omega | (simp at c6; omega) | (simp_all; done) | (simp_all; omega)
    try simp only [nrm] at c6
    refine W_skip (K12 _ _ ?_)
    refine W_region [2, 3, 6, 7, 8, 32, 33, 34] fun R hR => ?_
    simp only [go_sem, hx, hl0, hg0, hg1, hg2, hg3, Option.getD_some, Int.reduceToNat, Int.reduceLE, Int.le_refl, Int.toNat_zero]
    try simp (disch := (first | omega | (simp only [go_sem, List.length_append] <;> omega))) only [wrapI, wrapU, strAdd, slT, slTa, slTb]
    refine hR _ _ ?_; clear hR R
    try simp only [go_sem, hx, hl0, hg0, hg1, hg2, hg3, Option.getD_some, Int.reduceToNat, Int.reduceLE, Int.le_refl, Int.toNat_zero]
    refine ⟨(i + 1, mkCn n, l, false), ?_, by (try simp only []); omega, ?_⟩
    ·refine Weak.trans (Weak.cutX 1 1 (by omega) (by omega) hcl (by simp only [go_sem] <;> omega) (by simp only [go_sem] <;> omega)) ?_
     simp only [go_sem]
     refine Weak.trans (Weak.roomX (j := 0) (off := 4) (es := 3) rfl rfl (by simp)) ?_
     simp only [go_sem]
     refine Weak.eq (by first | rfl | (simp only [go_sem]; done) | (simp only [go_sem, mkBl, List.map_append, List.map_cons, List.map_nil, List.length_append, List.length_cons, List.length_nil]; first | done | rfl)) (by simp only [rdV, go_sem, mkCn, mkRd, mkBl, List.map_append, List.map_cons, List.map_nil, List.length_append, List.length_cons, List.length_nil]; first | done | rfl)
    try dsimp only
    exact ⟨by omega, by omega, by simp [mkCn], fun h => by omega, by rw [hi0] at hinv ⊢; exact hinv⟩
   try simp only [nrm] at c5
   obtain rfl : A = none := by cases A with
    | none => rfl
    | some n => simp at c5
   refine W_sr [2, 3, 6, 7, 8, 9, 13, 15, 16, 17, 18, 19, 32, 33, 34, 85] fun R hR => ?_
   simp only [go_sem, hx, hl0]
   refine hR _ _ ?_; clear hR R
   try simp only [go_sem, hx, hl0]
   refine W_cond rfl (fun c7 => ?_) (fun c7 => ?_)
   ·
    try simp only [nrm] at c7
    obtain ⟨n, rfl⟩ : ∃ n, B = some n := by cases B with
     | none => simp at c7
     | some n => exact ⟨n, rfl⟩
    have hnl := numsW_len hB
    have hgk : ∀ k, k < n.length → n[k]? = some (n.getD k 0) := fun k h => by simp [h]
    have hg0 := hgk 0 (by omega)
    have hg1 := hgk 1 (by omega)
    have hg2 := hgk 2 (by omega)
    refine W_sr [2, 3, 6, 7, 8, 9, 13, 19, 32, 33, 34] fun R hR => ?_
    simp only [go_sem, hx, hl0, hg0, hg1, hg2, Option.getD_some, Int.reduceToNat, Int.reduceLE, Int.le_refl, Int.toNat_zero]
    refine hR _ _ ?_; clear hR R
    try simp only [go_sem, hx, hl0, hg0, hg1, hg2, Option.getD_some, Int.reduceToNat, Int.reduceLE, Int.le_refl, Int.toNat_zero]
    refine W_draw [2, 3, 6, 7, 8, 9, 19, 32, 33, 34] [0, 1, 2, 3, 4, 5, 6, 7, 8, 9, 10, 11, 12, 13, 14, 15] [] [[], [0], [], [2], [2, 3], [], [5], [5, 6], [], [8], [8, 9], [2, 3, 4, 5, 6, 7, 8, 9, 10], [2, 3, 4, 5, 6, 7, 8, 9, 10, 11], [0, 1, 2, 3, 4, 5, 6, 7, 8, 9, 10, 11, 12], [0, 1, 2, 3, 4, 5, 6, 7, 8, 9, 10, 11, 12, 13], [0, 1, 2, 3, 4, 5, 6, 7, 8, 9, 10, 11, 12, 13, 14]] mixed (by kernel_rfl) fun R hR => ?_
    simp only [go_sem, hx, hl0, hg0, hg1, hg2, Option.getD_some, Int.reduceToNat, Int.reduceLE, Int.le_refl, Int.toNat_zero]
    try simp (disch := (first | omega | (simp only [go_sem, List.length_append] <;> omega))) only [wrapI, wrapU, appX_exact, appX_tok, strAdd, slT, slTa, slTb]
    try simp only [go_sem, hx, hl0, hg0, hg1, hg2, Option.getD_some, Int.reduceToNat, Int.reduceLE, Int.le_refl, Int.toNat_zero]
    try refine And.intro (by repeat' (first | refine And.intro ?_ ?_ | exact trivial | exact GOr_right (fun _ => by simp only [go_sem, hx, hl0, hg0, hg1, hg2, Option.getD_some, Int.reduceToNat, Int.reduceLE, Int.le_refl, Int.toNat_zero]))) ?_
    refine hR _ _ (K19 _ _ ?_); clear hR R; try clear K19 Z19
    try simp only [go_sem, hx, hl0, hg0, hg1, hg2, Option.getD_some, Int.reduceToNat, Int.reduceLE, Int.le_refl, Int.toNat_zero]
    refine W_sr [2, 3, 6, 7, 8, 9, 32, 33, 34, 138] fun R hR => ?_
    simp only [go_sem, hx, hl0, hg0, hg1, hg2, Option.getD_some, Int.reduceToNat, Int.reduceLE, Int.le_refl, Int.toNat_zero]
    refine hR _ _ ?_; clear hR R
    try simp only [go_sem, hx, hl0, hg0, hg1, hg2, Option.getD_some, Int.reduceToNat, Int.reduceLE, Int.le_refl, Int.toNat_zero]
    refine W_cond rfl (fun c8 => ?_) (fun c8 => ?_)
    ·
     try simp only [nrm] at c8
     have hst : stepU i (c, l, false) x = none := by
      rw [hstp]
      exact if_neg fun q => by simp [q] at c8
     rw [rowsU_none hst] at hinv
     have hres2 : readU s = (cn0, [], (i : Int) + 1, 1) := by rw [hres]; exact readU_bad (by rw [hR0]; exact hinv.symm) (by omega)
     refine W_sr [2, 3, 4, 5] fun R hR => ?_
     simp only [go_sem, hx, hl0, hg0, hg1, hg2, Option.getD_some, Int.reduceToNat, Int.reduceLE, Int.le_refl, Int.toNat_zero]
     try simp (disch := (first | omega | (simp only [go_sem, List.length_append] <;> omega))) only [wrapI, wrapU, strAdd, slT, slTa, slTb]
     refine hR _ _ ?_; clear hR R
     try simp only [go_sem, hx, hl0, hg0, hg1, hg2, Option.getD_some, Int.reduceToNat, Int.reduceLE, Int.le_refl, Int.toNat_zero]
     refine W_ret ?_
     simp only [go_sem, hx, hl0, hg0, hg1, hg2, Option.getD_some, Int.reduceToNat, Int.reduceLE, Int.le_refl, Int.toNat_zero]
     refine ⟨.inr (by trivial), ?_⟩
     refine Fin_same hcl (by show resPV Tryz.prog _ _ [.cell 2 24, .tmp 3, .tmp 4, .tmp 5] = some _; simp only [resPV, go_sem]; rfl) (Wk.ro (by simp only [go_sem]) ?_)
     try simp only [go_sem]
     all_goals
      first | (rw [hres2]; done) | (rw [hres]; done) | (rw [hres2]; rfl) | (rw [hres]; rfl)
    try simp only [nrm] at c8
    have hl00 : l = [] := by simpa using c8
    have hst : stepU i (c, l, false) x = some ({ c with rounds := c.rounds ++ [mkRd n] }, l, false) := by
     rw [hstp]
     exact if_pos hl00
    rw [rowsU_some hst] at hinv
    refine W_skip (K12 _ _ ?_)
    refine W_region [2, 3, 6, 7, 8, 32, 33, 34] fun R hR => ?_
    simp only [go_sem, hx, hl0, hg0, hg1, hg2, Option.getD_some, Int.reduceToNat, Int.reduceLE, Int.le_refl, Int.toNat_zero]
    try simp (disch := (first | omega | (simp only [go_sem, List.length_append] <;> omega))) only [wrapI, wrapU, strAdd, slT, slTa, slTb]
    refine hR _ _ ?_; clear hR R
    try simp only [go_sem, hx, hl0, hg0, hg1, hg2, Option.getD_some, Int.reduceToNat, Int.reduceLE, Int.le_refl, Int.toNat_zero]
    refine ⟨(i + 1, { c with rounds := c.rounds ++ [mkRd n] }, l, false), ?_, by (try simp only []); omega, ?_⟩
    ·refine Weak.eq (by first | rfl | (simp only [go_sem]; done) | (simp only [go_sem, mkBl, List.map_append, List.map_cons, List.map_nil, List.length_append, List.length_cons, List.length_nil]; first | done | rfl)) (by simp only [rdV, go_sem, mkCn, mkRd, mkBl, List.map_append, List.map_cons, List.map_nil, List.length_append, List.length_cons, List.length_nil]; first | done | rfl)
    try dsimp only
    exact ⟨by omega, by omega, by simp; omega, fun h => by omega, hinv⟩
   try simp only [nrm] at c7
   obtain rfl : B = none := by cases B with
    | none => rfl
    | some n => simp at c7
   refine W_sr [2, 3, 6, 7, 8, 9, 15, 17, 18, 19, 32, 33, 34, 105] fun R hR => ?_
   simp only [go_sem, hx, hl0]
   refine hR _ _ ?_; clear hR R
   try simp only [go_sem, hx, hl0]
   refine W_cond rfl (fun c9 => ?_) (fun c9 => ?_)
   ·
    try simp only [nrm] at c9
    obtain ⟨n, rfl⟩ : ∃ n, C = some n := by cases C with
     | none => simp at c9
     | some n => exact ⟨n, rfl⟩
    have hnl := numsW_len hC
    have hgk : ∀ k, k < n.length → n[k]? = some (n.getD k 0) := fun k h => by simp [h]
    have hg0 := hgk 0 (by omega)
    have hg1 := hgk 1 (by omega)
    have hg2 := hgk 2 (by omega)
    have hg3 := hgk 3 (by omega)
    have hg4 := hgk 4 (by omega)
    have hg5 := hgk 5 (by omega)
    have hst : stepU i (c, l, false) x = some (c, l ++ [mkBl n], false) := by
     rw [hstp]
     rfl
    rw [rowsU_some hst] at hinv
    refine W_draw [2, 3, 6, 7, 8, 9, 19, 32, 33, 34] [0, 1, 2, 3, 4, 5, 6, 7, 8, 9, 10, 11, 12, 13, 14, 15, 16, 17, 18, 19, 20, 21, 22] [] [[], [], [1], [1, 2], [], [4], [4, 5], [], [7], [7, 8], [], [10], [10, 11], [], [13], [13, 14], [], [16], [16, 17], [1, 2, 3, 4, 5, 6, 7, 8, 9, 10, 11, 12, 13, 14, 15, 16, 17, 18], [1, 2, 3, 4, 5, 6, 7, 8, 9, 10, 11, 12, 13, 14, 15, 16, 17, 18, 19], [0, 1, 2, 3, 4, 5, 6, 7, 8, 9, 10, 11, 12, 13, 14, 15, 16, 17, 18, 19, 20], [0, 1, 2, 3, 4, 5, 6, 7, 8, 9, 10, 11, 12, 13, 14, 15, 16, 17, 18, 19, 20, 21]] mixed (by kernel_rfl) fun R hR => ?_
    simp only [go_sem, hx, hl0, hg0, hg1, hg2, hg3, hg4, hg5, Option.getD_some, Int.reduceToNat, Int.reduceLE, Int.le_refl, Int.toNat_zero]
    try simp (disch := (first | omega | (simp only [go_sem, List.length_append] <;> omega))) only [wrapI, wrapU, appX_exact, appX_tok, strAdd, slT, slTa, slTb]
    try simp only [go_sem, hx, hl0, hg0, hg1, hg2, hg3, hg4, hg5, Option.getD_some, Int.reduceToNat, Int.reduceLE, Int.le_refl, Int.toNat_zero]
    try refine And.intro (by repeat' (first | refine And.intro ?_ ?_ | exact trivial | exact GOr_right (fun _ => by simp only [go_sem, hx, hl0, hg0, hg1, hg2, hg3, hg4, hg5, Option.getD_some, Int.reduceToNat, Int.reduceLE, Int.le_refl, Int.toNat_zero]))) ?_
    refine hR _ _ (K19 _ _ ?_); clear hR R; try clear K19 Z19
    try simp only [go_sem, hx, hl0, hg0, hg1, hg2, hg3, hg4, hg5, Option.getD_some, Int.reduceToNat, Int.reduceLE, Int.le_refl, Int.toNat_zero]
    refine W_sr [2, 3, 6, 7, 8, 9, 32, 33, 34, 138] fun R hR => ?_
    simp only [go_sem, hx, hl0, hg0, hg1, hg2, hg3, hg4, hg5, Option.getD_some, Int.reduceToNat, Int.reduceLE, Int.le_refl, Int.toNat_zero]
    refine hR _ _ ?_; clear hR R
    try simp only [go_sem, hx, hl0, hg0, hg1, hg2, hg3, hg4, hg5, Option.getD_some, Int.reduceToNat, Int.reduceLE, Int.le_refl, Int.toNat_zero]
    refine W_cond rfl (fun c10 => ?_) (fun c10 => ?_)
    ·
     try simp only [nrm] at c10
     exfalso
     first | omega | (simp at c10; omega) | (simp_all; done) | (simp_all; omega)
    try simp only [nrm] at c10
    refine W_skip (K12 _ _ ?_)
    refine W_region [2, 3, 6, 7, 8, 32, 33, 34] fun R hR => ?_
    simp only [go_sem, hx, hl0, hg0, hg1, hg2, hg3, hg4, hg5, Option.getD_some, Int.reduceToNat, Int.reduceLE, Int.le_refl, Int.toNat_zero]
    try simp (disch := (first | omega | (simp only [go_sem, List.length_append] <;> omega))) only [wrapI, wrapU, strAdd, slT, slTa, slTb]
    refine hR _ _ ?_; clear hR R
    try simp only [go_sem, hx, hl0, hg0, hg1, hg2, hg3, hg4, hg5, Option.getD_some, Int.reduceToNat, Int.reduceLE, Int.le_refl, Int.toNat_zero]
    refine ⟨(i + 1, c, l ++ [mkBl n], false), ?_, by (try simp only []); omega, ?_⟩
    ·refine Weak.eq (by first | rfl | (simp only [go_sem]; done) | (simp only [go_sem, mkBl, List.map_append, List.map_cons, List.map_nil, List.length_append, List.length_cons, List.length_nil]; first | done | rfl)) (by simp only [rdV, go_sem, mkCn, mkRd, mkBl, List.map_append, List.map_cons, List.map_nil, List.length_append, List.length_cons, List.length_nil]; first | done | rfl)
    try dsimp only
    exact ⟨by omega, by simp; omega, by omega, fun h => by omega, hinv⟩
   try simp only [nrm] at c9
   obtain rfl : C = none := by cases C with
    | none => rfl
    | some n => simp at c9
   refine W_sr [2, 3, 6, 7, 8, 9, 17, 32, 33, 34, 129] fun R hR => ?_
   simp only [go_sem, hx, hl0]
   refine hR _ _ ?_; clear hR R
   try simp only [go_sem, hx, hl0]
   refine W_cond rfl (fun c11 => ?_) (fun c11 => ?_)
   ·
    try simp only [nrm] at c11
    obtain ⟨n, rfl⟩ : ∃ n, D = some n := by cases D with
     | none => simp at c11
     | some n => exact ⟨n, rfl⟩
    have hnl := numsW_len hD
    have hgk : ∀ k, k < n.length → n[k]? = some (n.getD k 0) := fun k h => by simp [h]
    have hg0 := hgk 0 (by omega)
    refine W_region [2, 3, 6, 7, 8, 9, 19, 32, 33, 34] fun R hR => ?_
    simp only [go_sem, hx, hl0, hg0, Option.getD_some, Int.reduceToNat, Int.reduceLE, Int.le_refl, Int.toNat_zero]
    refine hR _ _ (K19 _ _ ?_); clear hR R; try clear K19 Z19
    try simp only [go_sem, hx, hl0, hg0, Option.getD_some, Int.reduceToNat, Int.reduceLE, Int.le_refl, Int.toNat_zero]
    refine W_sr [2, 3, 6, 7, 8, 9, 32, 33, 34, 138] fun R hR => ?_
    simp only [go_sem, hx, hl0, hg0, Option.getD_some, Int.reduceToNat, Int.reduceLE, Int.le_refl, Int.toNat_zero]
    refine hR _ _ ?_; clear hR R
    try simp only [go_sem, hx, hl0, hg0, Option.getD_some, Int.reduceToNat, Int.reduceLE, Int.le_refl, Int.toNat_zero]
    refine W_cond rfl (fun c12 => ?_) (fun c12 => ?_)
    ·
     try simp only [nrm] at c12
     have hst : stepU i (c, l, false) x = none := by
      rw [hstp]
      exact if_neg fun q => by rw [q] at c12; simp at c12
     rw [rowsU_none hst] at hinv
     have hres2 : readU s = (cn0, [], (i : Int) + 1, 1) := by rw [hres]; exact readU_bad (by rw [hR0]; exact hinv.symm) (by omega)
     refine W_sr [2, 3, 4, 5] fun R hR => ?_
     simp only [go_sem, hx, hl0, hg0, Option.getD_some, Int.reduceToNat, Int.reduceLE, Int.le_refl, Int.toNat_zero]
     try simp (disch := (first | omega | (simp only [go_sem, List.length_append] <;> omega))) only [wrapI, wrapU, strAdd, slT, slTa, slTb]
     refine hR _ _ ?_; clear hR R
     try simp only [go_sem, hx, hl0, hg0, Option.getD_some, Int.reduceToNat, Int.reduceLE, Int.le_refl, Int.toNat_zero]
     refine W_ret ?_
     simp only [go_sem, hx, hl0, hg0, Option.getD_some, Int.reduceToNat, Int.reduceLE, Int.le_refl, Int.toNat_zero]
     refine ⟨.inr (by trivial), ?_⟩
     refine Fin_same hcl (by show resPV Tryz.prog _ _ [.cell 2 24, .tmp 3, .tmp 4, .tmp 5] = some _; simp only [resPV, go_sem]; rfl) (Wk.ro (by simp only [go_sem]) ?_)
     try simp only [go_sem]
     all_goals
      first | (rw [hres2]; done) | (rw [hres]; done) | (rw [hres2]; rfl) | (rw [hres]; rfl)
    try simp only [nrm] at c12
    have hn0 : n.getD 0 0 = (l.length : Int) := by simpa using c12
    have hst : stepU i (c, l, false) x = some (c, l, true) := by
     rw [hstp]
     exact if_pos hn0
    rw [rowsU_some hst] at hinv
    refine W_skip (K12 _ _ ?_)
    refine W_region [2, 3, 6, 7, 8, 32, 33, 34] fun R hR => ?_
    simp only [go_sem, hx, hl0, hg0, Option.getD_some, Int.reduceToNat, Int.reduceLE, Int.le_refl, Int.toNat_zero]
    try simp (disch := (first | omega | (simp only [go_sem, List.length_append] <;> omega))) only [wrapI, wrapU, strAdd, slT, slTa, slTb]
    refine hR _ _ ?_; clear hR R
    try simp only [go_sem, hx, hl0, hg0, Option.getD_some, Int.reduceToNat, Int.reduceLE, Int.le_refl, Int.toNat_zero]
    refine ⟨(i + 1, c, l, true), ?_, by (try simp only []); omega, ?_⟩
    ·first | exact Weak.refl | exact Wqq
    try dsimp only
    exact ⟨by omega, by omega, by omega, fun h => by omega, hinv⟩
   try simp only [nrm] at c11
   obtain rfl : D = none := by cases D with
    | none => rfl
    | some n => simp at c11
   have hst : stepU i (c, l, false) x = none := by
    rw [hstp]
    rfl
   rw [rowsU_none hst] at hinv
   have hres2 : readU s = (cn0, [], (i : Int) + 1, 1) := by rw [hres]; exact readU_bad (by rw [hR0]; exact hinv.symm) (by omega)
   refine W_region [2, 3, 6, 7, 8, 9, 19, 32, 33, 34] fun R hR => ?_
   simp only [go_sem, hx, hl0]
   refine hR _ _ (K19 _ _ ?_); clear hR R; try clear K19 Z19
   try simp only [go_sem, hx, hl0]
   refine W_sr [2, 3, 6, 7, 8, 9, 32, 33, 34, 138] fun R hR => ?_
   simp only [go_sem, hx, hl0]
   refine hR _ _ ?_; clear hR R
   try simp only [go_sem, hx, hl0]
   refine W_cond rfl (fun c13 => ?_) (fun c13 => ?_)
   ·
    try simp only [nrm] at c13
    refine W_sr [2, 3, 4, 5] fun R hR => ?_
    simp only [go_sem, hx, hl0]
    try simp (disch := (first | omega | (simp only [go_sem, List.length_append] <;> omega))) only [wrapI, wrapU, strAdd, slT, slTa, slTb]
    refine hR _ _ ?_; clear hR R
    try simp only [go_sem, hx, hl0]
    refine W_ret ?_
    simp only [go_sem, hx, hl0]
    refine ⟨.inr (by trivial), ?_⟩
    refine Fin_same hcl (by show resPV Tryz.prog _ _ [.cell 2 24, .tmp 3, .tmp 4, .tmp 5] = some _; simp only [resPV, go_sem]; rfl) (Wk.ro (by simp only [go_sem]) ?_)
    try simp only [go_sem]
    all_goals
     first | (rw [hres2]; done) | (rw [hres]; done) | (rw [hres2]; rfl) | (rw [hres]; rfl)
   try simp only [nrm] at c13
   exfalso
   first | omega | (simp at c13; omega) | (simp_all; done) | (simp_all; omega)
  simp only [go_sem, hx, hl0]
  refine GWant_split (fun g1 => ?_) (fun g1 => ?_)
  ·try simp only [Bool.not_eq_true', Bool.not_eq_false'] at g1
   have n1 := g1; try simp only [nrm] at n1
   simp only [go_sem, hx, hl0, g1]
   refine hR _ ?_
   all_goals try simp only [go_sem, hx, hl0]
   all_goals
    first | rfl | (simp [*]; done) | (simp [*, bne]; done) | (simp_all; done)
  try simp only [Bool.not_eq_true', Bool.not_eq_false'] at g1
  have n1 := g1; try simp only [nrm] at n1
  simp only [go_sem, hx, hl0, g1]
  refine hR _ ?_
  all_goals try simp only [go_sem, hx, hl0]
  all_goals
   first | rfl | (simp [*]; done) | (simp [*, bne]; done) | (simp_all; done)
 try simp only [nrm] at c2
 have hie : i = R.length := by first | omega | (simp at c2; omega)
 have hdrop : R.drop i = [] := List.drop_eq_nil_of_le (by omega)
 rw [hdrop] at hinv
 simp only [rowsU] at hinv
 have hfin := hinv.symm
 refine W_exit ?_
 simp only [go_sem]
 refine K8 _ _ ?_
 refine W_seq fun Z36 K36 => ?_
 refine W_seq fun Z37 K37 => ?_
 refine W_regionJ [2, 3, 7, 151] [(151, .bool (!ended || !decide (xl = [])))] ?_ fun R hR => ?_
 ·refine K37 _ _ ?_
  simp only [go_sem]
  refine W_cond rfl (fun c14 => ?_) (fun c14 => ?_)
  ·
   try simp only [nrm] at c14
   have hres2 : readU s = (cn0, [], (rows.length : Int), 1) := by
    rw [hres]
    refine readU_open (by rw [hR0]; exact hfin) ?_
    rw [hxl]
    by_cases h5 : ended = false
    ·exact .inl h5
    right; simp at h5; simp [h5] at c14; simpa using c14
   refine W_sr [2, 3, 4, 5] fun R hR => ?_
   simp only [go_sem]
   try simp (disch := (first | omega | (simp only [go_sem, List.length_append] <;> omega))) only [wrapI, wrapU, strAdd, slT, slTa, slTb]
   refine hR _ _ ?_; clear hR R
   try simp only [go_sem]
   refine W_ret ?_
   simp only [go_sem]
   refine ⟨.inr (by trivial), ?_⟩
   refine Fin_same hcl (by show resPV Tryz.prog _ _ [.cell 2 24, .tmp 3, .tmp 4, .tmp 5] = some _; simp only [resPV, go_sem]; rfl) (Wk.ro (by simp only [go_sem]) ?_)
   try simp only [go_sem]
   all_goals
    rw [show (rows.length : Int) - 1 + 1 = (rows.length : Int) by omega, hres2]; rfl
  try simp only [nrm] at c14
  obtain ⟨rfl, rfl⟩ : ended = true ∧ xl = [] := by simpa using c14
  have hres2 : readU s = if chkBls c l ≠ 0 then (cn0, [], 0, chkBls c l) else (c, l, 0, 0) := by
   rw [hres]
   exact readU_end (st := (c, l, true)) (by rw [hR0]; exact hfin) (by rw [hxl]; simp)
  refine W_skip (K36 _ _ ?_)
  refine W_seq fun Z39 K39 => ?_
  refine W_sr [2, 3, 20] fun R hR => ?_
  simp only [go_sem]
  refine GCall_of (PC.ofRo (chkBls_pc Y _ c l (by omega) (by omega)) (by simp only [go_sem] <;> rfl)) ?_
  simp only [go_sem]
  refine hR _ _ ?_; clear hR R
  try simp only [go_sem]
  refine W_sr [2, 3, 20, 159] fun R hR => ?_
  simp only [go_sem]
  refine hR _ _ ?_; clear hR R
  try simp only [go_sem]
  refine W_cond rfl (fun c15 => ?_) (fun c15 => ?_)
  ·
   try simp only [nrm] at c15
   rw [if_pos (by simpa using c15)] at hres2
   refine W_sr [2, 3, 4, 5] fun R hR => ?_
   simp only [go_sem]
   refine hR _ _ ?_; clear hR R
   try simp only [go_sem]
   refine W_ret ?_
   simp only [go_sem]
   refine ⟨.inr (by trivial), ?_⟩
   refine Fin_same hcl (by show resPV Tryz.prog _ _ [.cell 2 24, .tmp 3, .tmp 4, .tmp 5] = some _; simp only [resPV, go_sem]; rfl) (Wk.ro (by simp only [go_sem]) ?_)
   try simp only [go_sem]
   all_goals
    first | (rw [hres2]; done) | (rw [hres]; done) | (rw [hres2]; rfl) | (rw [hres]; rfl)
  try simp only [nrm] at c15
  rw [if_neg (by simpa using c15)] at hres2
  refine W_skip (K39 _ _ ?_)
  refine W_sr [2, 3, 4, 5] fun R hR => ?_
  simp only [go_sem]
  refine hR _ _ ?_; clear hR R
  try simp only [go_sem]
  refine W_ret ?_
  simp only [go_sem]
  refine ⟨.inr (by trivial), ?_⟩
  refine Fin_same hcl (by show resPV Tryz.prog _ _ [.cell 2 24, .tmp 3, .tmp 4, .tmp 5] = some _; simp only [resPV, go_sem]; rfl) (Wk.ro (by simp only [go_sem]) ?_)
  try simp only [go_sem]
  all_goals
   first | (rw [hres2]; done) | (rw [hres]; done) | (rw [hres2]; rfl) | (rw [hres]; rfl)
 simp only [go_sem, hlast, hposl]
 refine GWant_split (fun g2 => ?_) (fun g2 => ?_)
 ·try simp only [Bool.not_eq_true', Bool.not_eq_false'] at g2
  have n2 := g2; try simp only [nrm] at n2
  simp only [go_sem, hlast, hposl, g2]
  refine hR _ ?_
  all_goals try simp only [go_sem, hlast, hposl]
  all_goals
   first | rfl | (simp [*]; done) | (simp_all; done)
 try simp only [Bool.not_eq_true', Bool.not_eq_false'] at g2
 have n2 := g2; try simp only [nrm] at n2
 simp only [go_sem, hlast, hposl, g2]
 refine hR _ ?_
 all_goals try simp only [go_sem, hlast, hposl]
 all_goals
  first | rfl | (simp [*]; done) | (simp_all; done)
set_option maxHeartbeats 2000000 in
theorem rReadL_pc (Y : YEnv) (σ : Sg) (s : List UInt8) (hs : 12000 < s.length) :
 PC Tryz.prog Y 31 [txt s] σ (ansU (readU s)) (σ) := by
 refine PC_of_W Tryz.func31 rfl (by kernel_rfl) Tryz.ntmps31 (by simp) fun hcl hca => ?_
 refine W_sr [0, 2] fun R hR => ?_
 simp only [go_sem]
 refine hR _ _ ?_; clear hR R
 try simp only [go_sem]
 refine W_seq fun Z2 K2 => ?_
 refine W_sr [0, 2, 22] fun R hR => ?_
 simp only [go_sem]
 refine hR _ _ ?_; clear hR R
 try simp only [go_sem]
 refine W_cond rfl (fun c1 => ?_) (fun c1 => ?_)
 ·
  try simp only [nrm] at c1
  have hres : readU s = (cn0, [], 0, 6) := by unfold readU; rw [if_pos (by omega)]
  refine W_sr [2, 3, 4, 5] fun R hR => ?_
  simp only [go_sem]
  refine hR _ _ ?_; clear hR R
  try simp only [go_sem]
  refine W_ret ?_
  simp only [go_sem]
  refine ⟨.inr (by trivial), ?_⟩
  first | refine Fin_same hcl (by show resPV Tryz.prog _ _ [.cell 2 24, .tmp 3, .tmp 4, .tmp 5] = some _; simp only [resPV, go_sem]; rfl) (Wk.ro (by simp only [go_sem]) ?_)
  try simp only [go_sem]
  all_goals
   first | (rw [hres]; done) | (rw [hres]; rfl)
 try simp only [nrm] at c1
 exfalso
 omega
set_option maxHeartbeats 2000000 in
theorem ReadL_pc (Y : YEnv) (σ : Sg) (s : List UInt8) (hs : 12000 < s.length) :
 PC Tryz.prog Y 30 [txt s] σ (ansU (readU s)) (σ) := by
 refine PC_of_W Tryz.func30 rfl (by kernel_rfl) Tryz.ntmps30 (by simp) fun hcl hca => ?_
 refine W_sr [0, 2, 3] fun R hR => ?_
 simp only [go_sem]
 refine hR _ _ ?_; clear hR R
 try simp only [go_sem]
 refine W_seq fun Z2 K2 => ?_
 refine W_sr [0, 2, 3, 23] fun R hR => ?_
 simp only [go_sem]
 refine hR _ _ ?_; clear hR R
 try simp only [go_sem]
 refine W_cond rfl (fun c1 => ?_) (fun c1 => ?_)
 ·
  try simp only [nrm] at c1
  have hres : readU s = (cn0, [], 0, 6) := by unfold readU; rw [if_pos (by omega)]
  refine W_sr [2, 3, 4, 5] fun R hR => ?_
  simp only [go_sem]
  refine hR _ _ ?_; clear hR R
  try simp only [go_sem]
  refine W_ret ?_
  simp only [go_sem]
  refine ⟨.inr (by trivial), ?_⟩
  first | refine Fin_same hcl (by show resPV Tryz.prog _ _ [.cell 2 24, .tmp 3, .tmp 4, .tmp 5] = some _; simp only [resPV, go_sem]; rfl) (Wk.ro (by simp only [go_sem]) ?_)
  try simp only [go_sem]
  all_goals
   first | (rw [hres]; done) | (rw [hres]; rfl)
 try simp only [nrm] at c1
 exfalso
 omega
theorem rReadU_pc (Y : YEnv) (σ : Sg) (s : List UInt8) : PC Tryz.prog Y 31 [txt s] σ (ansU (readU s)) σ := by
 by_cases h : 12000 < s.length
 ·exact rReadL_pc Y σ s h
 exact rRead_pc Y σ s (by omega)
theorem ReadU_pc (Y : YEnv) (σ : Sg) (s : List UInt8) : PC Tryz.prog Y 30 [txt s] σ (ansU (readU s)) σ := by
 by_cases h : 12000 < s.length
 ·exact ReadL_pc Y σ s h
 exact Read_pc Y σ s (by omega)
def blsPV (l : List Ballot) : PV := bls l
theorem clean_bls {a b c : Nat} (x : List Ballot) : Clean a b c (blsPV x) := Clean.map noTok clean_bl
theorem cA_bls {a b c : Nat} {xs : List (List Ballot)} : CleanAll a b c (xs.map blsPV) = True := CleanAll_map clean_bls
theorem cA_cns {a b c : Nat} {xs : List Contest} : CleanAll a b c (xs.map cnPV) = True := CleanAll_map clean_cn
attribute [go_sem] cA_bls cA_cns
theorem long_not {c : Contest} {l : List Ballot} (h : longD c l = false) : c.rounds.length ≤ 10 ∧ l.length ≤ 309 := by
 simp only [longD, Bool.or_eq_false_iff, decide_eq_false_iff_not] at h
 omega
set_option maxHeartbeats 16000000 in
theorem SongUrns_pc (Y : YEnv) (σ : Sg) (c : Contest) (l : List Ballot) (t : List UInt8) (nums : List Int) (at' how by' : Int) (hn : nums.length < 2 ^ 60) (h1 : -9223372036854775808 ≤ at') (h2 : at' ≤ 9223372036854775807) (h3 : -9223372036854775808 ≤ how) (h4 : how ≤ 9223372036854775807) :
 PC Tryz.prog Y 4 [cnPV c, bls l, txt t, ints nums, I at', I how, .int .u8 by'] σ (.bool true) (σ) := by
 refine PC_of_W Tryz.func4 rfl (by kernel_rfl) Tryz.ntmps4 (by simp) fun hcl hca => ?_
 obtain ⟨b0, hb0⟩ : ∃ z, drumB nums 2685821657736338717 = z := ⟨_, rfl⟩
 obtain ⟨made, hmade⟩ : ∃ zz, (contestD 5 3 6 b0).1 = zz := ⟨_, rfl⟩
 obtain ⟨b1, hb1⟩ : ∃ zz, (contestD 5 3 6 b0).2 = zz := ⟨_, rfl⟩
 have dmade := contestD_ok (songs := 5) (juries := 3) (members := 6) (by omega) (by omega) (by omega) b0
 simp only [hmade] at dmade
 obtain ⟨sml, hsml⟩ : ∃ zz, (ballotsD made 15 b1).1 = zz := ⟨_, rfl⟩
 obtain ⟨b2, hb2⟩ : ∃ zz, (ballotsD made 15 b1).2 = zz := ⟨_, rfl⟩
 have dsml := ballotsD_ok dmade (most := 15) (by omega) b1
 simp only [hsml] at dsml
 have hmr := dmade.rl
 obtain ⟨ds1, ds2, ds3, ds4⟩ := dsml
 refine W_sr [1, 2, 3, 4, 5, 6, 7] fun R hR => ?_
 simp only [go_sem, hb0, hmade, hb1, hsml, hb2]
 refine hR _ _ ?_; clear hR R
 try simp only [go_sem, hb0, hmade, hb1, hsml, hb2]
 refine W_seq fun Z2 K2 => ?_
 refine W_seq fun Z3 K3 => ?_
 refine W_regionJ [1, 2, 3, 4, 5, 6, 7, 46] [(46, .bool (longD c l || (decide ((1500 : Int) < t.length) && decide ((t.length : Int) ≤ 12000))))] ?_ fun R hR => ?_
 ·refine K3 _ _ ?_
  simp only [go_sem, hb0, hmade, hb1, hsml, hb2]
  refine W_cond rfl (fun c1 => ?_) (fun c1 => ?_)
  ·
   try simp only [nrm] at c1
   refine W_sr [14] fun R hR => ?_
   simp only [go_sem, hb0, hmade, hb1, hsml, hb2]
   refine GCall_of (awake_pc Y _) ?_
   simp only [go_sem, hb0, hmade, hb1, hsml, hb2]
   refine hR _ _ ?_; clear hR R
   try simp only [go_sem, hb0, hmade, hb1, hsml, hb2]
   refine W_ret ?_
   simp only [go_sem, hb0, hmade, hb1, hsml, hb2]
   refine ⟨.inr (by trivial), ?_⟩
   first | refine Fsa hcl rfl ?_ | refine Fse hcl rfl ?_
   try simp only [go_sem]
   all_goals
    first | rfl | (simp_all; done) | (simp_all; omega)
  try simp only [nrm] at c1
  have few := long_not (Bool.or_eq_false_iff.1 c1).1
  refine W_skip (K2 _ _ ?_)
  refine W_sr [1, 2, 4, 5, 6, 7, 15] fun R hR => ?_
  simp only [go_sem, hb0, hmade, hb1, hsml, hb2]
  refine GCall_of (DrumOf_pc Y _ nums hn) ?_
  simp only [go_sem, hb0, hmade, hb1, hsml, hb2]
  refine hR _ _ ?_; clear hR R
  try simp only [go_sem, hb0, hmade, hb1, hsml, hb2]
  refine W_sr [1, 2, 4, 5, 6, 7, 15, 16] fun R hR => ?_
  simp only [go_sem, hb0, hmade, hb1, hsml, hb2]
  refine GCall_of (ContestOf_pc Y _ _ b0 (Sg.get_ext _ _ _ _ 1) 5 3 6 (by omega) (by omega) (by omega)) ?_
  simp only [go_sem, hb0, hmade, hb1, hsml, hb2]
  refine hR _ _ ?_; clear hR R
  try simp only [go_sem, hb0, hmade, hb1, hsml, hb2]
  refine W_seq fun Z7 K7 => ?_
  refine W_draw [4, 5, 6, 17, 18, 19] [0, 1, 2, 3, 4, 5, 6, 7, 8, 9, 10, 11, 12, 13, 14] [(0, 15), (1, 15), (2, 15), (3, 15), (4, 15), (8, 7), (10, 7), (11, 7)] [[], [], [], [0, 1, 2], [], [], [], [5, 6], [], [4, 5, 6, 7, 8], [], [10], [0, 1, 2, 3, 5, 6, 7], [0, 1, 2, 3, 4, 5, 6, 7, 8, 9, 12], [0, 1, 2, 3, 4, 5, 6, 7, 8, 9, 10, 11, 12, 13]] mixed (by kernel_rfl) fun R hR => ?_
  simp only [go_sem, hb0, hmade, hb1, hsml, hb2]
  refine GCall_of (BallotsOf_pc Y _ _ b1 (Sg.get_ext _ _ _ _ 1) made 5 3 6 15 dmade (by omega) (by omega)) ?_
  simp only [go_sem, hb0, hmade, hb1, hsml, hb2]
  try refine And.intro (by repeat' (first | refine And.intro ?_ ?_ | exact trivial | exact GOr_right (fun _ => by simp only [go_sem, hb0, hmade, hb1, hsml, hb2]))) ?_
  refine hR _ _ (K7 _ _ ?_); clear hR R; try clear K7 Z7
  try simp only [go_sem, hb0, hmade, hb1, hsml, hb2]
  refine W_seq fun Z8 K8 => ?_
  refine W_sr [4, 5, 6, 17, 18, 19, 20] fun R hR => ?_
  simp only [go_sem, hb0, hmade, hb1, hsml, hb2]
  refine hR _ _ ?_; clear hR R
  try simp only [go_sem, hb0, hmade, hb1, hsml, hb2]
  refine W_block ?_
  obtain ⟨css, hcs⟩ : ∃ z, z = [c, made, made] := ⟨_, rfl⟩
  obtain ⟨lss, hls⟩ : ∃ z, z = [l, sml, l] := ⟨_, rfl⟩
  refine W_weak (Weak.eq (E' := [(4, I at'), (5, I how), (6, .int .u8 by'), (17, .isl (css.map cnPV) .exact), (18, .isl (lss.map blsPV) .exact), (19, .isl [txt t] .exact), (20, I 0)]) (by rw [hcs, hls]; simp only [List.map_cons, List.map_nil, cnPV, cnCells, blsPV]; first | done | rfl) rfl) ?_
  have lc : css.length = 3 := by rw [hcs]; rfl
  have ll : lss.length = 3 := by rw [hls]; rfl
  have hfc : ∀ z, z ∈ css → z.rounds.length ≤ 10 := fun z hz => by
   rw [hcs] at hz; simp only [List.mem_cons, List.not_mem_nil, or_false] at hz
   rcases hz with rfl | rfl | rfl <;> omega
  have hfl : ∀ z, z ∈ lss → z.length ≤ 309 := fun z hz => by
   rw [hls] at hz; simp only [List.mem_cons, List.not_mem_nil, or_false] at hz
   rcases hz with rfl | rfl | rfl <;> omega
  clear hcs hls
  refine W_weak (Weak.room (t := 19) (es := 1) rfl (by simp)) ?_
  refine W_weak (Weak.keep [4, 5, 6, 17, 18, 19, 20]) ?_
  simp only [go_sem, hb0, hmade, hb1, hsml, hb2]
  refine W_loopT (α := Nat × (List (List UInt8))) (fun ⟨i, ts⟩ => [(19, .isl (ts.map txt) (.tok σ.rooms.length ts.length 1)), (20, I i)]) (fun ⟨i, ts⟩ => σ.ext [some (cnCells c), some [.int .u64 b2], some (cnCells made)] [ts.length]) (fun ⟨i, ts⟩ => i ≤ 3 ∧ ts.length = i + 1 ∧ ∀ k p, 1 ≤ k → ts[k]? = some p → p.length ≤ 22100) (fun ⟨i, ts⟩ => 3 - i) ((0, [t])) rfl (by first | rfl | (simp only [go_sem]; done) | (simp only [go_sem]; rfl) | (simp [go_sem, cnCells]; done)) (⟨Nat.zero_le _, rfl, fun k p hk hp => by match k, hk with | k + 1, _ => simp at hp⟩) ?_
  rintro ⟨i, ts⟩ ⟨hi, htl, hlast⟩
  refine W_seq fun Z10 K10 => ?_
  refine W_sr [4, 5, 6, 17, 18, 19, 20, 67] fun R hR => ?_
  simp only [go_sem, hb0, hmade, hb1, hsml, hb2, lc]
  refine hR _ _ ?_; clear hR R
  try simp only [go_sem, hb0, hmade, hb1, hsml, hb2, lc]
  refine W_cond rfl (fun c2 => ?_) (fun c2 => ?_)
  ·
   try simp only [nrm] at c2
   have hi' : i < 3 := by first | assumption | omega
   obtain ⟨c1, hx1⟩ : ∃ z, css[i]? = some z := ⟨css[i]'(by rw [lc]; exact hi'), by simp⟩
   obtain ⟨l1, hx2⟩ : ∃ z, lss[i]? = some z := ⟨lss[i]'(by rw [ll]; exact hi'), by simp⟩
   have fc := hfc _ (List.mem_of_getElem? hx1)
   have fl := hfl _ (List.mem_of_getElem? hx2)
   obtain ⟨ws, hws⟩ : ∃ z, (urnA c1 l1).1 = z := ⟨_, rfl⟩
   obtain ⟨we, hwe⟩ : ∃ z, (urnA c1 l1).2 = z := ⟨_, rfl⟩
   have hwl := urnA_len c1 l1
   rw [hws] at hwl
   refine W_skip (K10 _ _ ?_)
   refine W_seq fun Z12 K12 => ?_
   refine W_block ?_
   refine W_seq fun Z13 K13 => ?_
   refine W_draw [4, 5, 6, 17, 18, 19, 20, 21, 22] [0, 1, 2, 3, 4, 5, 6, 7, 8, 9, 10, 11, 12, 13] [] [[], [], [0, 1], [0, 1, 2], [], [], [4, 5], [4, 5, 6], [0, 1, 2, 3, 4, 5, 6, 7], [0, 1, 2, 3, 4, 5, 6, 7, 8], [0, 1, 2, 3, 4, 5, 6, 7, 8, 9], [0, 1, 2, 3, 4, 5, 6, 7, 8, 9], [0, 1, 2, 3, 4, 5, 6, 7, 8, 9, 10], [0, 1, 2, 3, 4, 5, 6, 7, 8, 9, 10, 11, 12]] mixed (by kernel_rfl) fun R hR => ?_
   simp only [go_sem, hb0, hmade, hb1, hsml, hb2, lc, hx1, hx2, blsPV]
   refine GCall_of (PC.val (v' := .tuple [txt ws, I we]) (Write_pc Y _ c1 l1 (by omega) (by omega)) (by rw [hws, hwe])) ?_
   simp only [go_sem, hb0, hmade, hb1, hsml, hb2, lc, hx1, hx2, blsPV]
   try refine And.intro (by repeat' (first | refine And.intro ?_ ?_ | exact trivial | exact GOr_right (fun _ => by simp only [go_sem, hb0, hmade, hb1, hsml, hb2, lc, hx1, hx2, blsPV]))) ?_
   refine hR _ _ (K13 _ _ ?_); clear hR R; try clear K13 Z13
   try simp only [go_sem, hb0, hmade, hb1, hsml, hb2, lc, hx1, hx2, blsPV]
   refine W_seq fun Z14 K14 => ?_
   refine W_draw [4, 5, 6, 17, 18, 19, 20, 21, 22, 23, 24] [0, 1, 2, 3, 4, 5, 6, 7, 8, 9, 10, 11, 12, 13] [] [[], [], [0, 1], [0, 1, 2], [], [], [4, 5], [4, 5, 6], [0, 1, 2, 3, 4, 5, 6, 7], [0, 1, 2, 3, 4, 5, 6, 7, 8], [0, 1, 2, 3, 4, 5, 6, 7, 8, 9], [0, 1, 2, 3, 4, 5, 6, 7, 8, 9], [0, 1, 2, 3, 4, 5, 6, 7, 8, 9, 10], [0, 1, 2, 3, 4, 5, 6, 7, 8, 9, 10, 11, 12]] mixed (by kernel_rfl) fun R hR => ?_
   simp only [go_sem, hb0, hmade, hb1, hsml, hb2, lc, hx1, hx2, blsPV]
   refine GCall_of (PC.val (v' := .tuple [txt ws, I we]) (rWrite_pc Y _ c1 l1 (by omega) (by omega)) (by rw [hws, hwe])) ?_
   simp only [go_sem, hb0, hmade, hb1, hsml, hb2, lc, hx1, hx2, blsPV]
   try refine And.intro (by repeat' (first | refine And.intro ?_ ?_ | exact trivial | exact GOr_right (fun _ => by simp only [go_sem, hb0, hmade, hb1, hsml, hb2, lc, hx1, hx2, blsPV]))) ?_
   refine hR _ _ (K14 _ _ ?_); clear hR R; try clear K14 Z14
   try simp only [go_sem, hb0, hmade, hb1, hsml, hb2, lc, hx1, hx2, blsPV]
   refine W_seq fun Z15 K15 => ?_
   refine W_sr [4, 5, 6, 17, 18, 19, 20, 23, 101] fun R hR => ?_
   simp only [go_sem, hb0, hmade, hb1, hsml, hb2, lc, hx1, hx2, blsPV]
   refine hR _ _ ?_; clear hR R
   try simp only [go_sem, hb0, hmade, hb1, hsml, hb2, lc, hx1, hx2, blsPV]
   refine W_cond rfl (fun c3 => ?_) (fun c3 => ?_)
   ·
    try simp only [nrm] at c3
    exfalso
    simp at c3
   try simp only [nrm] at c3
   refine W_skip (K15 _ _ ?_)
   refine W_region [4, 5, 6, 17, 18, 19, 20] fun R hR => ?_
   simp only [go_sem, hb0, hmade, hb1, hsml, hb2, lc, hx1, hx2, blsPV]
   try simp (disch := (first | omega | (simp only [go_sem, List.length_append] <;> omega))) only [wrapI, wrapU, appX_exact, appX_tok, strAdd, slT, slTa, slTb]
   try simp only [go_sem, hb0, hmade, hb1, hsml, hb2, lc, hx1, hx2, blsPV]
   refine hR _ _ (K12 _ _ ?_); clear hR R; try clear K12 Z12
   try simp only [go_sem, hb0, hmade, hb1, hsml, hb2, lc, hx1, hx2, blsPV]
   refine W_region [4, 5, 6, 17, 18, 19, 20] fun R hR => ?_
   simp only [go_sem, hb0, hmade, hb1, hsml, hb2, lc, hx1, hx2, blsPV]
   try simp (disch := (first | omega | (simp only [go_sem, List.length_append] <;> omega))) only [wrapI, wrapU, strAdd, slT, slTa, slTb]
   refine hR _ _ ?_; clear hR R
   try simp only [go_sem, hb0, hmade, hb1, hsml, hb2, lc, hx1, hx2, blsPV]
   refine ⟨(i + 1, ts ++ [ws]), ?_, by (try simp only []); omega, ?_⟩
   ·first | exact Weak.refl | exact Wqq
   try dsimp only
   refine ⟨by omega, by simp; omega, fun k p hk hp => ?_⟩
   rw [List.getElem?_append] at hp
   split at hp
   ·exact hlast k p hk hp
   have hm := List.mem_of_getElem? hp
   simp only [List.mem_singleton] at hm
   rw [hm]; exact hwl
  try simp only [nrm] at c2
  have hie : i = 3 := by first | omega | (simp at c2; omega)
  obtain ⟨last, hl2⟩ : ∃ z, ts[2]? = some z := ⟨ts[2]'(by omega), by simp⟩
  have hll := hlast 2 last (by omega) hl2
  refine W_exit ?_
  simp only [go_sem, hb0, hmade, hb1, hsml, hb2, lc, hl2, Int.reduceToNat, Int.reduceLE, Int.le_refl]
  refine K8 _ _ ?_
  refine W_sr [19] fun R hR => ?_
  simp only [go_sem, hb0, hmade, hb1, hsml, hb2, lc, hl2, Int.reduceToNat, Int.reduceLE, Int.le_refl]
  refine GCall_of (Blot_pc Y _ last at' how by' (by omega) h1 h2 h3 h4) ?_
  simp only [go_sem, hb0, hmade, hb1, hsml, hb2, lc, hl2, Int.reduceToNat, Int.reduceLE, Int.le_refl]
  try simp (disch := (first | omega | (simp only [go_sem, List.length_append] <;> omega))) only [wrapI, wrapU, appX_exact, appX_tok, strAdd, slT, slTa, slTb]
  try simp only [go_sem, hb0, hmade, hb1, hsml, hb2, lc, hl2, Int.reduceToNat, Int.reduceLE, Int.le_refl]
  refine hR _ _ ?_; clear hR R
  try simp only [go_sem, hb0, hmade, hb1, hsml, hb2, lc, hl2, Int.reduceToNat, Int.reduceLE, Int.le_refl]
  refine W_seq fun Z18 K18 => ?_
  refine W_sr [19, 25] fun R hR => ?_
  simp only [go_sem, hb0, hmade, hb1, hsml, hb2, lc, hl2, Int.reduceToNat, Int.reduceLE, Int.le_refl]
  refine hR _ _ ?_; clear hR R
  try simp only [go_sem, hb0, hmade, hb1, hsml, hb2, lc, hl2, Int.reduceToNat, Int.reduceLE, Int.le_refl]
  refine W_block ?_
  obtain ⟨bl, hbl⟩ : ∃ z, z = blotT last at' how by' := ⟨_, rfl⟩
  rw [← hbl]
  obtain ⟨ts2, hts2⟩ : ∃ z, z = ts ++ [bl] := ⟨_, rfl⟩
  refine W_weak (Weak.ro 19) ?_
  refine W_weak (Weak.keep [19, 25]) ?_
  simp only [go_sem]
  refine W_weak (Weak.eq (E' := [(19, .isl (ts2.map txt) .ro), (25, I 0)]) (by rw [hts2]; simp only [List.map_append, List.map_cons, List.map_nil]; first | done | rfl) rfl) ?_
  have lt2 : ts2.length = 5 := by rw [hts2]; simp; omega
  clear hts2 hbl
  refine W_loopS (α := Nat) (fun (j : Nat) => [(25, I j)]) (fun (j : Nat) => j ≤ 5) (fun (j : Nat) => 5 - j) (0) rfl (Nat.zero_le _) ?_
  rintro j hj
  refine W_seq fun Z20 K20 => ?_
  refine W_sr [19, 25, 119] fun R hR => ?_
  simp only [go_sem, hb0, hmade, hb1, hsml, hb2, lc, hl2, Int.reduceToNat, Int.reduceLE, Int.le_refl, lt2]
  refine hR _ _ ?_; clear hR R
  try simp only [go_sem, hb0, hmade, hb1, hsml, hb2, lc, hl2, Int.reduceToNat, Int.reduceLE, Int.le_refl, lt2]
  refine W_cond rfl (fun c4 => ?_) (fun c4 => ?_)
  ·
   try simp only [nrm] at c4
   have hj' : j < 5 := by first | assumption | omega
   obtain ⟨s1, hx1⟩ : ∃ z, ts2[j]? = some z := ⟨ts2[j]'(by rw [lt2]; exact hj'), by simp⟩
   obtain ⟨x, hxa⟩ : ∃ z, (readU s1).1 = z := ⟨_, rfl⟩
   obtain ⟨y, hya⟩ : ∃ z, (readU s1).2.1 = z := ⟨_, rfl⟩
   obtain ⟨r, hra⟩ : ∃ z, (readU s1).2.2.1 = z := ⟨_, rfl⟩
   obtain ⟨e, hea⟩ : ∃ z, (readU s1).2.2.2 = z := ⟨_, rfl⟩
   have hok := readU_len s1
   rw [hxa, hya] at hok
   refine W_skip (K20 _ _ ?_)
   refine W_seq fun Z22 K22 => ?_
   refine W_block ?_
   refine W_sr [19, 25, 26, 27, 28, 29] fun R hR => ?_
   simp only [go_sem, hb0, hmade, hb1, hsml, hb2, lc, hl2, Int.reduceToNat, Int.reduceLE, Int.le_refl, lt2, hx1]
   refine GCall_of (PC.val (v' := ansU (x, y, r, e)) (ReadU_pc Y _ s1) (by rw [← hxa, ← hya, ← hra, ← hea])) ?_
   simp only [go_sem, hb0, hmade, hb1, hsml, hb2, lc, hl2, Int.reduceToNat, Int.reduceLE, Int.le_refl, lt2, hx1]
   refine hR _ _ ?_; clear hR R
   try simp only [go_sem, hb0, hmade, hb1, hsml, hb2, lc, hl2, Int.reduceToNat, Int.reduceLE, Int.le_refl, lt2, hx1]
   refine W_sr [19, 25, 26, 27, 28, 29, 30, 31, 32, 33] fun R hR => ?_
   simp only [go_sem, hb0, hmade, hb1, hsml, hb2, lc, hl2, Int.reduceToNat, Int.reduceLE, Int.le_refl, lt2, hx1]
   refine GCall_of (PC.val (v' := ansU (x, y, r, e)) (rReadU_pc Y _ s1) (by rw [← hxa, ← hya, ← hra, ← hea])) ?_
   simp only [go_sem, hb0, hmade, hb1, hsml, hb2, lc, hl2, Int.reduceToNat, Int.reduceLE, Int.le_refl, lt2, hx1]
   refine hR _ _ ?_; clear hR R
   try simp only [go_sem, hb0, hmade, hb1, hsml, hb2, lc, hl2, Int.reduceToNat, Int.reduceLE, Int.le_refl, lt2, hx1]
   refine W_sr [19, 25, 161] fun R hR => ?_
   simp only [go_sem, hb0, hmade, hb1, hsml, hb2, lc, hl2, Int.reduceToNat, Int.reduceLE, Int.le_refl, lt2, hx1]
   refine GCall_of (PC.val (v' := .bool true) (EqCns_pc Y _ x x (by omega)) (by simp)) ?_
   simp only [go_sem, hb0, hmade, hb1, hsml, hb2, lc, hl2, Int.reduceToNat, Int.reduceLE, Int.le_refl, lt2, hx1]
   refine GCall_of (PC.val (v' := .bool true) (EqBls_pc Y _ y y .ro .ro (by omega)) (by simp)) ?_
   simp only [go_sem, hb0, hmade, hb1, hsml, hb2, lc, hl2, Int.reduceToNat, Int.reduceLE, Int.le_refl, lt2, hx1]
   refine hR _ _ ?_; clear hR R
   try simp only [go_sem, hb0, hmade, hb1, hsml, hb2, lc, hl2, Int.reduceToNat, Int.reduceLE, Int.le_refl, lt2, hx1]
   refine W_cond rfl (fun c5 => ?_) (fun c5 => ?_)
   ·
    try simp only [nrm] at c5
    exfalso
    simp at c5
   try simp only [nrm] at c5
   refine W_skip (K22 _ _ ?_)
   refine W_region [19, 25] fun R hR => ?_
   simp only [go_sem, hb0, hmade, hb1, hsml, hb2, lc, hl2, Int.reduceToNat, Int.reduceLE, Int.le_refl, lt2, hx1]
   try simp (disch := (first | omega | (simp only [go_sem, List.length_append] <;> omega))) only [wrapI, wrapU, strAdd, slT, slTa, slTb]
   refine hR _ _ ?_; clear hR R
   try simp only [go_sem, hb0, hmade, hb1, hsml, hb2, lc, hl2, Int.reduceToNat, Int.reduceLE, Int.le_refl, lt2, hx1]
   refine ⟨j + 1, ?_, by (try simp only []); omega, ?_⟩
   ·refine Weak.trans (Weak.cutX 3 1 (by omega) (by omega) hcl (by simp only [go_sem] <;> omega) (by simp only [go_sem] <;> omega)) ?_
    simp only [go_sem]
    exact Weak.eq (by first | rfl | (simp only [go_sem]; done) | (simp only [go_sem]; rfl) | (simp [go_sem]; done) | (simp [go_sem]; omega)) (by first | rfl | (simp only [go_sem]; done) | (simp [go_sem]; done))
   try dsimp only
   omega
  try simp only [nrm] at c4
  refine W_exit ?_
  simp only [go_sem, hb0, hmade, hb1, hsml, hb2, lc, hl2, Int.reduceToNat, Int.reduceLE, Int.le_refl, lt2]
  refine K18 _ _ ?_
  refine W_sr [14] fun R hR => ?_
  simp only [go_sem, hb0, hmade, hb1, hsml, hb2, lc, hl2, Int.reduceToNat, Int.reduceLE, Int.le_refl, lt2]
  refine GCall_of (awake_pc Y _) ?_
  simp only [go_sem, hb0, hmade, hb1, hsml, hb2, lc, hl2, Int.reduceToNat, Int.reduceLE, Int.le_refl, lt2]
  refine hR _ _ ?_; clear hR R
  try simp only [go_sem, hb0, hmade, hb1, hsml, hb2, lc, hl2, Int.reduceToNat, Int.reduceLE, Int.le_refl, lt2]
  refine W_ret ?_
  simp only [go_sem, hb0, hmade, hb1, hsml, hb2, lc, hl2, Int.reduceToNat, Int.reduceLE, Int.le_refl, lt2]
  refine ⟨.inr (by trivial), ?_⟩
  first | refine Fsa hcl rfl ?_ | refine Fse hcl rfl ?_
  try simp only [go_sem]
  all_goals
   first | rfl | (simp_all; done) | (simp_all; omega)
 simp only [go_sem, hb0, hmade, hb1, hsml, hb2]
 refine GCall_of (long_pc Y _ c l) ?_
 simp only [go_sem, hb0, hmade, hb1, hsml, hb2]
 refine GWant_split (fun g1 => ?_) (fun g1 => ?_)
 ·try simp only [Bool.not_eq_true', Bool.not_eq_false'] at g1
  have n1 := g1; try simp only [nrm] at n1
  simp only [go_sem, hb0, hmade, hb1, hsml, hb2, g1]
  refine GWant_split (fun g2 => ?_) (fun g2 => ?_)
  ·try simp only [Bool.not_eq_true', Bool.not_eq_false'] at g2
   have n2 := g2; try simp only [nrm] at n2
   simp only [go_sem, hb0, hmade, hb1, hsml, hb2, g1, g2]
   refine hR _ ?_
   all_goals try simp only [go_sem, hb0, hmade, hb1, hsml, hb2]
   all_goals
    first | rfl | (simp [*]; done) | (simp_all; done) | (simp_all; omega)
  try simp only [Bool.not_eq_true', Bool.not_eq_false'] at g2
  have n2 := g2; try simp only [nrm] at n2
  simp only [go_sem, hb0, hmade, hb1, hsml, hb2, g1, g2]
  refine hR _ ?_
  all_goals try simp only [go_sem, hb0, hmade, hb1, hsml, hb2]
  all_goals
   first | rfl | (simp [*]; done) | (simp_all; done) | (simp_all; omega)
 try simp only [Bool.not_eq_true', Bool.not_eq_false'] at g1
 have n1 := g1; try simp only [nrm] at n1
 simp only [go_sem, hb0, hmade, hb1, hsml, hb2, g1]
 refine hR _ ?_
 all_goals try simp only [go_sem, hb0, hmade, hb1, hsml, hb2]
 all_goals
  first | rfl | (simp [*]; done) | (simp_all; done) | (simp_all; omega)
theorem knownErrSyntax {W : World} (h : laidMet Tryz.prog Rows.songUrnsRow.laid W) : ∃ t x, W.cell? ⟨2, 0, none⟩ = some (.iface t x) := by
 obtain ⟨g, t, cs, fuel, p, hg, ht, hv, hd⟩ := Lib.laidMet.reads h (n := "strconv.ErrSyntax") (d := Rows.laid_strconv_ErrSyntax) (by simp [Rows.songUrnsRow])
 obtain rfl := Option.some.inj ((show Tryz.prog.globalNamed "strconv.ErrSyntax" = some 2 by kernel_rfl).symm.trans hg)
 obtain rfl := Option.some.inj ((show (Tryz.prog.globals[2]?).map (·.type) = some 103 by kernel_rfl).symm.trans ht)
 obtain ⟨_, u, v, e1, _, _⟩ := iface_of_trod Tryz.underlying103 hd
 refine ⟨u, v, ?_⟩
 rw [World.var?_cell hg hv 0]
 have : cs.toList[0]? = some (.iface u v) := by rw [e1]; rfl
 simpa using this
theorem knownErrRange {W : World} (h : laidMet Tryz.prog Rows.songUrnsRow.laid W) : ∃ t x, W.cell? ⟨3, 0, none⟩ = some (.iface t x) := by
 obtain ⟨g, t, cs, fuel, p, hg, ht, hv, hd⟩ := Lib.laidMet.reads h (n := "strconv.ErrRange") (d := Rows.laid_strconv_ErrRange) (by simp [Rows.songUrnsRow])
 obtain rfl := Option.some.inj ((show Tryz.prog.globalNamed "strconv.ErrRange" = some 3 by kernel_rfl).symm.trans hg)
 obtain rfl := Option.some.inj ((show (Tryz.prog.globals[3]?).map (·.type) = some 103 by kernel_rfl).symm.trans ht)
 obtain ⟨_, u, v, e1, _, _⟩ := iface_of_trod Tryz.underlying103 hd
 refine ⟨u, v, ?_⟩
 rw [World.var?_cell hg hv 0]
 have : cs.toList[0]? = some (.iface u v) := by rw [e1]; rfl
 simpa using this
theorem knownMax {W : World} (hsh : W.ShapedOpen Tryz.prog) : ∃ m, W.cell? ⟨1, 0, none⟩ = some (.int .i64 m) :=
 cell_of_shapedOpen_int (P := Tryz.prog) (g := 1) (t := 3) (zero := #[.int .i64 0]) hsh (of_decide_eq_true (by kernel_rfl)) (by kernel_rfl) rfl (by kernel_rfl) (by kernel_rfl) Tryz.underlying3
/-- What the listed variables give. -/
theorem known (W : World) (hsh : W.ShapedOpen Tryz.prog) (h : laidMetH Tryz.prog Rows.songUrnsRow.laid W) : Known Tryz.prog W := by
 rw [MakeChecks.laidMetH_plain _ _ _ (by kernel_rfl)] at h
 have hg : Tryz.prog.globalNamed "internal/strconv.uint64pow10" = some 0 := by kernel_rfl
 have h2 := h.filter (fun x => x.1 == "internal/strconv.uint64pow10")
 rw [show (Rows.songUrnsRow.laid.filter fun x => x.1 == "internal/strconv.uint64pow10") = [("internal/strconv.uint64pow10", Lib.tabData .u64 Lib.pow10Tab)] by kernel_rfl] at h2
 obtain ⟨t, f, hh⟩ := known_tab (Lib.tabIs_of_head (t := 195) (e := 110) (n := 20) hg (by kernel_rfl) (by kernel_rfl) (by kernel_rfl) (by kernel_rfl) (by kernel_rfl) h2) hg
 have _ := hsh
 refine ⟨[(0, .whole pow10A)], fun b s hb => ?_, fun k hk => ?_, fun k hk => ?_, fun q n hn k hk => ?_⟩
 ·simp only [List.mem_singleton, Prod.mk.injEq] at hb
  obtain ⟨rfl, rfl⟩ := hb
  exact ⟨(Array.getElem?_eq_some_iff.1 hh).1, t, f, hh⟩
 ·obtain rfl := Option.some.inj (hg.symm.trans hk)
  exact List.mem_singleton.2 rfl
 ·obtain rfl := Option.some.inj ((show Tryz.prog.globalNamed "internal/bytealg.MaxLen" = some 1 by kernel_rfl).symm.trans hk)
  exact knownMax hsh
 simp only [List.mem_cons, List.not_mem_nil, or_false] at hn
 rcases hn with rfl | rfl
 ·obtain rfl := Option.some.inj ((show Tryz.prog.globalNamed "strconv.ErrSyntax" = some 2 by kernel_rfl).symm.trans hk)
  exact knownErrSyntax h
 obtain rfl := Option.some.inj ((show Tryz.prog.globalNamed "strconv.ErrRange" = some 3 by kernel_rfl).symm.trans hk)
 exact knownErrRange h
theorem rdSongUrnsArgs : All2 (fun t R => Rd Tryz.prog t R) Tryz.f4.params.toList [fun p => ∃ c : Contest, p = cnPV c ∧ contestSz c, fun p => ∃ l : List Ballot, p = bls l ∧ l.length * 48 ≤ 140737488351232, fun p => ∃ l : List UInt8, p = txt l, fun p => ∃ xs : List Int, p = ints xs ∧ xs.length * 8 ≤ 140737488351232, fun p => ∃ n : Int, p = I n ∧ -9223372036854775808 ≤ n ∧ n ≤ 9223372036854775807, fun p => ∃ n : Int, p = I n ∧ -9223372036854775808 ≤ n ∧ n ≤ 9223372036854775807, fun p => ∃ n : Int, p = .int .u8 n ∧ 0 ≤ n ∧ n ≤ 255] :=
 .cons rdContest (.cons rdBallots (.cons rdTxt (.cons rdInts (.cons rdIntB (.cons rdIntB (.cons rdByte .nil))))))
set_option maxHeartbeats 4000000 in
theorem SongUrns_walk : ∀ qs, AllR [fun p => ∃ c : Contest, p = cnPV c ∧ contestSz c, fun p => ∃ l : List Ballot, p = bls l ∧ l.length * 48 ≤ 140737488351232, fun p => ∃ l : List UInt8, p = txt l, fun p => ∃ xs : List Int, p = ints xs ∧ xs.length * 8 ≤ 140737488351232, fun p => ∃ n : Int, p = I n ∧ -9223372036854775808 ≤ n ∧ n ≤ 9223372036854775807, fun p => ∃ n : Int, p = I n ∧ -9223372036854775808 ≤ n ∧ n ≤ 9223372036854775807, fun p => ∃ n : Int, p = .int .u8 n ∧ 0 ≤ n ∧ n ≤ 255] qs → ∃ σ', PC Tryz.prog noY 4 qs Sg.zero (.bool true) σ' := by
 intro qs hq
 obtain ⟨px0, qs, rfl, ⟨x0, hx0, sx0⟩, hq⟩ := allR_cons hq
 obtain ⟨px1, qs, rfl, ⟨x1, hx1, sx1⟩, hq⟩ := allR_cons hq
 obtain ⟨px2, qs, rfl, ⟨x2, hx2⟩, hq⟩ := allR_cons hq
 obtain ⟨px3, qs, rfl, ⟨x3, hx3, sx3⟩, hq⟩ := allR_cons hq
 obtain ⟨px4, qs, rfl, ⟨x4, hx4, sx4, rx4⟩, hq⟩ := allR_cons hq
 obtain ⟨px5, qs, rfl, ⟨x5, hx5, sx5, rx5⟩, hq⟩ := allR_cons hq
 obtain ⟨px6, qs, rfl, ⟨x6, hx6, sx6, rx6⟩, hq⟩ := allR_cons hq
 obtain rfl := allR_nil hq
 subst hx0 hx1 hx2 hx3 hx4 hx5 hx6
 exact ⟨_, SongUrns_pc noY _ x0 x1 x2 x3 x4 x5 x6 (by omega) sx4 rx4 sx5 rx5⟩
theorem SongUrns_lifted (os : Os) (started : os.Started) (H : Type) (enc : TypeId × Value → H) :
 ReturnsInHanded {} Tryz.checked os 4 .any (fun w args => (Rows.songUrnsSpec.pre enc Tryz.prog Tryz.f4 Rows.songUrnsRow.domain false w args ∧ laidMetH Tryz.prog Rows.songUrnsRow.laid w) ∧ sizedMet enc Tryz.prog Tryz.f4 (OpenSpec.ofChange Rows.songUrnsSpec) false w args)
  (Rows.songUrnsSpec.post enc Tryz.prog Tryz.f4 false true false false) :=
 law_laid (C := Tryz.checked) own started (by kernel_rfl) Tryz.func4 rfl laidOut (by kernel_rfl) rdSongUrnsArgs rfl Tryz.underlying4
  (fun ds h => match ds, h with | [_, _, _, _, _, _, _], _ => rfl)
  (ChangeSpec.witness_shaped (enc := enc) (C := Tryz.checked) (os := os) (X := fun w _ => laidMetH Tryz.prog Rows.songUrnsRow.laid w) false (World.laidAll Tryz.prog os Rows.songUrnsRow.laid) #[Value.agg #[.int .i64 0, .int .i64 0, .int .i64 0, .int .i64 0, .slice none 0 0], .slice none 0 0, .string .empty, .slice none 0 0, .int .i64 0, .int .i64 0, .int .u8 0] 8 (World.laidAll_os _ _ _)
   (World.shaped_of_ZipB (by kernel_rfl) (by kernel_rfl)) (by kernel_rfl) (by kernel_rfl) (by kernel_rfl)
   (by rw [MakeChecks.laidMetH_plain _ _ _ (by kernel_rfl)]; exact laidMet_laidAll _ (by kernel_rfl) (by kernel_rfl)))
  known SongUrns_walk
theorem SongUrns_row : Rows.SongUrnsSaid :=
 OpenClaim.holds_of_wide 4 Tryz.f4 rfl rfl rfl rfl rfl rfl rfl ⟨rfl, rfl, rfl, rfl, rfl⟩ rfl rfl rfl rfl rfl (by kernel_rfl) Tryz.func4 (by kernel_rfl)
  (of_decide_eq_true (by kernel_rfl)) (by unfold Func.isWrapper; first | (rw [if_pos (by decide +kernel)]; kernel_rfl) | (rw [if_neg (by decide +kernel)]; exact ⟨rfl, rfl⟩))
  (fun os started H enc _ => SongUrns_lifted os started H enc)
theorem SongUrns_holds : Rows.SongUrnsCardSaid :=
 Claim7.holds_tied_plain_at .later [] [.data, .data, .data, .data, .sentinel, .sentinel, .pinned] true (true, "bb6d2d635ccbf7f5fdd5ae32709b77c78406249e2e4078a571a44bebd5b279fa") true
  SongUrns_row (fun _ h => by cases h) (by kernel_rfl) (fun _ h => by cases h) songUrns_row_tie rfl ⟨rfl, rfl⟩ (by kernel_rfl) rfl
  (fun f fn hf hfn => by
   obtain rfl : f = 4 := Option.some.inj (hf.symm.trans (by kernel_rfl))
   obtain rfl : fn = Tryz.f4 := (Option.some.inj (Tryz.func4.symm.trans hfn)).symm
   refine ⟨by kernel_rfl, fun j t ht => ?_⟩
   have hall : (Tryz.f4.params.toList.all fun t => !(Tryz.prog.wantsStandIn t)) = true := by kernel_rfl
   have hm : t ∈ Tryz.f4.params.toList := Array.mem_toList_iff.2 (Array.mem_of_getElem? ht)
   show Tryz.prog.wantsStandIn t = false
   simpa using List.all_eq_true.1 hall t hm)
  (by kernel_rfl)
end Go.Proofs.YtdoohibbfjdblaaGreatDoor
