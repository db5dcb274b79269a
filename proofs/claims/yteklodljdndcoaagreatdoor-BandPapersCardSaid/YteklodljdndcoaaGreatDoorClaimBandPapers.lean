/-
  The law BandPapers: whatever comes in, it answers true and leaves what came in as it was.
  The law BandPapers, walked: papers as the document has them.
  Walks: papers of any length are read.
  A paper that is written is read back; what is read is written as it was: plainly.
  Walk: a paper is read (the program's).
-/
import Derived.Test.YteklodljdndcoaaGreatDoorPf
import Derived.CallsIn
import Derived.RangeFuncLeaves
import Derived.RangeFuncRecord
import Derived.OrdersIn
import Derived.Below
import Derived.Laws.World
import Derived.Laws.StructEq
import Derived.Laws.BytesString
import Derived.Laws.Append
import Derived.MapKept
import Derived.ProofKit
import Derived.Carry
import Derived.Handed
import Derived.ChangeCalls
import Derived.Stop.Joined
import Derived.Lib.LaidTab
import Derived.Shelf.Strconv.Itoa3
import Derived.RangeFuncIn
import Derived.RangeFuncNested
import Derived.Test.YteklodljdndcoaaGreatDoorProg
import Derived.KernelRfl
import Derived.IntWalk
import Derived.Test.YteklodljdndcoaaGreatDoorRows
import Derived.Sort.OwnSortedInts
import Derived.Lib.SlicesCompact
import Derived.Shelf.Strings.Builder1
import Derived.Lib.SplitLaws
import Derived.Lib.AtoiAll
import Derived.Lib.ItoaNum
import Derived.Lib.IndexBytes
import Derived.Shelf.Strings.Split
import Derived.Shelf.Strconv.AtoiAll
import Derived.Lib.AtoiErrMem
import Derived.Lib.ItoaLen
import Derived.Lib.AtoiAllCases
import Derived.Test.YteklodljdndcoaaGreatDoorCards
import Derived.Test.YteklodljdndcoaaGreatDoorTie
import Derived.JoinedOf
import Derived.LaidMore
import Derived.LaidSub
import Derived.Lay
import Derived.SevenTiedAt
import Derived.Lib.LaidU8
import Derived.Shelf.Vars
set_option linter.unusedSimpArgs false
set_option linter.unusedVariables false
namespace Go.Proofs.YteklodljdndcoaaGreatDoor
open Go Go.RowKit
set_option maxRecDepth 100000
theorem nilErr {ok : Bool} : nilICmp Tryz.prog .eql 80 (errPV ok) = some (.bool ok) := by
  cases ok <;> (unfold nilICmp; rw [show Tryz.prog.underlying 80 = some (.interface _) from Tryz.underlying80]; rfl)
attribute [go_sem] nilErr
theorem atoiV_bd (w : List UInt8) : -9223372036854775808 ≤ atoiV w ∧ atoiV w ≤ 9223372036854775807 := by
  unfold atoiV
  split
  · rename_i v h
    have := Lib.atoiAll_bounds h
    exact this
  · exact Lib.atoiSat_bounds w
  · omega
theorem numsE_all {k : Nat} (hk : k ≤ 18) : ∀ W : List (List UInt8), numsE k W = if W.all (wordOK k) = true then some (W.map atoiV) else none := by
  intro W
  induction W with
  | nil => rfl
  | cons w W ih =>
    obtain ⟨h1, h2⟩ := wordOK_num hk w
    simp only [numsE, List.all_cons, List.map_cons]
    cases hn : numE k w with
    | none =>
      rw [hn] at h1
      simp [h1]
    | some n =>
      rw [hn] at h1
      rw [ih, h2 n hn]
      simp only [h1, Option.isSome_some, Bool.true_and]
      split <;> simp_all
set_option maxHeartbeats 4000000 in
theorem Read_pc (Y : YEnv) (σ : Sg) (ct : City) (s : List UInt8) (hc : ct.Ok) (hs : s.length ≤ 2 ^ 30) :
  PC Tryz.prog Y 13 [ctPV ct, txt s] σ (readPV (readA ct s)) (σ) := by
 refine PC_of_W Tryz.func13 rfl (by kernel_rfl) Tryz.ntmps13 (by simp) fun hcl hca => ?_
 obtain ⟨rows, hrw⟩ : ∃ z, splitL 10 s = z := ⟨_, rfl⟩
 have hwm : ∀ p, p ∈ rows → p.length ≤ 2 ^ 30 := fun p hp => by rw [← hrw] at hp; have := splitL_mem hp; omega
 have hwn : rows ≠ [] := by rw [← hrw]; exact splitL_ne 10 s
 have hwl : 0 < rows.length := List.length_pos_iff.2 hwn
 have hw40 : rows.length ≤ 2 ^ 30 + 1 := by rw [← hrw]; have := splitL_le (b := 10) (s := s); omega
 obtain ⟨xl, hxl⟩ : ∃ w, rows[rows.length - 1]? = some w := ⟨rows[rows.length - 1], by simp [hwl]⟩
 obtain ⟨R, hR0⟩ : ∃ z, rows.take (rows.length - 1) = z := ⟨_, rfl⟩
 have hRl : R.length = rows.length - 1 := by rw [← hR0]; simp
 have hlast : rows[((rows.length : Int) - 1).toNat]? = some xl := by rw [show ((rows.length : Int) - 1).toNat = rows.length - 1 by omega]; exact hxl
 have hposl : (0 ≤ (rows.length : Int) - 1) = True := by simp; omega
 have htn : ((rows.length : Int) - 1).toNat = rows.length - 1 := by omega
 have hlel : rows.length - 1 ≤ rows.length := by omega
 have hso : sliceOwn .exact 0 (rows.length - 1) rows.length = .ro := if_neg (by omega)
 have hn0 : ∀ n : List Int, n.length = 1 → n[0]? = some (n.getD 0 0) := fun n h => by obtain ⟨a, rfl⟩ := one h; rfl
 have hRr : ∀ (k : Nat) (x : List UInt8), R[k]? = some x → rows[k]? = some x := fun k x h => by rw [← hR0] at h; rw [List.getElem?_take] at h; split at h <;> first | exact h | cases h
 refine W_seq fun kz1 kq1 => ?_
 refine W_region [1, 2, 4] fun R hR => ?_
 simp only [go_sem]
 refine hR _ _ (kq1 _ _ ?_); clear hR R; try clear kq1 kz1
 try simp only [go_sem]
 refine W_seq fun kz2 kq2 => ?_
 refine W_seq fun kz3 kq3 => ?_
 refine W_region [1, 2, 4, 7] fun R hR => ?_
 simp only [go_sem]
 refine GCall_of (bcheck_pc Y _ ct hc) ?_
 simp only [go_sem]
 refine hR _ _ (kq3 _ _ ?_); clear hR R; try clear kq3 kz3
 try simp only [go_sem]
 refine W_seq fun kz4 kq4 => ?_
 refine W_region [1, 2, 4, 7, 24] fun R hR => ?_
 simp only [go_sem]
 refine hR _ _ (kq4 _ _ ?_); clear hR R; try clear kq4 kz4
 try simp only [go_sem]
 refine W_cond rfl (fun c1 => ?_) (fun c1 => ?_)
 ·
  try simp only [nrm] at c1
  have hres : readA ct s = ([], 0, chkCity ct) := by unfold readA; rw [if_pos (by simpa using c1)]
  refine W_seq fun kz5 kq5 => ?_
  refine W_region [4, 5, 6] fun R hR => ?_
  simp only [go_sem]
  refine hR _ _ (kq5 _ _ ?_); clear hR R; try clear kq5 kz5
  try simp only [go_sem]
  refine W_ret ?_
  simp only [go_sem]
  refine ⟨.inr (by trivial), ?_⟩
  refine Fin_same hcl rfl (Wk.ro (by simp only [go_sem]) ?_)
  try simp only [go_sem]
  all_goals
   first | (rw [hres2]; done) | (rw [hres]; done) | (rw [hres2]; rfl) | (rw [hres]; rfl)
 ·
  try simp only [nrm] at c1
  have hck : chkCity ct = 0 := by simpa using c1
  refine W_skip (kq2 _ _ ?_)
  refine W_seq fun kz6 kq6 => ?_
  refine W_seq fun kz7 kq7 => ?_
  refine W_region [1, 2, 4, 28] fun R hR => ?_
  simp only [go_sem]
  refine hR _ _ (kq7 _ _ ?_); clear hR R; try clear kq7 kz7
  try simp only [go_sem]
  refine W_cond rfl (fun c2 => ?_) (fun c2 => ?_)
  ·
   try simp only [nrm] at c2
   have hres : readA ct s = ([], 0, 6) := by unfold readA; rw [if_neg (by simpa using hck), if_pos (by omega)]
   refine W_seq fun kz8 kq8 => ?_
   refine W_region [4, 5, 6] fun R hR => ?_
   simp only [go_sem]
   refine hR _ _ (kq8 _ _ ?_); clear hR R; try clear kq8 kz8
   try simp only [go_sem]
   refine W_ret ?_
   simp only [go_sem]
   refine ⟨.inr (by trivial), ?_⟩
   refine Fin_same hcl rfl (Wk.ro (by simp only [go_sem]) ?_)
   try simp only [go_sem]
   all_goals
    first | (rw [hres2]; done) | (rw [hres]; done) | (rw [hres2]; rfl) | (rw [hres]; rfl)
  ·
   try simp only [nrm] at c2
   have hres : readA ct s = readB ct rows := by unfold readA; rw [if_neg (by simpa using hck), if_neg (by omega), hrw]
   refine W_skip (kq6 _ _ ?_)
   refine W_seq fun kz9 kq9 => ?_
   refine W_region [2, 4, 8] fun R hR => ?_
   simp only [go_sem]
   refine GCall_of (PC.val (v' := .isl (rows.map txt) .exact) (Split_pc Y _ s 10 (by omega)) (by rw [hrw])) ?_
   simp only [go_sem]
   refine hR _ _ (kq9 _ _ ?_); clear hR R; try clear kq9 kz9
   try simp only [go_sem]
   refine W_seq fun kz10 kq10 => ?_
   refine W_region [2, 4, 8, 9] fun R hR => ?_
   simp only [go_sem]
   try simp (disch := (first | omega | (simp only [go_sem, List.length_append] <;> omega))) only [wrapI, wrapU, strAdd, slT, slTa, slTb]
   refine hR _ _ (kq10 _ _ ?_); clear hR R; try clear kq10 kz10
   try simp only [go_sem]
   refine W_seq fun kz11 kq11 => ?_
   refine W_region [2, 4, 8, 9, 10] fun R hR => ?_
   simp only [go_sem]
   refine hR _ _ (kq11 _ _ ?_); clear hR R; try clear kq11 kz11
   try simp only [go_sem]
   refine W_seq fun kz12 kq12 => ?_
   refine W_seq fun kz13 kq13 => ?_
   refine W_region [2, 4, 8, 9, 10, 36, 37, 38] fun R hR => ?_
   simp only [go_sem, hposl, htn, hlel, ← List.map_take, hso, hR0]
   try simp (disch := (first | omega | (simp only [go_sem, List.length_append] <;> omega))) only [wrapI, wrapU, strAdd, slT, slTa, slTb]
   refine hR _ _ (kq13 _ _ ?_); clear hR R; try clear kq13 kz13
   try simp only [go_sem]
   refine W_block ?_
   refine W_weak (Weak.room (t := 4) (es := 6) rfl (by simp)) ?_
   refine W_weak (Weak.keep [2, 4, 8, 9, 10, 36, 37, 38]) ?_
   simp only [go_sem]
   refine W_loopT (α := Nat × (List Band) × Bool) (fun ⟨i, l, ended⟩ => [(4, .isl (l.map bdPV) (.tok σ.rooms.length l.length 6)), (10, .bool ended), (38, I i)]) (fun ⟨i, l, ended⟩ => σ.ext [some (ctCells ct)] [l.length]) (fun ⟨i, l, ended⟩ => i ≤ R.length ∧ l.length ≤ i ∧ (∀ b, b ∈ l → b.path.length ≤ 2 ^ 40) ∧ rowsE i (l, ended) (R.drop i) = rowsE 0 ([], false) R) (fun ⟨i, l, ended⟩ => R.length - i) ((0, [], false)) rfl (by first | rfl | (simp only [go_sem]; done) | (simp only [go_sem]; rfl)) (⟨Nat.zero_le _, Nat.le_refl _, fun b h => by (cases h), rfl⟩) ?_
   rintro ⟨i, l, ended⟩ ⟨hi, hll, hlb, hinv⟩
   refine W_seq fun kz14 kq14 => ?_
   refine W_region [2, 4, 8, 9, 10, 36, 37, 38, 39] fun R hR => ?_
   simp only [go_sem]
   refine hR _ _ (kq14 _ _ ?_); clear hR R; try clear kq14 kz14
   try simp only [go_sem]
   refine W_seq fun kz15 kq15 => ?_
   refine W_cond rfl (fun c3 => ?_) (fun c3 => ?_)
   ·
    try simp only [nrm] at c3
    have hi' : i < R.length := by first | omega | (simp at c3; omega)
    obtain ⟨x, hx⟩ : ∃ x, R[i]? = some x := ⟨R[i], by simp [hi']⟩
    have hdrop : R.drop i = x :: R.drop (i + 1) := by
     rw [List.drop_eq_getElem_cons hi']; congr 1; exact (List.getElem?_eq_some_iff.1 hx).2
    have hxr := hRr i x hx
    have hxm := hwm x (List.mem_of_getElem? hxr)
    rw [hdrop] at hinv
    obtain ⟨ws, hws⟩ : ∃ z, splitL 32 x = z := ⟨_, rfl⟩
    have hwm2 : ∀ p, p ∈ ws → p.length ≤ 2 ^ 30 := fun p hp => by rw [← hws] at hp; have := splitL_mem hp; omega
    have hws1 : 1 ≤ ws.length := List.length_pos_iff.2 (by rw [← hws]; exact splitL_ne 32 x)
    have hws2 : ws.length ≤ 2 ^ 30 + 1 := by rw [← hws]; have := splitL_le (b := 32) (s := x); omega
    obtain ⟨w0, hx0⟩ : ∃ w, ws[0]? = some w := ⟨ws[0], by simp⟩
    obtain ⟨V, hV⟩ : ∃ z, ws.drop 1 = z := ⟨_, rfl⟩
    have hVm : ∀ p, p ∈ V → p.length ≤ 2 ^ 30 := fun p hp => by rw [← hV] at hp; exact hwm2 p (List.mem_of_mem_drop hp)
    have hVl : V.length ≤ 2 ^ 30 := by rw [← hV]; simp; omega
    have hso2 : sliceOwn .exact 1 ws.length ws.length = .exact := if_pos rfl
    have hpe := parseE_of (k := 7) hws hx0
    rw [tail_drop, hV, numsE_all (by omega)] at hpe
    refine W_skip (kq15 _ _ ?_)
    refine W_seq fun kz16 kq16 => ?_
    refine W_block ?_
    refine W_seq fun kz17 kq17 => ?_
    refine W_region [2, 4, 8, 9, 10, 11, 12, 36, 37, 38] fun R hR => ?_
    simp only [go_sem, hx]
    refine hR _ _ (kq17 _ _ ?_); clear hR R; try clear kq17 kz17
    try simp only [go_sem, hx]
    refine W_seq fun kz18 kq18 => ?_
    refine W_region [2, 4, 8, 9, 10, 11, 13, 36, 37, 38] fun R hR => ?_
    simp only [go_sem, hx]
    refine GCall_of (PC.val (v' := .isl (ws.map txt) .exact) (Split_pc Y _ x 32 (by omega)) (by rw [hws])) ?_
    simp only [go_sem, hx]
    refine hR _ _ (kq18 _ _ ?_); clear hR R; try clear kq18 kz18
    try simp only [go_sem, hx]
    refine W_seq fun kz19 kq19 => ?_
    refine W_region [2, 4, 8, 9, 10, 11, 13, 14, 36, 37, 38] fun R hR => ?_
    simp only [go_sem, hx]
    refine hR _ _ (kq19 _ _ ?_); clear hR R; try clear kq19 kz19
    try simp only [go_sem, hx]
    refine W_seq fun kz20 kq20 => ?_
    refine W_region [2, 4, 8, 9, 10, 11, 13, 14, 15, 36, 37, 38] fun R hR => ?_
    simp only [go_sem, hx]
    refine hR _ _ (kq20 _ _ ?_); clear hR R; try clear kq20 kz20
    try simp only [go_sem, hx]
    refine W_seq fun kz21 kq21 => ?_
    refine W_seq fun kz22 kq22 => ?_
    refine W_region [2, 4, 8, 9, 10, 11, 13, 14, 15, 36, 37, 38, 48, 49, 50] fun R hR => ?_
    simp only [go_sem, hx, Int.reduceToNat, Int.reduceLE, hws1, ← List.map_drop, hso2, hV]
    try simp (disch := (first | omega | (simp only [go_sem, List.length_append] <;> omega))) only [wrapI, wrapU, strAdd, slT, slTa, slTb]
    refine hR _ _ (kq22 _ _ ?_); clear hR R; try clear kq22 kz22
    try simp only [go_sem, hx]
    refine W_block ?_
    refine W_weak (Weak.room (t := 14) (es := 1) rfl (by simp)) ?_
    refine W_weak (Weak.keep [2, 4, 8, 9, 10, 11, 13, 14, 15, 36, 37, 38, 48, 49, 50]) ?_
    simp only [go_sem, hx]
    refine W_loopT (α := Nat × (List Int) × Bool) (fun ⟨k, n, ok⟩ => [(14, .isl (n.map I) (.tok (σ.rooms.length + 1) n.length 1)), (15, .bool ok), (50, I k)]) (fun ⟨k, n, ok⟩ => σ.ext [some (ctCells ct)] [l.length, n.length]) (fun ⟨k, n, ok⟩ => k ≤ V.length ∧ n = (V.take k).map atoiV ∧ ok = (!ended && (V.take k).all (wordOK 7))) (fun ⟨k, n, ok⟩ => V.length - k) ((0, [], !ended)) rfl (by first | rfl | (simp only [go_sem]; done) | (simp only [go_sem]; rfl)) (⟨Nat.zero_le _, rfl, by simp⟩) ?_
    rintro ⟨k, n, ok⟩ ⟨hk, hn, hok⟩
    have hnl : n.length = k := by rw [hn]; simp; omega
    refine W_seq fun kz23 kq23 => ?_
    refine W_region [2, 4, 8, 9, 10, 11, 13, 14, 15, 36, 37, 38, 48, 49, 50, 51] fun R hR => ?_
    simp only [go_sem, hx]
    refine hR _ _ (kq23 _ _ ?_); clear hR R; try clear kq23 kz23
    try simp only [go_sem, hx]
    refine W_seq fun kz24 kq24 => ?_
    refine W_cond rfl (fun c4 => ?_) (fun c4 => ?_)
    ·
     try simp only [nrm] at c4
     have hi' : k < V.length := by first | omega | (simp at c4; omega)
     obtain ⟨w, hx⟩ : ∃ w, V[k]? = some w := ⟨V[k], by simp [hi']⟩
     have hdrop : V.drop k = w :: V.drop (k + 1) := by
      rw [List.drop_eq_getElem_cons hi']; congr 1; exact (List.getElem?_eq_some_iff.1 hx).2
     have hwl2 := hVm w (List.mem_of_getElem? hx)
     refine W_skip (kq24 _ _ ?_)
     refine W_seq fun kz25 kq25 => ?_
     refine W_block ?_
     refine W_seq fun kz26 kq26 => ?_
     refine W_region [2, 4, 8, 9, 10, 11, 13, 14, 15, 17, 36, 37, 38, 48, 49, 50] fun R hR => ?_
     simp only [go_sem, hx, hx]
     refine hR _ _ (kq26 _ _ ?_); clear hR R; try clear kq26 kz26
     try simp only [go_sem, hx, hx]
     refine W_seq fun kz27 kq27 => ?_
     refine W_region [2, 4, 8, 9, 10, 11, 13, 14, 15, 17, 18, 19, 36, 37, 38, 48, 49, 50] fun R hR => ?_
     simp only [go_sem, hx, hx]
     refine GCall_of (Atoi_pc Y _ w (by omega)) ?_
     simp only [go_sem, hx, hx]
     refine hR _ _ (kq27 _ _ ?_); clear hR R; try clear kq27 kz27
     try simp only [go_sem, hx, hx]
     refine W_seq fun kz28 kq28 => ?_
     refine W_regionJ [2, 4, 8, 9, 10, 11, 13, 14, 15, 18, 36, 37, 38, 48, 49, 50] [(15, .bool (ok && wordOK 7 w))] ?_ fun R hR => ?_
     ·refine kq28 _ _ ?_
      simp only [go_sem, hx, hx]
      refine W_region [2, 4, 8, 9, 10, 11, 13, 14, 15, 36, 37, 38, 48, 49, 50] fun R hR => ?_
      simp only [go_sem, hx, hx]
      try simp (disch := (first | omega | (simp only [go_sem, List.length_append] <;> omega))) only [wrapI, wrapU, appX_exact, appX_tok, strAdd, slT, slTa, slTb]
      try simp only [go_sem, hx, hx]
      refine hR _ _ (kq25 _ _ ?_); clear hR R; try clear kq25 kz25
      try simp only [go_sem, hx, hx]
      refine W_region [2, 4, 8, 9, 10, 11, 13, 14, 15, 36, 37, 38, 48, 49, 50] fun R hR => ?_
      simp only [go_sem, hx, hx]
      try simp (disch := (first | omega | (simp only [go_sem, List.length_append] <;> omega))) only [wrapI, wrapU, strAdd, slT, slTa, slTb]
      refine hR _ _ ?_; clear hR R
      try simp only [go_sem, hx, hx]
      refine ⟨(k + 1, n ++ [atoiV w], ok && wordOK 7 w), ?_, by (try simp only []); omega, ?_⟩
      ·first | exact Weak.refl | exact Weak.eq (by first | rfl | (simp only [go_sem]; done) | (simp only [go_sem]; rfl) | (simp [go_sem]; done) | (simp [go_sem]; omega)) (by first | rfl | (simp only [go_sem]; done) | (simp [go_sem]; done))
      ·try dsimp only
       refine ⟨by omega, ?_, ?_⟩
       ·rw [List.take_add_one, hx, hn]; simp
       ·rw [List.take_add_one, hx, hok]; simp [Bool.and_assoc]
     ·simp only [go_sem, hx, hx]
      refine GWant_split (fun g1 => ?_) (fun g1 => ?_)
      ·try simp only [Bool.not_eq_true', Bool.not_eq_false'] at g1
       have n1 := g1; try simp only [nrm] at n1
       simp only [go_sem, hx, hx, g1]
       refine GWant_split (fun g2 => ?_) (fun g2 => ?_)
       ·try simp only [Bool.not_eq_true', Bool.not_eq_false'] at g2
        have n2 := g2; try simp only [nrm] at n2
        simp only [go_sem, hx, hx, g1, g2]
        refine GWant_split (fun g3 => ?_) (fun g3 => ?_)
        ·try simp only [Bool.not_eq_true', Bool.not_eq_false'] at g3
         have n3 := g3; try simp only [nrm] at n3
         simp only [go_sem, hx, hx, g1, g2, g3]
         refine GWant_split (fun g4 => ?_) (fun g4 => ?_)
         ·try simp only [Bool.not_eq_true', Bool.not_eq_false'] at g4
          have n4 := g4; try simp only [nrm] at n4
          simp only [go_sem, hx, hx, g1, g2, g3, g4]
          refine GCall_of (Itoa_pc Y _ (atoiV w) (atoiV_bd w).1 (atoiV_bd w).2) ?_
          simp only [go_sem, hx, hx, g1, g2, g3, g4]
          refine hR _ ?_
          all_goals try simp only [go_sem, hx, hx]
          all_goals
           first | rfl | (clear hok hn; simp [wordOK, *]; done) | (clear hok hn; simp [wordOK, *]; intro hz; first | omega | (intro _; omega))
         ·try simp only [Bool.not_eq_true', Bool.not_eq_false'] at g4
          have n4 := g4; try simp only [nrm] at n4
          simp only [go_sem, hx, hx, g1, g2, g3, g4]
          refine hR _ ?_
          all_goals try simp only [go_sem, hx, hx]
          all_goals
           first | rfl | (clear hok hn; simp [wordOK, *]; done) | (clear hok hn; simp [wordOK, *]; intro hz; first | omega | (intro _; omega))
        ·try simp only [Bool.not_eq_true', Bool.not_eq_false'] at g3
         have n3 := g3; try simp only [nrm] at n3
         simp only [go_sem, hx, hx, g1, g2, g3]
         refine hR _ ?_
         all_goals try simp only [go_sem, hx, hx]
         all_goals
          first | rfl | (clear hok hn; simp [wordOK, *]; done) | (clear hok hn; simp [wordOK, *]; intro hz; first | omega | (intro _; omega))
       ·try simp only [Bool.not_eq_true', Bool.not_eq_false'] at g2
        have n2 := g2; try simp only [nrm] at n2
        simp only [go_sem, hx, hx, g1, g2]
        refine hR _ ?_
        all_goals try simp only [go_sem, hx, hx]
        all_goals
         first | rfl | (clear hok hn; simp [wordOK, *]; done) | (clear hok hn; simp [wordOK, *]; intro hz; first | omega | (intro _; omega))
      ·try simp only [Bool.not_eq_true', Bool.not_eq_false'] at g1
       have n1 := g1; try simp only [nrm] at n1
       simp only [go_sem, hx, hx, g1]
       refine hR _ ?_
       all_goals try simp only [go_sem, hx, hx]
       all_goals
        first | rfl | (clear hok hn; simp [wordOK, *]; done) | (clear hok hn; simp [wordOK, *]; intro hz; first | omega | (intro _; omega))
    ·
     try simp only [nrm] at c4
     have hke : k = V.length := by first | omega | (simp at c4; omega)
     rw [hke, List.take_length] at hn hok
     refine W_exit ?_
     simp only [go_sem, hx]
     refine kq21 _ _ ?_
     refine W_seq fun kz29 kq29 => ?_
     refine W_block ?_
     refine W_seq fun kz30 kq30 => ?_
     refine W_region [2, 4, 8, 9, 10, 11, 13, 14, 15, 36, 37, 38, 84] fun R hR => ?_
     simp only [go_sem, hx]
     refine hR _ _ (kq30 _ _ ?_); clear hR R; try clear kq30 kz30
     try simp only [go_sem, hx]
     refine W_cond rfl (fun c5 => ?_) (fun c5 => ?_)
     ·
      try simp only [nrm] at c5
      have hst : stepE (l, ended) x = none := by
       unfold stepE
       rw [hpe]
       cases ended with
       | false =>
        have hok0 : ok = false := by simpa using c5
        rw [hok0] at hok
        have hall : V.all (wordOK 7) = false := by simpa using hok.symm
        rw [if_neg (by rw [hall]; simp)]
        rfl
       | true => split <;> simp_all
      rw [rowsE_none hst] at hinv
      have hres2 : readA ct s = ([], (i : Int) + 1, 1) := by rw [hres]; exact readB_bad (by rw [hR0]; exact hinv.symm) (by omega)
      refine W_skip (kq29 _ _ ?_)
      refine W_seq fun kz31 kq31 => ?_
      refine W_region [2, 4, 8, 9, 10, 11, 36, 37, 38, 136] fun R hR => ?_
      simp only [go_sem, hx]
      refine hR _ _ (kq31 _ _ ?_); clear hR R; try clear kq31 kz31
      try simp only [go_sem, hx]
      refine W_cond rfl (fun c6 => ?_) (fun c6 => ?_)
      ·
       try simp only [nrm] at c6
       refine W_seq fun kz32 kq32 => ?_
       refine W_region [4, 5, 6] fun R hR => ?_
       simp only [go_sem, hx]
       try simp (disch := (first | omega | (simp only [go_sem, List.length_append] <;> omega))) only [wrapI, wrapU, strAdd, slT, slTa, slTb]
       refine hR _ _ (kq32 _ _ ?_); clear hR R; try clear kq32 kz32
       try simp only [go_sem, hx]
       refine W_ret ?_
       simp only [go_sem, hx]
       refine ⟨.inr (by trivial), ?_⟩
       refine Fin_same hcl rfl (Wk.ro (by simp only [go_sem]) ?_)
       try simp only [go_sem]
       all_goals
        first | (rw [hres2]; done) | (rw [hres]; done) | (rw [hres2]; rfl) | (rw [hres]; rfl)
      ·
       try simp only [nrm] at c6
       exfalso
       first | (simp at c6; done) | (simp_all; done) | cases c6 | contradiction
     ·
      try simp only [nrm] at c5
      have hok1 : ok = true := by simpa using c5
      have he0 : ended = false := by
       rw [hok1] at hok
       cases ended with
       | false => rfl
       | true => simp at hok
      have hall : V.all (wordOK 7) = true := by rw [hok1, he0] at hok; simpa using hok.symm
      subst he0
      rw [if_pos hall, ← hn] at hpe
      simp only [Option.map_some] at hpe
      refine W_seq fun kz33 kq33 => ?_
      refine W_regionJ [2, 4, 8, 9, 10, 11, 13, 14, 15, 36, 37, 38, 87] [(87, .bool (decide (w0 = [98, 97, 110, 100]) && decide (5 ≤ n.length)))] ?_ fun R hR => ?_
      ·refine kq33 _ _ ?_
       simp only [go_sem, hx]
       refine W_cond rfl (fun c7 => ?_) (fun c7 => ?_)
       ·
        try simp only [nrm] at c7
        simp only [Bool.and_eq_true, decide_eq_true_eq] at c7
        obtain ⟨hcw, hc5⟩ := c7
        have hgk : ∀ k, k < n.length → n[k]? = some (n.getD k 0) := fun k h => by simp [h]
        have hg0 := hgk 0 (by omega)
        have hg1 := hgk 1 (by omega)
        have hg2 := hgk 2 (by omega)
        have hg3 := hgk 3 (by omega)
        have hg4 := hgk 4 (by omega)
        have hso5 : sliceOwn (.tok (σ.rooms.length + 1) n.length 1) 5 n.length n.length = .tok (σ.rooms.length + 1) n.length 1 := if_pos rfl
        have hst : stepE (l, false) x = some (l ++ [mkBand n], false) := by
         unfold stepE
         rw [hpe]
         simp only [Bool.false_eq_true, if_false]
         rw [if_pos ⟨hcw, hc5⟩]
        rw [rowsE_some hst] at hinv
        refine W_weak (Weak.ro 14) ?_
        refine W_weak (Weak.keep [2, 4, 8, 9, 10, 11, 14, 15, 36, 37, 38]) ?_
        simp only [go_sem]
        refine W_draw [2, 4, 8, 9, 10, 11, 15, 36, 37, 38] [0, 1, 2, 3, 4, 5, 6, 7, 8, 9, 10, 11, 12, 13, 14, 15, 16, 17, 18, 19, 20, 21, 22] [] [[], [], [1], [1, 2], [], [4], [4, 5], [], [7], [7, 8], [4, 5, 6, 7, 8, 9], [], [11], [11, 12], [], [14], [14, 15], [], [17], [1, 2, 3, 4, 5, 6, 7, 8, 9, 10, 11, 12, 13, 14, 15, 16, 17, 18], [1, 2, 3, 4, 5, 6, 7, 8, 9, 10, 11, 12, 13, 14, 15, 16, 17, 18, 19], [0, 1, 2, 3, 4, 5, 6, 7, 8, 9, 10, 11, 12, 13, 14, 15, 16, 17, 18, 19, 20], [0, 1, 2, 3, 4, 5, 6, 7, 8, 9, 10, 11, 12, 13, 14, 15, 16, 17, 18, 19, 20, 21]] mixed (by kernel_rfl) fun R hR => ?_
        simp only [go_sem, hx, hc5, hg0, hg1, hg2, hg3, hg4, hso5, ← List.map_drop, Int.reduceToNat, Int.reduceLE, Int.le_refl]
        try simp (disch := (first | omega | (simp only [go_sem, List.length_append] <;> omega))) only [wrapI, wrapU, appX_exact, appX_tok, strAdd, slT, slTa, slTb]
        try simp only [go_sem, hx, hc5, hg0, hg1, hg2, hg3, hg4, hso5, ← List.map_drop, Int.reduceToNat, Int.reduceLE, Int.le_refl]
        try refine And.intro (by repeat' (first | refine And.intro ?_ ?_ | exact trivial | exact GOr_right (fun _ => by simp only [go_sem, hx, hc5, hg0, hg1, hg2, hg3, hg4, hso5, ← List.map_drop, Int.reduceToNat, Int.reduceLE, Int.le_refl]))) ?_
        refine hR _ _ (kq29 _ _ ?_); clear hR R; try clear kq29 kz29
        try simp only [go_sem, hx, hc5, hg0, hg1, hg2, hg3, hg4, hso5, ← List.map_drop, Int.reduceToNat, Int.reduceLE, Int.le_refl]
        refine W_seq fun kz34 kq34 => ?_
        refine W_region [2, 4, 8, 9, 10, 11, 36, 37, 38, 136] fun R hR => ?_
        simp only [go_sem, hx, hc5, hg0, hg1, hg2, hg3, hg4, hso5, ← List.map_drop, Int.reduceToNat, Int.reduceLE, Int.le_refl]
        refine hR _ _ (kq34 _ _ ?_); clear hR R; try clear kq34 kz34
        try simp only [go_sem, hx, hc5, hg0, hg1, hg2, hg3, hg4, hso5, ← List.map_drop, Int.reduceToNat, Int.reduceLE, Int.le_refl]
        refine W_cond rfl (fun c8 => ?_) (fun c8 => ?_)
        ·
         try simp only [nrm] at c8
         exfalso
         rw [hok1] at c8; first | cases c8 | (simp at c8; done)
        ·
         try simp only [nrm] at c8
         refine W_skip (kq16 _ _ ?_)
         refine W_region [2, 4, 8, 9, 10, 36, 37, 38] fun R hR => ?_
         simp only [go_sem, hx, hc5, hg0, hg1, hg2, hg3, hg4, hso5, ← List.map_drop, Int.reduceToNat, Int.reduceLE, Int.le_refl]
         try simp (disch := (first | omega | (simp only [go_sem, List.length_append] <;> omega))) only [wrapI, wrapU, strAdd, slT, slTa, slTb]
         refine hR _ _ ?_; clear hR R
         try simp only [go_sem, hx, hc5, hg0, hg1, hg2, hg3, hg4, hso5, ← List.map_drop, Int.reduceToNat, Int.reduceLE, Int.le_refl]
         refine ⟨(i + 1, l ++ [mkBand n], false), ?_, by (try simp only []); omega, ?_⟩
         ·refine Weak.trans (Weak.cutX 1 1 (by omega) (by omega) hcl (by simp only [go_sem] <;> omega) (by simp only [go_sem] <;> omega)) ?_
          simp only [go_sem]
          exact Weak.eq rfl rfl
         ·try dsimp only
          refine ⟨by omega, by simp; omega, fun b hb => ?_, hinv⟩
          rcases List.mem_append.1 hb with hb | hb
          ·exact hlb b hb
          ·simp only [List.mem_singleton] at hb
           subst hb
           simp only [mkBand, List.length_drop]
           have : n.length = V.length := by rw [hn]; simp
           omega
       ·
        try simp only [nrm] at c7
        have hc6 : ¬ (w0 = [98, 97, 110, 100] ∧ 5 ≤ n.length) := by simpa using c7
        refine W_seq fun kz35 kq35 => ?_
        refine W_regionJ [2, 4, 8, 9, 10, 11, 14, 36, 37, 38, 119] [(119, .bool (decide (w0 = [101, 110, 100]) && decide (n.length = 1)))] ?_ fun R hR => ?_
        ·refine kq35 _ _ ?_
         simp only [go_sem, hx]
         refine W_cond rfl (fun c9 => ?_) (fun c9 => ?_)
         ·
          try simp only [nrm] at c9
          simp only [Bool.and_eq_true, decide_eq_true_eq] at c9
          have hv0 := hn0 n c9.2
          obtain ⟨q, hq⟩ : ∃ z : Bool, (n.getD 0 0 == (l.length : Int)) = z := ⟨_, rfl⟩
          refine W_region [2, 4, 8, 9, 10, 11, 15, 36, 37, 38] fun R hR => ?_
          simp only [go_sem, hx, hv0, hq, Int.reduceToNat, Int.le_refl]
          refine hR _ _ (kq29 _ _ ?_); clear hR R; try clear kq29 kz29
          try simp only [go_sem, hx, hv0, hq]
          refine W_seq fun kz36 kq36 => ?_
          refine W_region [2, 4, 8, 9, 10, 11, 36, 37, 38, 136] fun R hR => ?_
          simp only [go_sem, hx, hv0, hq]
          refine hR _ _ (kq36 _ _ ?_); clear hR R; try clear kq36 kz36
          try simp only [go_sem, hx, hv0, hq]
          refine W_cond rfl (fun c10 => ?_) (fun c10 => ?_)
          ·
           try simp only [nrm] at c10
           have hst : stepE (l, false) x = none := by
            unfold stepE
            rw [hpe]
            simp only [Bool.false_eq_true, if_false]
            rw [if_neg hc6, if_neg]
            rintro ⟨k1, k2, k3⟩
            rw [hv0] at k3
            injection k3 with k3
            have hq1 : q = true := by rw [← hq, k3]; simp
            rw [hq1] at c10
            first | cases c10 | (simp at c10; done)
           rw [rowsE_none hst] at hinv
           have hres2 : readA ct s = ([], (i : Int) + 1, 1) := by rw [hres]; exact readB_bad (by rw [hR0]; exact hinv.symm) (by omega)
           refine W_seq fun kz37 kq37 => ?_
           refine W_region [4, 5, 6] fun R hR => ?_
           simp only [go_sem, hx, hv0, hq]
           try simp (disch := (first | omega | (simp only [go_sem, List.length_append] <;> omega))) only [wrapI, wrapU, strAdd, slT, slTa, slTb]
           refine hR _ _ (kq37 _ _ ?_); clear hR R; try clear kq37 kz37
           try simp only [go_sem, hx, hv0, hq]
           refine W_ret ?_
           simp only [go_sem, hx, hv0, hq]
           refine ⟨.inr (by trivial), ?_⟩
           refine Fin_same hcl rfl (Wk.ro (by simp only [go_sem]) ?_)
           try simp only [go_sem]
           all_goals
            first | (rw [hres2]; done) | (rw [hres]; done) | (rw [hres2]; rfl) | (rw [hres]; rfl)
          ·
           try simp only [nrm] at c10
           have hq1 : q = true := by simpa using c10
           have h3 : n[0]? = some (l.length : Int) := by
            rw [hq1, beq_iff_eq] at hq
            rw [hv0, hq]
           have hst : stepE (l, false) x = some (l, true) := by
            unfold stepE
            rw [hpe]
            simp only [Bool.false_eq_true, if_false]
            rw [if_neg hc6, if_pos ⟨c9.1, c9.2, h3⟩]
           rw [rowsE_some hst] at hinv
           refine W_skip (kq16 _ _ ?_)
           refine W_region [2, 4, 8, 9, 10, 36, 37, 38] fun R hR => ?_
           simp only [go_sem, hx, hv0, hq]
           try simp (disch := (first | omega | (simp only [go_sem, List.length_append] <;> omega))) only [wrapI, wrapU, strAdd, slT, slTa, slTb]
           refine hR _ _ ?_; clear hR R
           try simp only [go_sem, hx, hv0, hq]
           refine ⟨(i + 1, l, true), ?_, by (try simp only []); omega, ?_⟩
           ·refine Weak.trans (Weak.cutX 1 1 (by omega) (by omega) hcl (by simp only [go_sem] <;> omega) (by simp only [go_sem] <;> omega)) ?_
            simp only [go_sem]
            refine Weak.eq (by first | rfl | (simp only [go_sem]; done) | (simp only [go_sem]; rfl)) (by first | rfl | (simp only [go_sem]; done))
           ·try dsimp only
            exact ⟨by omega, by omega, hlb, hinv⟩
         ·
          try simp only [nrm] at c9
          have hst : stepE (l, false) x = none := by
           unfold stepE
           rw [hpe]
           simp only [Bool.false_eq_true, if_false]
           rw [if_neg hc6, if_neg]
           rintro ⟨k1, k2, k3⟩
           have hc9 : (decide (w0 = [101, 110, 100]) && decide (n.length = 1)) = true := by simp only [Bool.and_eq_true, decide_eq_true_eq]; exact ⟨k1, k2⟩
           first | (rw [hc9] at c9; cases c9; done) | exact absurd hc9 (by simpa using c9)
          rw [rowsE_none hst] at hinv
          have hres2 : readA ct s = ([], (i : Int) + 1, 1) := by rw [hres]; exact readB_bad (by rw [hR0]; exact hinv.symm) (by omega)
          refine W_region [2, 4, 8, 9, 10, 11, 15, 36, 37, 38] fun R hR => ?_
          simp only [go_sem, hx]
          refine hR _ _ (kq29 _ _ ?_); clear hR R; try clear kq29 kz29
          try simp only [go_sem, hx]
          refine W_seq fun kz38 kq38 => ?_
          refine W_region [2, 4, 8, 9, 10, 11, 36, 37, 38, 136] fun R hR => ?_
          simp only [go_sem, hx]
          refine hR _ _ (kq38 _ _ ?_); clear hR R; try clear kq38 kz38
          try simp only [go_sem, hx]
          refine W_cond rfl (fun c11 => ?_) (fun c11 => ?_)
          ·
           try simp only [nrm] at c11
           refine W_seq fun kz39 kq39 => ?_
           refine W_region [4, 5, 6] fun R hR => ?_
           simp only [go_sem, hx]
           try simp (disch := (first | omega | (simp only [go_sem, List.length_append] <;> omega))) only [wrapI, wrapU, strAdd, slT, slTa, slTb]
           refine hR _ _ (kq39 _ _ ?_); clear hR R; try clear kq39 kz39
           try simp only [go_sem, hx]
           refine W_ret ?_
           simp only [go_sem, hx]
           refine ⟨.inr (by trivial), ?_⟩
           refine Fin_same hcl rfl (Wk.ro (by simp only [go_sem]) ?_)
           try simp only [go_sem]
           all_goals
            first | (rw [hres2]; done) | (rw [hres]; done) | (rw [hres2]; rfl) | (rw [hres]; rfl)
          ·
           try simp only [nrm] at c11
           exfalso
           first | (simp at c11; done) | (simp_all; done) | cases c11 | contradiction
        ·simp only [go_sem, hx, hx0, Int.reduceToNat, Int.le_refl]
         refine GWant_split (fun g5 => ?_) (fun g5 => ?_)
         ·try simp only [Bool.not_eq_true', Bool.not_eq_false'] at g5
          have n5 := g5; try simp only [nrm] at n5
          simp only [go_sem, hx, hx0, Int.reduceToNat, Int.le_refl, g5]
          refine hR _ ?_
          all_goals try simp only [go_sem, hx, hx0, Int.reduceToNat, Int.le_refl]
          all_goals
           first | rfl | (clear hn hok; simp [*]; done) | (clear hn hok; simp_all; done) | (clear hn hok; simp [*]; omega) | (clear hn hok; simp [*]; rw [Bool.eq_iff_iff]; simp; omega) | (clear hn hok; simp_all; omega)
         ·try simp only [Bool.not_eq_true', Bool.not_eq_false'] at g5
          have n5 := g5; try simp only [nrm] at n5
          simp only [go_sem, hx, hx0, Int.reduceToNat, Int.le_refl, g5]
          refine hR _ ?_
          all_goals try simp only [go_sem, hx, hx0, Int.reduceToNat, Int.le_refl]
          all_goals
           first | rfl | (clear hn hok; simp [*]; done) | (clear hn hok; simp_all; done) | (clear hn hok; simp [*]; omega) | (clear hn hok; simp [*]; rw [Bool.eq_iff_iff]; simp; omega) | (clear hn hok; simp_all; omega)
      ·simp only [go_sem, hx, hx0, Int.reduceToNat, Int.le_refl]
       refine GWant_split (fun g6 => ?_) (fun g6 => ?_)
       ·try simp only [Bool.not_eq_true', Bool.not_eq_false'] at g6
        have n6 := g6; try simp only [nrm] at n6
        simp only [go_sem, hx, hx0, Int.reduceToNat, Int.le_refl, g6]
        refine hR _ ?_
        all_goals try simp only [go_sem, hx, hx0, Int.reduceToNat, Int.le_refl]
        all_goals
         first | rfl | (clear hn hok; simp [*]; done) | (clear hn hok; simp_all; done) | (clear hn hok; simp [*]; omega) | (clear hn hok; simp [*]; rw [Bool.eq_iff_iff]; simp; omega) | (clear hn hok; simp_all; omega)
       ·try simp only [Bool.not_eq_true', Bool.not_eq_false'] at g6
        have n6 := g6; try simp only [nrm] at n6
        simp only [go_sem, hx, hx0, Int.reduceToNat, Int.le_refl, g6]
        refine hR _ ?_
        all_goals try simp only [go_sem, hx, hx0, Int.reduceToNat, Int.le_refl]
        all_goals
         first | rfl | (clear hn hok; simp [*]; done) | (clear hn hok; simp_all; done) | (clear hn hok; simp [*]; omega) | (clear hn hok; simp [*]; rw [Bool.eq_iff_iff]; simp; omega) | (clear hn hok; simp_all; omega)
   ·
    try simp only [nrm] at c3
    have hie : i = R.length := by first | omega | (simp at c3; omega)
    have hdrop : R.drop i = [] := List.drop_eq_nil_of_le (by omega)
    rw [hdrop] at hinv
    simp only [rowsE] at hinv
    have hfin := hinv.symm
    refine W_exit ?_
    simp only [go_sem]
    refine kq12 _ _ ?_
    refine W_seq fun kz40 kq40 => ?_
    refine W_seq fun kz41 kq41 => ?_
    refine W_regionJ [2, 4, 9, 148] [(148, .bool (!ended || !decide (xl = [])))] ?_ fun R hR => ?_
    ·refine kq41 _ _ ?_
     simp only [go_sem]
     refine W_cond rfl (fun c12 => ?_) (fun c12 => ?_)
     ·
      try simp only [nrm] at c12
      have hres2 : readA ct s = ([], (rows.length : Int), 1) := by
       rw [hres]
       refine readB_open (by rw [hR0]; exact hfin) ?_
       rw [hxl]
       cases ended
       ·exact .inl rfl
       ·right; simpa using c12
      have hrl1 : (rows.length : Int) - 1 + 1 = (rows.length : Int) := by omega
      refine W_seq fun kz42 kq42 => ?_
      refine W_region [4, 5, 6] fun R hR => ?_
      simp only [go_sem]
      try simp (disch := (first | omega | (simp only [go_sem, List.length_append] <;> omega))) only [wrapI, wrapU, strAdd, slT, slTa, slTb]
      refine hR _ _ (kq42 _ _ ?_); clear hR R; try clear kq42 kz42
      try simp only [go_sem]
      refine W_ret ?_
      simp only [go_sem]
      refine ⟨.inr (by trivial), ?_⟩
      refine Fin_same hcl rfl (Wk.ro (by simp only [go_sem]) ?_)
      try simp only [go_sem]
      all_goals
       rw [hrl1, hres2]; rfl
     ·
      try simp only [nrm] at c12
      obtain ⟨rfl, rfl⟩ : ended = true ∧ xl = [] := by simpa using c12
      have hres2 : readA ct s = if chkAll ct l ≠ 0 then ([], 0, chkAll ct l) else (l, 0, 0) := by
       rw [hres]
       exact readB_end (st := (l, true)) (by rw [hR0]; exact hfin) (by rw [hxl]; simp)
      refine W_skip (kq40 _ _ ?_)
      refine W_seq fun kz43 kq43 => ?_
      refine W_seq fun kz44 kq44 => ?_
      refine W_region [4, 20] fun R hR => ?_
      simp only [go_sem]
      refine GCall_of (PC.ofRo (checkBands_pc Y _ ct l hc ⟨by omega, fun b hb => by have := hlb b hb; omega⟩) (by simp only [go_sem] <;> rfl)) ?_
      simp only [go_sem]
      refine hR _ _ (kq44 _ _ ?_); clear hR R; try clear kq44 kz44
      try simp only [go_sem]
      refine W_seq fun kz45 kq45 => ?_
      refine W_region [4, 20, 155] fun R hR => ?_
      simp only [go_sem]
      refine hR _ _ (kq45 _ _ ?_); clear hR R; try clear kq45 kz45
      try simp only [go_sem]
      refine W_cond rfl (fun c13 => ?_) (fun c13 => ?_)
      ·
       try simp only [nrm] at c13
       rw [if_pos (by simpa using c13)] at hres2
       refine W_seq fun kz46 kq46 => ?_
       refine W_region [4, 5, 6] fun R hR => ?_
       simp only [go_sem]
       refine hR _ _ (kq46 _ _ ?_); clear hR R; try clear kq46 kz46
       try simp only [go_sem]
       refine W_ret ?_
       simp only [go_sem]
       refine ⟨.inr (by trivial), ?_⟩
       refine Fin_same hcl rfl (Wk.ro (by simp only [go_sem]) ?_)
       try simp only [go_sem]
       all_goals
        first | (rw [hres2]; done) | (rw [hres]; done) | (rw [hres2]; rfl) | (rw [hres]; rfl)
      ·
       try simp only [nrm] at c13
       rw [if_neg (by simpa using c13)] at hres2
       refine W_skip (kq43 _ _ ?_)
       refine W_seq fun kz47 kq47 => ?_
       refine W_region [4, 5, 6] fun R hR => ?_
       simp only [go_sem]
       refine hR _ _ (kq47 _ _ ?_); clear hR R; try clear kq47 kz47
       try simp only [go_sem]
       refine W_ret ?_
       simp only [go_sem]
       refine ⟨.inr (by trivial), ?_⟩
       refine Fin_same hcl rfl (Wk.ro (by simp only [go_sem]) ?_)
       try simp only [go_sem]
       all_goals
        first | (rw [hres2]; done) | (rw [hres]; done) | (rw [hres2]; rfl) | (rw [hres]; rfl)
    ·simp only [go_sem, hlast, hposl]
     refine GWant_split (fun g7 => ?_) (fun g7 => ?_)
     ·try simp only [Bool.not_eq_true', Bool.not_eq_false'] at g7
      have n7 := g7; try simp only [nrm] at n7
      simp only [go_sem, hlast, hposl, g7]
      refine hR _ ?_
      all_goals try simp only [go_sem, hlast, hposl]
      all_goals
       first | rfl | (simp [*]; done) | (simp_all; done)
     ·try simp only [Bool.not_eq_true', Bool.not_eq_false'] at g7
      have n7 := g7; try simp only [nrm] at n7
      simp only [go_sem, hlast, hposl, g7]
      refine hR _ ?_
      all_goals try simp only [go_sem, hlast, hposl]
      all_goals
       first | rfl | (simp [*]; done) | (simp_all; done)
end Go.Proofs.YteklodljdndcoaaGreatDoor
namespace Go.Proofs.YteklodljdndcoaaGreatDoor
open Go Go.RowKit
theorem BandK.short {b : Band} (h : BandK b) : ∀ n, n ∈ bandNums b → Short 7 n := by
  intro n hn
  have h1 := h.f; have h2 := h.lo; have h3 := h.hi; have h4 := h.st; have h5 := h.pe
  have key : 0 ≤ n ∧ n < 10000000 := by
    simp only [bandNums, List.cons_append, List.nil_append, List.mem_cons] at hn
    rcases hn with rfl | rfl | rfl | rfl | rfl | hn <;> try omega
    have := h.ps n hn
    omega
  exact short_lt key.1 (by simpa using key.2) (by omega)
theorem short_len {k : Nat} : ∀ {l : List Int}, (∀ n, n ∈ l → Short k n) → ∀ w, (rowT w l).length ≤ w.length + (k + 1) * l.length := by
  intro l
  induction l with
  | nil => intro _ w; simp [rowT]
  | cons n l ih =>
    intro h w
    rw [rowT_cons]
    have h1 := ih (fun m hm => h m (List.mem_cons_of_mem _ hm)) (w ++ 32 :: Lib.itoa n)
    have h2 := (h n (List.mem_cons_self ..)).2
    simp only [List.length_append, List.length_cons, Nat.mul_add, Nat.mul_one] at h1 ⊢
    omega
theorem bandRow_141 {b : Band} (h : BandK b) : (bandRow b).length ≤ 141 := by
  have h1 := short_len h.short bandW
  have h2 := h.p
  have e1 : (bandNums b).length = 5 + b.path.length := by simp [bandNums]; omega
  have e2 : bandW.length = 4 := rfl
  simp only [bandRow, List.length_append, List.length_cons, List.length_nil]
  omega
theorem bandsT_1410 : ∀ {l : List Band}, (∀ b, b ∈ l → BandK b) → (bandsT l).length ≤ 141 * l.length := by
  intro l
  induction l with
  | nil => intro _; simp [bandsT]
  | cons b l ih =>
    intro h
    have h1 := ih fun x hx => h x (List.mem_cons_of_mem _ hx)
    have h2 := bandRow_141 (h b (List.mem_cons_self ..))
    simp only [bandsT, List.flatMap_cons, List.length_append, List.length_cons] at h1 ⊢
    omega
theorem writeT_2000 {c : City} {l : List Band} (h : chkAll c l = 0) : (writeT l).length ≤ 2000 := by
  obtain ⟨h1, h2⟩ := chkAll_k h
  have h3 := bandsT_1410 h2
  have h4 := endRow_len (n := l.length) (by omega)
  simp only [writeT, endRow, List.length_append, List.length_cons, List.length_nil]
  omega
theorem nums_mkBand {n : List Int} (h : 5 ≤ n.length) : bandNums (mkBand n) = n := by
  obtain ⟨a0, a1, a2, a3, a4, r, rfl⟩ := five h
  simp [mkBand, bandNums]
/-- The rows of a paper. -/
def rowsOf (l : List Band) (m : Nat) : List (List UInt8) := l.map (fun b => rowT bandW (bandNums b)) ++ [rowT endW [(m : Int)]]
theorem writeT_rows (l : List Band) : writeT l = (rowsOf l l.length).flatMap fun r => r ++ [10] := by
  unfold writeT rowsOf bandsT endRow
  rw [List.flatMap_append, List.flatMap_map]
  simp
  rfl
theorem readA_err {c : City} {s : List UInt8} (h : (readA c s).2.2 ≠ 0) : (readA c s).1 = [] := by
  unfold readA at h ⊢
  split
  · rfl
  · split
    · rfl
    · rename_i h1 h2
      rw [if_neg h1, if_neg h2] at h
      unfold readB at h ⊢
      split
      · rfl
      · split
        · rfl
        · split
          · rfl
          · rename_i h3 h4 h5
            rw [if_neg h3, if_neg h4, if_neg h5] at h
            exact absurd rfl h
/-- What the rows were. -/
theorem rows_inv : ∀ (q : List (List UInt8)) (i : Nat) (l x : List Band) (e : Bool), rowsE i (l, e) q = ((x, true), 0) → (e = true → q = [] ∧ x = l) ∧ (e = false → ∃ m, x = l ++ m ∧ q = rowsOf m x.length) := by
  intro q
  induction q with
  | nil =>
    intro i l x e h
    simp only [rowsE, Prod.mk.injEq] at h
    obtain ⟨⟨rfl, rfl⟩, _⟩ := h
    exact ⟨fun _ => ⟨rfl, rfl⟩, fun h => by cases h⟩
  | cons r q ih =>
    intro i l x e h
    cases hs : stepE (l, e) r with
    | none => rw [rowsE_none hs] at h; simp only [Prod.mk.injEq] at h; omega
    | some st =>
      rw [rowsE_some hs] at h
      unfold stepE at hs
      cases hp : parseE 7 r with
      | none => rw [hp] at hs; cases hs
      | some p =>
        obtain ⟨w, n⟩ := p
        rw [hp] at hs
        obtain ⟨hr, hn⟩ := parse_inv hp
        simp only at hs
        split at hs
        · cases hs
        · rename_i he
          have he : e = false := by simpa using he
          refine ⟨fun h => by rw [he] at h; (cases h), fun _ => ?_⟩
          split at hs
          · rename_i hb
            injection hs with hs
            subst hs
            obtain ⟨m, hm, hq⟩ := (ih _ _ _ _ h).2 rfl
            refine ⟨mkBand n :: m, by rw [hm]; simp, ?_⟩
            rw [hq]
            simp only [rowsOf, List.map_cons, List.cons_append]
            rw [nums_mkBand hb.2, hr, hb.1]
            rfl
          · split at hs
            · rename_i hb
              injection hs with hs
              subst hs
              obtain ⟨hq, hx⟩ := (ih _ _ _ _ h).1 rfl
              obtain ⟨a0, rfl⟩ := one hb.2.1
              have ha : a0 = (l.length : Int) := by simpa using hb.2.2
              refine ⟨[], by rw [hx]; simp, ?_⟩
              rw [hq, hr, hb.1, ha, hx]
              rfl
            · cases hs
theorem write_read {c : City} {s : List UInt8} (h : (readA c s).2.2 = 0) : chkAll c (readA c s).1 = 0 ∧ writeT (readA c s).1 = s := by
  unfold readA at h ⊢
  split
  · rename_i h1
    rw [if_pos h1] at h
    exact absurd h h1
  · rename_i h1
    rw [if_neg h1] at h
    split
    · rename_i h2
      rw [if_pos h2] at h
      cases h
    · rename_i h2
      rw [if_neg h2] at h
      obtain ⟨ws, hws⟩ : ∃ z, splitL 10 s = z := ⟨_, rfl⟩
      rw [hws] at h ⊢
      unfold readB at h ⊢
      obtain ⟨p, hp⟩ : ∃ z, rowsE 0 ([], false) (ws.take (ws.length - 1)) = z := ⟨_, rfl⟩
      rw [hp] at h ⊢
      split
      · rename_i h3; rw [if_pos h3] at h; cases h
      · rename_i h3
        rw [if_neg h3] at h
        split
        · rename_i h4; rw [if_pos h4] at h; cases h
        · rename_i h4
          rw [if_neg h4] at h
          split
          · rename_i h5; rw [if_pos h5] at h; exact absurd h h5
          · rename_i h5
            simp only [not_or, Decidable.not_not] at h3 h4 h5
            obtain ⟨⟨x, e⟩, z⟩ := p
            simp only at h3 h4 h5
            have he : e = true := by simpa using h4.1
            subst he h3
            refine ⟨h5, ?_⟩
            obtain ⟨m, hm, hq⟩ := (rows_inv _ _ _ _ _ hp).2 rfl
            simp only [List.nil_append] at hm
            subst hm
            have hs := rows_of (s := s) (by rw [hws]; exact h4.2)
            rw [hws, hq] at hs
            rw [writeT_rows, ← hs]
end Go.Proofs.YteklodljdndcoaaGreatDoor
namespace Go.Proofs.YteklodljdndcoaaGreatDoor
open Go Go.RowKit
set_option maxRecDepth 100000
theorem readA_okb (c : City) (s : List UInt8) : BandsOk (readA c s).1 := by
  by_cases h : (readA c s).2.2 = 0
  · obtain ⟨h1, h2⟩ := chkAll_k (write_read h).1
    exact ⟨by omega, fun b hb => by have := (h2 b hb).p; omega⟩
  · rw [readA_err h]
    exact ⟨by simp, fun b hb => by cases hb⟩
theorem writeA_len (c : City) (l : List Band) : (writeA c l).1.length ≤ 2000 := by
  unfold writeA
  split
  · simp
  · rename_i h
    exact writeT_2000 (by simpa using h)
set_option maxHeartbeats 2000000 in
theorem rReadL_pc (Y : YEnv) (σ : Sg) (ct : City) (s : List UInt8) (hc : ct.Ok) (hs : 2000 < s.length) :
  PC Tryz.prog Y 14 [ctPV ct, txt s] σ (readPV (readA ct s)) (σ) := by
 refine PC_of_W Tryz.func14 rfl (by kernel_rfl) Tryz.ntmps14 (by simp) fun hcl hca => ?_
 refine W_seq fun kz1 kq1 => ?_
 refine W_region [1, 2] fun R hR => ?_
 simp only [go_sem]
 refine hR _ _ (kq1 _ _ ?_); clear hR R; try clear kq1 kz1
 try simp only [go_sem]
 refine W_seq fun kz2 kq2 => ?_
 refine W_seq fun kz3 kq3 => ?_
 refine W_region [1, 2, 7] fun R hR => ?_
 simp only [go_sem]
 refine GCall_of (rcheck_pc Y _ ct hc) ?_
 simp only [go_sem]
 refine hR _ _ (kq3 _ _ ?_); clear hR R; try clear kq3 kz3
 try simp only [go_sem]
 refine W_seq fun kz4 kq4 => ?_
 refine W_region [1, 2, 7, 19] fun R hR => ?_
 simp only [go_sem]
 refine hR _ _ (kq4 _ _ ?_); clear hR R; try clear kq4 kz4
 try simp only [go_sem]
 refine W_cond rfl (fun c1 => ?_) (fun c1 => ?_)
 ·
  try simp only [nrm] at c1
  have hres : readA ct s = ([], 0, chkCity ct) := by unfold readA; rw [if_pos (by simpa using c1)]
  refine W_seq fun kz5 kq5 => ?_
  refine W_region [4, 5, 6] fun R hR => ?_
  simp only [go_sem]
  refine hR _ _ (kq5 _ _ ?_); clear hR R; try clear kq5 kz5
  try simp only [go_sem]
  refine W_ret ?_
  simp only [go_sem]
  refine ⟨.inr (by trivial), ?_⟩
  refine Fin_same hcl rfl (Wk.ro (by simp only [go_sem]) ?_)
  try simp only [go_sem]
  all_goals
   first | (rw [hres]; done) | (rw [hres]; rfl)
 ·
  try simp only [nrm] at c1
  have hck : chkCity ct = 0 := by simpa using c1
  refine W_skip (kq2 _ _ ?_)
  refine W_seq fun kz6 kq6 => ?_
  refine W_seq fun kz7 kq7 => ?_
  refine W_region [1, 2, 23] fun R hR => ?_
  simp only [go_sem]
  refine hR _ _ (kq7 _ _ ?_); clear hR R; try clear kq7 kz7
  try simp only [go_sem]
  refine W_cond rfl (fun c2 => ?_) (fun c2 => ?_)
  ·
   try simp only [nrm] at c2
   have hres : readA ct s = ([], 0, 6) := by unfold readA; rw [if_neg (by simpa using hck), if_pos (by omega)]
   refine W_seq fun kz8 kq8 => ?_
   refine W_region [4, 5, 6] fun R hR => ?_
   simp only [go_sem]
   refine hR _ _ (kq8 _ _ ?_); clear hR R; try clear kq8 kz8
   try simp only [go_sem]
   refine W_ret ?_
   simp only [go_sem]
   refine ⟨.inr (by trivial), ?_⟩
   refine Fin_same hcl rfl (Wk.ro (by simp only [go_sem]) ?_)
   try simp only [go_sem]
   all_goals
    first | (rw [hres]; done) | (rw [hres]; rfl)
  ·
   try simp only [nrm] at c2
   exfalso
   omega
set_option maxHeartbeats 2000000 in
theorem ReadL_pc (Y : YEnv) (σ : Sg) (ct : City) (s : List UInt8) (hc : ct.Ok) (hs : 2000 < s.length) :
  PC Tryz.prog Y 13 [ctPV ct, txt s] σ (readPV (readA ct s)) (σ) := by
 refine PC_of_W Tryz.func13 rfl (by kernel_rfl) Tryz.ntmps13 (by simp) fun hcl hca => ?_
 refine W_seq fun kz1 kq1 => ?_
 refine W_region [1, 2, 4] fun R hR => ?_
 simp only [go_sem]
 refine hR _ _ (kq1 _ _ ?_); clear hR R; try clear kq1 kz1
 try simp only [go_sem]
 refine W_seq fun kz2 kq2 => ?_
 refine W_seq fun kz3 kq3 => ?_
 refine W_region [1, 2, 4, 7] fun R hR => ?_
 simp only [go_sem]
 refine GCall_of (bcheck_pc Y _ ct hc) ?_
 simp only [go_sem]
 refine hR _ _ (kq3 _ _ ?_); clear hR R; try clear kq3 kz3
 try simp only [go_sem]
 refine W_seq fun kz4 kq4 => ?_
 refine W_region [1, 2, 4, 7, 24] fun R hR => ?_
 simp only [go_sem]
 refine hR _ _ (kq4 _ _ ?_); clear hR R; try clear kq4 kz4
 try simp only [go_sem]
 refine W_cond rfl (fun c1 => ?_) (fun c1 => ?_)
 ·
  try simp only [nrm] at c1
  have hres : readA ct s = ([], 0, chkCity ct) := by unfold readA; rw [if_pos (by simpa using c1)]
  refine W_seq fun kz5 kq5 => ?_
  refine W_region [4, 5, 6] fun R hR => ?_
  simp only [go_sem]
  refine hR _ _ (kq5 _ _ ?_); clear hR R; try clear kq5 kz5
  try simp only [go_sem]
  refine W_ret ?_
  simp only [go_sem]
  refine ⟨.inr (by trivial), ?_⟩
  refine Fin_same hcl rfl (Wk.ro (by simp only [go_sem]) ?_)
  try simp only [go_sem]
  all_goals
   first | (rw [hres]; done) | (rw [hres]; rfl)
 ·
  try simp only [nrm] at c1
  have hck : chkCity ct = 0 := by simpa using c1
  refine W_skip (kq2 _ _ ?_)
  refine W_seq fun kz6 kq6 => ?_
  refine W_seq fun kz7 kq7 => ?_
  refine W_region [1, 2, 4, 28] fun R hR => ?_
  simp only [go_sem]
  refine hR _ _ (kq7 _ _ ?_); clear hR R; try clear kq7 kz7
  try simp only [go_sem]
  refine W_cond rfl (fun c2 => ?_) (fun c2 => ?_)
  ·
   try simp only [nrm] at c2
   have hres : readA ct s = ([], 0, 6) := by unfold readA; rw [if_neg (by simpa using hck), if_pos (by omega)]
   refine W_seq fun kz8 kq8 => ?_
   refine W_region [4, 5, 6] fun R hR => ?_
   simp only [go_sem]
   refine hR _ _ (kq8 _ _ ?_); clear hR R; try clear kq8 kz8
   try simp only [go_sem]
   refine W_ret ?_
   simp only [go_sem]
   refine ⟨.inr (by trivial), ?_⟩
   refine Fin_same hcl rfl (Wk.ro (by simp only [go_sem]) ?_)
   try simp only [go_sem]
   all_goals
    first | (rw [hres]; done) | (rw [hres]; rfl)
  ·
   try simp only [nrm] at c2
   exfalso
   omega
theorem rReadA_pc (Y : YEnv) (σ : Sg) (ct : City) (s : List UInt8) (hc : ct.Ok) : PC Tryz.prog Y 14 [ctPV ct, txt s] σ (readPV (readA ct s)) σ := by
  by_cases h : 2000 < s.length
  · exact rReadL_pc Y σ ct s hc h
  · exact rRead_pc Y σ ct s hc (by omega)
theorem ReadA_pc (Y : YEnv) (σ : Sg) (ct : City) (s : List UInt8) (hc : ct.Ok) : PC Tryz.prog Y 13 [ctPV ct, txt s] σ (readPV (readA ct s)) σ := by
  by_cases h : 2000 < s.length
  · exact ReadL_pc Y σ ct s hc h
  · exact Read_pc Y σ ct s hc (by omega)
end Go.Proofs.YteklodljdndcoaaGreatDoor
namespace Go.Proofs.YteklodljdndcoaaGreatDoor
open Go Go.RowKit
set_option maxRecDepth 100000
set_option maxHeartbeats 8000000 in
theorem BandPapers_pc (Y : YEnv) (σ : Sg) (c : City) (l : List Band) (s : List UInt8) (nums : List Int) (at' how by' : Int) (hc : c.In) (hl : BandsIn l) (hn : nums.length < 2 ^ 60) (h1 : -9223372036854775808 ≤ at') (h2 : at' ≤ 9223372036854775807) (h3 : -9223372036854775808 ≤ how) (h4 : how ≤ 9223372036854775807) :
  PC Tryz.prog Y 3 [ctPV c, bands l, txt s, ints nums, I at', I how, .int .u8 by'] σ (.bool true) (σ) := by
 refine PC_of_W Tryz.func3 rfl (by kernel_rfl) Tryz.ntmps3 (by simp) fun hcl hca => ?_
 obtain ⟨b0, hb0⟩ : ∃ z, drumB nums 2685821657736338717 = z := ⟨_, rfl⟩
 have hl1 := hl.1
 have okl : BandsOk l := ⟨by omega, fun b hb => by have := hl.2 b hb; omega⟩
 obtain ⟨made, hmade⟩ : ∃ zz, (cityD b0).1 = zz := ⟨_, rfl⟩
 obtain ⟨b1, hb1⟩ : ∃ zz, (cityD b0).2 = zz := ⟨_, rfl⟩
 obtain ⟨sm, hsm⟩ : ∃ zz, (bandsD made 5 b1).1 = zz := ⟨_, rfl⟩
 obtain ⟨b2, hb2⟩ : ∃ zz, (bandsD made 5 b1).2 = zz := ⟨_, rfl⟩
 have vmade : CityV made := by rw [← hmade]; exact cityD_ok b0
 have vsm : sm.length ≤ 5 ∧ ∀ b, b ∈ sm → BandV made b := by rw [← hsm]; exact bandsD_ok vmade 5 b1
 have oks : BandsOk sm := BandV.okl vsm.2 (by omega)
 refine W_seq fun kz1 kq1 => ?_
 refine W_region [1, 2, 3, 4, 5, 6, 7] fun R hR => ?_
 simp only [go_sem, hb0, hmade, hb1, hsm, hb2]
 refine hR _ _ (kq1 _ _ ?_); clear hR R; try clear kq1 kz1
 try simp only [go_sem, hb0, hmade, hb1, hsm, hb2]
 refine W_seq fun kz2 kq2 => ?_
 refine W_seq fun kz3 kq3 => ?_
 refine W_regionJ [1, 2, 3, 4, 5, 6, 7, 45] [(45, .bool (wideB c l || (decide ((1000 : Int) < s.length) && decide ((s.length : Int) ≤ 2000))))] ?_ fun R hR => ?_
 ·refine kq3 _ _ ?_
  simp only [go_sem, hb0, hmade, hb1, hsm, hb2]
  refine W_cond rfl (fun c1 => ?_) (fun c1 => ?_)
  ·
   try simp only [nrm] at c1
   refine W_seq fun kz4 kq4 => ?_
   refine W_region [14] fun R hR => ?_
   simp only [go_sem, hb0, hmade, hb1, hsm, hb2]
   refine GCall_of (lawake_pc Y _) ?_
   simp only [go_sem, hb0, hmade, hb1, hsm, hb2]
   refine hR _ _ (kq4 _ _ ?_); clear hR R; try clear kq4 kz4
   try simp only [go_sem, hb0, hmade, hb1, hsm, hb2]
   refine W_ret ?_
   simp only [go_sem, hb0, hmade, hb1, hsm, hb2]
   refine ⟨.inr (by trivial), ?_⟩
   first | refine Fin_same hcl rfl (Wk_eq ?_ (by simp only [go_sem])) | refine Fin_self hcl rfl (Wk_eq ?_ (by simp only [go_sem]))
   try simp only [go_sem]
   all_goals
    first | rfl | (simp_all; done) | (simp_all; omega)
  ·
   try simp only [nrm] at c1
   refine W_skip (kq2 _ _ ?_)
   refine W_seq fun kz5 kq5 => ?_
   refine W_region [1, 2, 4, 5, 6, 7, 15] fun R hR => ?_
   simp only [go_sem, hb0, hmade, hb1, hsm, hb2]
   refine GCall_of (DrumOf_pc Y _ nums hn) ?_
   simp only [go_sem, hb0, hmade, hb1, hsm, hb2]
   refine hR _ _ (kq5 _ _ ?_); clear hR R; try clear kq5 kz5
   try simp only [go_sem, hb0, hmade, hb1, hsm, hb2]
   refine W_seq fun kz6 kq6 => ?_
   refine W_region [1, 2, 4, 5, 6, 7, 15, 16] fun R hR => ?_
   simp only [go_sem, hb0, hmade, hb1, hsm, hb2]
   refine GCall_of (CityOf_pc Y _ _ _ (Sg.get_ext _ _ _ _ 1)) ?_
   simp only [go_sem, hb0, hmade, hb1, hsm, hb2]
   refine hR _ _ (kq6 _ _ ?_); clear hR R; try clear kq6 kz6
   try simp only [go_sem, hb0, hmade, hb1, hsm, hb2]
   refine W_seq fun kz7 kq7 => ?_
   refine W_draw [2, 4, 5, 6, 7, 16, 17, 18] [0, 1, 2, 3, 4, 5, 6, 7, 8, 9] [(0, 10), (1, 10), (2, 10), (3, 10)] [[], [], [0, 1], [], [], [], [4, 5], [3, 4, 5, 6], [0, 1, 2, 4, 5, 6], [0, 1, 2, 3, 4, 5, 6, 7, 8]] mixed (by kernel_rfl) fun R hR => ?_
   simp only [go_sem, hb0, hmade, hb1, hsm, hb2]
   refine GCall_of (BandsOf_pc Y _ _ _ (Sg.get_ext _ _ _ _ 1) made 5 vmade.small.hr vmade.small.hs (by omega) (by omega)) ?_
   simp only [go_sem, hb0, hmade, hb1, hsm, hb2]
   try refine And.intro (by repeat' (first | refine And.intro ?_ ?_ | exact trivial | exact GOr_right (fun _ => by simp only [go_sem, hb0, hmade, hb1, hsm, hb2]))) ?_
   refine hR _ _ (kq7 _ _ ?_); clear hR R; try clear kq7 kz7
   try simp only [go_sem, hb0, hmade, hb1, hsm, hb2]
   refine W_seq fun kz8 kq8 => ?_
   refine W_region [2, 4, 5, 6, 7, 16, 17, 18, 19] fun R hR => ?_
   simp only [go_sem, hb0, hmade, hb1, hsm, hb2]
   refine hR _ _ (kq8 _ _ ?_); clear hR R; try clear kq8 kz8
   try simp only [go_sem, hb0, hmade, hb1, hsm, hb2]
   refine W_seq fun kz9 kq9 => ?_
   refine W_seq fun kz10 kq10 => ?_
   refine W_region [2, 4, 5, 6, 7, 16, 17, 18, 19, 20] fun R hR => ?_
   simp only [go_sem, hb0, hmade, hb1, hsm, hb2]
   refine hR _ _ (kq10 _ _ ?_); clear hR R; try clear kq10 kz10
   try simp only [go_sem, hb0, hmade, hb1, hsm, hb2]
   refine W_block ?_
   obtain ⟨cs, hcs⟩ : ∃ z, z = [c, made] := ⟨_, rfl⟩
   obtain ⟨lss, hls⟩ : ∃ z, z = [l, sm] := ⟨_, rfl⟩
   refine W_weak (Weak.eq (E' := [(2, txt s), (4, I at'), (5, I how), (6, .int .u8 by'), (7, .ptr σ.store.length 0), (16, .ptr (σ.store.length + 2) 0), (17, .isl (cs.map ctPV) .exact), (18, .isl (lss.map bsPV) .exact), (19, txt []), (20, I 0)]) (by rw [hcs, hls]; simp only [List.map_cons, List.map_nil, bsPV]; rfl) rfl) ?_
   have lc : cs.length = 2 := by rw [hcs]; rfl
   have ll : lss.length = 2 := by rw [hls]; rfl
   have hfc : ∀ z, z ∈ cs → z.Ok := fun z hz => by
    rw [hcs] at hz; simp only [List.mem_cons, List.not_mem_nil, or_false] at hz
    rcases hz with rfl | rfl
    ·exact hc.okc
    ·exact vmade.few.okc
   have hfl : ∀ z, z ∈ lss → BandsOk z := fun z hz => by
    rw [hls] at hz; simp only [List.mem_cons, List.not_mem_nil, or_false] at hz
    rcases hz with rfl | rfl
    ·exact okl
    ·exact oks
   clear hcs hls
   refine W_loopS (α := Nat × (List UInt8)) (fun ⟨i, last⟩ => [(19, txt last), (20, I i)]) (fun ⟨i, last⟩ => i ≤ 2 ∧ last.length ≤ 2000) (fun ⟨i, last⟩ => 2 - i) ((0, [])) rfl (⟨Nat.zero_le _, by simp⟩) ?_
   rintro ⟨i, last⟩ ⟨hi, hll⟩
   refine W_seq fun kz11 kq11 => ?_
   refine W_seq fun kz12 kq12 => ?_
   refine W_region [2, 4, 5, 6, 7, 16, 17, 18, 19, 20, 62] fun R hR => ?_
   simp only [go_sem, hb0, hmade, hb1, hsm, hb2]
   refine hR _ _ (kq12 _ _ ?_); clear hR R; try clear kq12 kz12
   try simp only [go_sem, hb0, hmade, hb1, hsm, hb2]
   refine W_cond rfl (fun c2 => ?_) (fun c2 => ?_)
   ·
    try simp only [nrm] at c2
    have hi' : i < 2 := by first | assumption | omega
    obtain ⟨c1', hx1⟩ : ∃ z, cs[i]? = some z := ⟨cs[i]'(by rw [lc]; exact hi'), by simp⟩
    obtain ⟨l1', hx2⟩ : ∃ z, lss[i]? = some z := ⟨lss[i]'(by rw [ll]; exact hi'), by simp⟩
    have fc := hfc _ (List.mem_of_getElem? hx1)
    have fl := hfl _ (List.mem_of_getElem? hx2)
    obtain ⟨ws, hws⟩ : ∃ z, (writeA c1' l1').1 = z := ⟨_, rfl⟩
    obtain ⟨we, hwe⟩ : ∃ z, (writeA c1' l1').2 = z := ⟨_, rfl⟩
    have hwl := writeA_len c1' l1'
    rw [hws] at hwl
    refine W_skip (kq11 _ _ ?_)
    refine W_seq fun kz13 kq13 => ?_
    refine W_block ?_
    refine W_seq fun kz14 kq14 => ?_
    refine W_draw [2, 4, 5, 6, 7, 16, 17, 18, 20, 21, 22] [0, 1, 2, 3, 4, 5, 6, 7, 8, 9, 10, 11, 12, 13] [] [[], [], [0, 1], [0, 1, 2], [], [], [4, 5], [4, 5, 6], [0, 1, 2, 3, 4, 5, 6, 7], [0, 1, 2, 3, 4, 5, 6, 7, 8], [0, 1, 2, 3, 4, 5, 6, 7, 8, 9], [0, 1, 2, 3, 4, 5, 6, 7, 8, 9], [0, 1, 2, 3, 4, 5, 6, 7, 8, 9, 10], [0, 1, 2, 3, 4, 5, 6, 7, 8, 9, 10, 11, 12]] mixed (by kernel_rfl) fun R hR => ?_
    simp only [go_sem, hb0, hmade, hb1, hsm, hb2, hx1, hx2]
    refine GCall_of (PC.val (v' := .tuple [txt ws, I we]) (Write_pc Y _ c1' l1' fc fl) (by rw [hws, hwe])) ?_
    simp only [go_sem, hb0, hmade, hb1, hsm, hb2, hx1, hx2]
    try refine And.intro (by repeat' (first | refine And.intro ?_ ?_ | exact trivial | exact GOr_right (fun _ => by simp only [go_sem, hb0, hmade, hb1, hsm, hb2, hx1, hx2]))) ?_
    refine hR _ _ (kq14 _ _ ?_); clear hR R; try clear kq14 kz14
    try simp only [go_sem, hb0, hmade, hb1, hsm, hb2, hx1, hx2]
    refine W_seq fun kz15 kq15 => ?_
    refine W_draw [2, 4, 5, 6, 7, 16, 17, 18, 20, 21, 22, 23, 24] [0, 1, 2, 3, 4, 5, 6, 7, 8, 9, 10, 11, 12, 13] [] [[], [], [0, 1], [0, 1, 2], [], [], [4, 5], [4, 5, 6], [0, 1, 2, 3, 4, 5, 6, 7], [0, 1, 2, 3, 4, 5, 6, 7, 8], [0, 1, 2, 3, 4, 5, 6, 7, 8, 9], [0, 1, 2, 3, 4, 5, 6, 7, 8, 9], [0, 1, 2, 3, 4, 5, 6, 7, 8, 9, 10], [0, 1, 2, 3, 4, 5, 6, 7, 8, 9, 10, 11, 12]] mixed (by kernel_rfl) fun R hR => ?_
    simp only [go_sem, hb0, hmade, hb1, hsm, hb2, hx1, hx2]
    refine GCall_of (PC.val (v' := .tuple [txt ws, I we]) (rWrite_pc Y _ c1' l1' fc fl) (by rw [hws, hwe])) ?_
    simp only [go_sem, hb0, hmade, hb1, hsm, hb2, hx1, hx2]
    try refine And.intro (by repeat' (first | refine And.intro ?_ ?_ | exact trivial | exact GOr_right (fun _ => by simp only [go_sem, hb0, hmade, hb1, hsm, hb2, hx1, hx2]))) ?_
    refine hR _ _ (kq15 _ _ ?_); clear hR R; try clear kq15 kz15
    try simp only [go_sem, hb0, hmade, hb1, hsm, hb2, hx1, hx2]
    refine W_seq fun kz16 kq16 => ?_
    refine W_seq fun kz17 kq17 => ?_
    refine W_region [2, 4, 5, 6, 7, 16, 17, 18, 20, 23, 96] fun R hR => ?_
    simp only [go_sem, hb0, hmade, hb1, hsm, hb2, hx1, hx2]
    refine hR _ _ (kq17 _ _ ?_); clear hR R; try clear kq17 kz17
    try simp only [go_sem, hb0, hmade, hb1, hsm, hb2, hx1, hx2]
    refine W_cond rfl (fun c3 => ?_) (fun c3 => ?_)
    ·
     try simp only [nrm] at c3
     exfalso
     simp at c3
    ·
     try simp only [nrm] at c3
     refine W_skip (kq16 _ _ ?_)
     refine W_region [2, 4, 5, 6, 7, 16, 17, 18, 19, 20] fun R hR => ?_
     simp only [go_sem, hb0, hmade, hb1, hsm, hb2, hx1, hx2]
     refine hR _ _ (kq13 _ _ ?_); clear hR R; try clear kq13 kz13
     try simp only [go_sem, hb0, hmade, hb1, hsm, hb2, hx1, hx2]
     refine W_region [2, 4, 5, 6, 7, 16, 17, 18, 19, 20] fun R hR => ?_
     simp only [go_sem, hb0, hmade, hb1, hsm, hb2, hx1, hx2]
     try simp (disch := (first | omega | (simp only [go_sem, List.length_append] <;> omega))) only [wrapI, wrapU, strAdd, slT, slTa, slTb]
     refine hR _ _ ?_; clear hR R
     try simp only [go_sem, hb0, hmade, hb1, hsm, hb2, hx1, hx2]
     refine ⟨(i + 1, ws), ?_, by (try simp only []); omega, ?_⟩
     ·first | exact Weak.refl | exact Weak.eq (by first | rfl | (simp only [go_sem]; done) | (simp only [go_sem]; rfl) | (simp [go_sem]; done) | (simp [go_sem]; omega)) (by first | rfl | (simp only [go_sem]; done) | (simp [go_sem]; done))
     ·try dsimp only
      exact ⟨by omega, hwl⟩
   ·
    try simp only [nrm] at c2
    refine W_exit ?_
    simp only [go_sem, hb0, hmade, hb1, hsm, hb2]
    refine kq9 _ _ ?_
    refine W_seq fun kz18 kq18 => ?_
    refine W_draw [17, 25] [0, 1, 2, 3, 4, 5, 6, 7, 8, 9, 10, 11, 12, 13, 14, 15] [(0, 16), (1, 16), (2, 16), (3, 16), (4, 16), (5, 16), (6, 16), (7, 16)] [[], [], [], [], [0, 1, 2, 3], [], [], [], [], [], [], [], [8, 9, 10, 11], [5, 6, 7, 8, 9, 10, 11, 12], [0, 1, 2, 3, 4, 8, 9, 10, 11, 12], [0, 1, 2, 3, 4, 5, 6, 7, 8, 9, 10, 11, 12, 13, 14]] mixed (by kernel_rfl) fun R hR => ?_
    simp only [go_sem, hb0, hmade, hb1, hsm, hb2]
    refine GCall_of (Blot_pc Y _ last at' how by' (by omega) h1 h2 h3 h4) ?_
    simp only [go_sem, hb0, hmade, hb1, hsm, hb2]
    try refine And.intro (by repeat' (first | refine And.intro ?_ ?_ | exact trivial | exact GOr_right (fun _ => by simp only [go_sem, hb0, hmade, hb1, hsm, hb2]))) ?_
    refine hR _ _ (kq18 _ _ ?_); clear hR R; try clear kq18 kz18
    try simp only [go_sem, hb0, hmade, hb1, hsm, hb2]
    refine W_seq fun kz19 kq19 => ?_
    refine W_seq fun kz20 kq20 => ?_
    refine W_region [17, 25, 26] fun R hR => ?_
    simp only [go_sem, hb0, hmade, hb1, hsm, hb2]
    refine hR _ _ (kq20 _ _ ?_); clear hR R; try clear kq20 kz20
    try simp only [go_sem, hb0, hmade, hb1, hsm, hb2]
    refine W_block ?_
    obtain ⟨cs2, hcs2⟩ : ∃ z, z = [c, made, made, made] := ⟨_, rfl⟩
    obtain ⟨bl, hbl⟩ : ∃ z, z = blotT last at' how by' := ⟨_, rfl⟩
    rw [← hbl]
    obtain ⟨ts, hts⟩ : ∃ z, z = [s, s, last, bl] := ⟨_, rfl⟩
    refine W_weak (Weak.eq (E' := [(17, .isl (cs2.map ctPV) .exact), (25, .isl (ts.map txt) .exact), (26, I 0)]) (by rw [hcs2, hts]; simp only [List.map_cons, List.map_nil]; rfl) rfl) ?_
    have lc2 : cs2.length = 4 := by rw [hcs2]; rfl
    have lt2 : ts.length = 4 := by rw [hts]; rfl
    have hfc2 : ∀ z, z ∈ cs2 → z.Ok := fun z hz => by
     rw [hcs2] at hz; simp only [List.mem_cons, List.not_mem_nil, or_false] at hz
     rcases hz with rfl | rfl | rfl | rfl
     ·exact hc.okc
     ·exact vmade.few.okc
     ·exact vmade.few.okc
     ·exact vmade.few.okc
    clear hcs2 hts hbl
    refine W_loopS (α := Nat) (fun (j : Nat) => [(26, I j)]) (fun (j : Nat) => j ≤ 4) (fun (j : Nat) => 4 - j) (0) rfl (Nat.zero_le _) ?_
    rintro j hj
    refine W_seq fun kz21 kq21 => ?_
    refine W_seq fun kz22 kq22 => ?_
    refine W_region [17, 25, 26, 115] fun R hR => ?_
    simp only [go_sem, hb0, hmade, hb1, hsm, hb2]
    refine hR _ _ (kq22 _ _ ?_); clear hR R; try clear kq22 kz22
    try simp only [go_sem, hb0, hmade, hb1, hsm, hb2]
    refine W_cond rfl (fun c4 => ?_) (fun c4 => ?_)
    ·
     try simp only [nrm] at c4
     have hj' : j < 4 := by first | assumption | omega
     obtain ⟨c1', hx1⟩ : ∃ z, cs2[j]? = some z := ⟨cs2[j]'(by rw [lc2]; exact hj'), by simp⟩
     obtain ⟨s1', hx2⟩ : ∃ z, ts[j]? = some z := ⟨ts[j]'(by rw [lt2]; exact hj'), by simp⟩
     have fc := hfc2 _ (List.mem_of_getElem? hx1)
     obtain ⟨x, hxa⟩ : ∃ z, (readA c1' s1').1 = z := ⟨_, rfl⟩
     obtain ⟨r, hra⟩ : ∃ z, (readA c1' s1').2.1 = z := ⟨_, rfl⟩
     obtain ⟨e, hea⟩ : ∃ z, (readA c1' s1').2.2 = z := ⟨_, rfl⟩
     have okx := readA_okb c1' s1'
     rw [hxa] at okx
     refine W_skip (kq21 _ _ ?_)
     refine W_seq fun kz23 kq23 => ?_
     refine W_block ?_
     refine W_seq fun kz24 kq24 => ?_
     refine W_draw [17, 25, 26, 27, 28, 29] [0, 1, 2, 3, 4, 5, 6, 7, 8, 9, 10, 11, 12, 13, 14, 15] [] [[], [], [0, 1], [0, 1, 2], [], [], [4, 5], [4, 5, 6], [0, 1, 2, 3, 4, 5, 6, 7], [0, 1, 2, 3, 4, 5, 6, 7, 8], [0, 1, 2, 3, 4, 5, 6, 7, 8, 9], [0, 1, 2, 3, 4, 5, 6, 7, 8, 9], [0, 1, 2, 3, 4, 5, 6, 7, 8, 9], [0, 1, 2, 3, 4, 5, 6, 7, 8, 9, 10], [0, 1, 2, 3, 4, 5, 6, 7, 8, 9, 10, 11, 13], [0, 1, 2, 3, 4, 5, 6, 7, 8, 9, 10, 11, 12, 13, 14]] mixed (by kernel_rfl) fun R hR => ?_
     simp only [go_sem, hb0, hmade, hb1, hsm, hb2, hx1, hx2]
     refine GCall_of (PC.val (v' := .tuple [bands x, I r, I e]) (ReadA_pc Y _ c1' s1' fc) (by rw [← hxa, ← hra, ← hea])) ?_
     simp only [go_sem, hb0, hmade, hb1, hsm, hb2, hx1, hx2]
     try refine And.intro (by repeat' (first | refine And.intro ?_ ?_ | exact trivial | exact GOr_right (fun _ => by simp only [go_sem, hb0, hmade, hb1, hsm, hb2, hx1, hx2]))) ?_
     refine hR _ _ (kq24 _ _ ?_); clear hR R; try clear kq24 kz24
     try simp only [go_sem, hb0, hmade, hb1, hsm, hb2, hx1, hx2]
     refine W_seq fun kz25 kq25 => ?_
     refine W_draw [17, 25, 26, 27, 28, 29, 30, 31, 32] [0, 1, 2, 3, 4, 5, 6, 7, 8, 9, 10, 11, 12, 13, 14, 15] [] [[], [], [0, 1], [0, 1, 2], [], [], [4, 5], [4, 5, 6], [0, 1, 2, 3, 4, 5, 6, 7], [0, 1, 2, 3, 4, 5, 6, 7, 8], [0, 1, 2, 3, 4, 5, 6, 7, 8, 9], [0, 1, 2, 3, 4, 5, 6, 7, 8, 9], [0, 1, 2, 3, 4, 5, 6, 7, 8, 9], [0, 1, 2, 3, 4, 5, 6, 7, 8, 9, 10], [0, 1, 2, 3, 4, 5, 6, 7, 8, 9, 10, 11, 13], [0, 1, 2, 3, 4, 5, 6, 7, 8, 9, 10, 11, 12, 13, 14]] mixed (by kernel_rfl) fun R hR => ?_
     simp only [go_sem, hb0, hmade, hb1, hsm, hb2, hx1, hx2]
     refine GCall_of (PC.val (v' := .tuple [bands x, I r, I e]) (rReadA_pc Y _ c1' s1' fc) (by rw [← hxa, ← hra, ← hea])) ?_
     simp only [go_sem, hb0, hmade, hb1, hsm, hb2, hx1, hx2]
     try refine And.intro (by repeat' (first | refine And.intro ?_ ?_ | exact trivial | exact GOr_right (fun _ => by simp only [go_sem, hb0, hmade, hb1, hsm, hb2, hx1, hx2]))) ?_
     refine hR _ _ (kq25 _ _ ?_); clear hR R; try clear kq25 kz25
     try simp only [go_sem, hb0, hmade, hb1, hsm, hb2, hx1, hx2]
     refine W_seq fun kz26 kq26 => ?_
     refine W_region [17, 25, 26, 157] fun R hR => ?_
     simp only [go_sem, hb0, hmade, hb1, hsm, hb2, hx1, hx2]
     refine GCall_of (EqBands_pc Y _ x okx) ?_
     simp only [go_sem, hb0, hmade, hb1, hsm, hb2, hx1, hx2]
     refine hR _ _ (kq26 _ _ ?_); clear hR R; try clear kq26 kz26
     try simp only [go_sem, hb0, hmade, hb1, hsm, hb2, hx1, hx2]
     refine W_cond rfl (fun c5 => ?_) (fun c5 => ?_)
     ·
      try simp only [nrm] at c5
      exfalso
      simp at c5
     ·
      try simp only [nrm] at c5
      refine W_skip (kq23 _ _ ?_)
      refine W_region [17, 25, 26] fun R hR => ?_
      simp only [go_sem, hb0, hmade, hb1, hsm, hb2, hx1, hx2]
      try simp (disch := (first | omega | (simp only [go_sem, List.length_append] <;> omega))) only [wrapI, wrapU, strAdd, slT, slTa, slTb]
      refine hR _ _ ?_; clear hR R
      try simp only [go_sem, hb0, hmade, hb1, hsm, hb2, hx1, hx2]
      refine ⟨j + 1, ?_, by (try simp only []); omega, ?_⟩
      ·first | exact Weak.refl | exact Weak.eq (by first | rfl | (simp only [go_sem]; done) | (simp only [go_sem]; rfl) | (simp [go_sem]; done) | (simp [go_sem]; omega)) (by first | rfl | (simp only [go_sem]; done) | (simp [go_sem]; done))
      ·try dsimp only
       omega
    ·
     try simp only [nrm] at c4
     refine W_exit ?_
     simp only [go_sem, hb0, hmade, hb1, hsm, hb2]
     refine kq19 _ _ ?_
     refine W_seq fun kz27 kq27 => ?_
     refine W_region [14] fun R hR => ?_
     simp only [go_sem, hb0, hmade, hb1, hsm, hb2]
     refine GCall_of (lawake_pc Y _) ?_
     simp only [go_sem, hb0, hmade, hb1, hsm, hb2]
     refine hR _ _ (kq27 _ _ ?_); clear hR R; try clear kq27 kz27
     try simp only [go_sem, hb0, hmade, hb1, hsm, hb2]
     refine W_ret ?_
     simp only [go_sem, hb0, hmade, hb1, hsm, hb2]
     refine ⟨.inr (by trivial), ?_⟩
     first | refine Fin_same hcl rfl (Wk_eq ?_ (by simp only [go_sem])) | refine Fin_self hcl rfl (Wk_eq ?_ (by simp only [go_sem]))
     try simp only [go_sem]
     all_goals
      first | rfl | (simp_all; done) | (simp_all; omega)
 ·simp only [go_sem, hb0, hmade, hb1, hsm, hb2]
  refine GCall_of (wide_pc Y _ c l hc.okc okl.1) ?_
  simp only [go_sem, hb0, hmade, hb1, hsm, hb2]
  refine GWant_split (fun g1 => ?_) (fun g1 => ?_)
  ·try simp only [Bool.not_eq_true', Bool.not_eq_false'] at g1
   have n1 := g1; try simp only [nrm] at n1
   simp only [go_sem, hb0, hmade, hb1, hsm, hb2, g1]
   refine GWant_split (fun g2 => ?_) (fun g2 => ?_)
   ·try simp only [Bool.not_eq_true', Bool.not_eq_false'] at g2
    have n2 := g2; try simp only [nrm] at n2
    simp only [go_sem, hb0, hmade, hb1, hsm, hb2, g1, g2]
    refine hR _ ?_
    all_goals try simp only [go_sem, hb0, hmade, hb1, hsm, hb2]
    all_goals
     first | rfl | (simp [*]; done) | (simp_all; done) | (simp_all; omega)
   ·try simp only [Bool.not_eq_true', Bool.not_eq_false'] at g2
    have n2 := g2; try simp only [nrm] at n2
    simp only [go_sem, hb0, hmade, hb1, hsm, hb2, g1, g2]
    refine hR _ ?_
    all_goals try simp only [go_sem, hb0, hmade, hb1, hsm, hb2]
    all_goals
     first | rfl | (simp [*]; done) | (simp_all; done) | (simp_all; omega)
  ·try simp only [Bool.not_eq_true', Bool.not_eq_false'] at g1
   have n1 := g1; try simp only [nrm] at n1
   simp only [go_sem, hb0, hmade, hb1, hsm, hb2, g1]
   refine hR _ ?_
   all_goals try simp only [go_sem, hb0, hmade, hb1, hsm, hb2]
   all_goals
    first | rfl | (simp [*]; done) | (simp_all; done) | (simp_all; omega)
end Go.Proofs.YteklodljdndcoaaGreatDoor
namespace Go.Proofs.YteklodljdndcoaaGreatDoor
open Go Go.RowKit
set_option maxRecDepth 100000
theorem knownErrSyntax {W : World} (h : laidMet Tryz.prog Rows.bandPapersRow.laid W) : ∃ t x, W.cell? ⟨0, 0, none⟩ = some (.iface t x) := by
  obtain ⟨g, t, cs, fuel, p, hg, ht, hv, hd⟩ := Lib.laidMet.reads h (n := "strconv.ErrSyntax") (d := Rows.laid_strconv_ErrSyntax) (by simp [Rows.bandPapersRow])
  obtain rfl := Option.some.inj ((show Tryz.prog.globalNamed "strconv.ErrSyntax" = some 0 by kernel_rfl).symm.trans hg)
  obtain rfl := Option.some.inj ((show (Tryz.prog.globals[0]?).map (·.type) = some 80 by kernel_rfl).symm.trans ht)
  obtain ⟨_, u, v, e1, _, _⟩ := iface_of_trod Tryz.underlying80 hd
  refine ⟨u, v, ?_⟩
  rw [World.var?_cell hg hv 0]
  have : cs.toList[0]? = some (.iface u v) := by rw [e1]; rfl
  simpa using this
theorem knownErrRange {W : World} (h : laidMet Tryz.prog Rows.bandPapersRow.laid W) : ∃ t x, W.cell? ⟨1, 0, none⟩ = some (.iface t x) := by
  obtain ⟨g, t, cs, fuel, p, hg, ht, hv, hd⟩ := Lib.laidMet.reads h (n := "strconv.ErrRange") (d := Rows.laid_strconv_ErrRange) (by simp [Rows.bandPapersRow])
  obtain rfl := Option.some.inj ((show Tryz.prog.globalNamed "strconv.ErrRange" = some 1 by kernel_rfl).symm.trans hg)
  obtain rfl := Option.some.inj ((show (Tryz.prog.globals[1]?).map (·.type) = some 80 by kernel_rfl).symm.trans ht)
  obtain ⟨_, u, v, e1, _, _⟩ := iface_of_trod Tryz.underlying80 hd
  refine ⟨u, v, ?_⟩
  rw [World.var?_cell hg hv 0]
  have : cs.toList[0]? = some (.iface u v) := by rw [e1]; rfl
  simpa using this
theorem knownMax {W : World} (hsh : W.ShapedOpen Tryz.prog) : ∃ m, W.cell? ⟨3, 0, none⟩ = some (.int .i64 m) :=
  cell_of_shapedOpen_int (P := Tryz.prog) (g := 3) (t := 3) (zero := #[.int .i64 0]) hsh (of_decide_eq_true (by kernel_rfl)) (by kernel_rfl) rfl (by kernel_rfl) (by kernel_rfl) Tryz.underlying3
/-- What the listed variables give. -/
theorem known (W : World) (hsh : W.ShapedOpen Tryz.prog) (h : laidMetH Tryz.prog Rows.bandPapersRow.laid W) : Known Tryz.prog W := by
  rw [MakeChecks.laidMetH_plain _ _ _ (by kernel_rfl)] at h
  have hg : Tryz.prog.globalNamed "internal/strconv.uint64pow10" = some 2 := by kernel_rfl
  have h2 := h.filter (fun x => x.1 == "internal/strconv.uint64pow10")
  rw [show (Rows.bandPapersRow.laid.filter fun x => x.1 == "internal/strconv.uint64pow10") = [("internal/strconv.uint64pow10", Lib.tabData .u64 Lib.pow10Tab)] by kernel_rfl] at h2
  obtain ⟨t, f, hh⟩ := known_tab (Lib.tabIs_of_head (t := 163) (e := 65) (n := 20) hg (by kernel_rfl) (by kernel_rfl) (by kernel_rfl) (by kernel_rfl) (by kernel_rfl) h2) hg
  have _ := hsh
  refine ⟨[(2, .whole pow10A)], fun b s hb => ?_, fun k hk => ?_, fun k hk => ?_, fun n hn k hk => ?_⟩
  · simp only [List.mem_singleton, Prod.mk.injEq] at hb
    obtain ⟨rfl, rfl⟩ := hb
    exact ⟨(Array.getElem?_eq_some_iff.1 hh).1, t, f, hh⟩
  · obtain rfl := Option.some.inj (hg.symm.trans hk)
    exact List.mem_singleton.2 rfl
  · obtain rfl := Option.some.inj ((show Tryz.prog.globalNamed "internal/bytealg.MaxLen" = some 3 by kernel_rfl).symm.trans hk)
    exact knownMax hsh
  · simp only [List.mem_cons, List.not_mem_nil, or_false] at hn
    rcases hn with rfl | rfl
    · obtain rfl := Option.some.inj ((show Tryz.prog.globalNamed "strconv.ErrSyntax" = some 0 by kernel_rfl).symm.trans hk)
      exact knownErrSyntax h
    · obtain rfl := Option.some.inj ((show Tryz.prog.globalNamed "strconv.ErrRange" = some 1 by kernel_rfl).symm.trans hk)
      exact knownErrRange h
theorem rdBandPapersArgs : All2 (fun t R => Rd Tryz.prog t R) Tryz.f3.params.toList [fun p => ∃ c : City, p = ctPV c ∧ citySz c, fun p => ∃ l : List Band, p = bands l ∧ l.length * 64 ≤ 140737488351232 ∧ ∀ b, b ∈ l → bandSz b, fun p => ∃ l : List UInt8, p = txt l, fun p => ∃ xs : List Int, p = ints xs ∧ xs.length * 8 ≤ 140737488351232, fun p => ∃ n : Int, p = I n ∧ -9223372036854775808 ≤ n ∧ n ≤ 9223372036854775807, fun p => ∃ n : Int, p = I n ∧ -9223372036854775808 ≤ n ∧ n ≤ 9223372036854775807, fun p => ∃ n : Int, p = .int .u8 n ∧ 0 ≤ n ∧ n ≤ 255] :=
  .cons rdCity (.cons rdBands (.cons rdTxt (.cons rdInts (.cons rdIntB (.cons rdIntB (.cons rdByte .nil))))))
set_option maxHeartbeats 4000000 in
theorem BandPapers_walk : ∀ qs, AllR [fun p => ∃ c : City, p = ctPV c ∧ citySz c, fun p => ∃ l : List Band, p = bands l ∧ l.length * 64 ≤ 140737488351232 ∧ ∀ b, b ∈ l → bandSz b, fun p => ∃ l : List UInt8, p = txt l, fun p => ∃ xs : List Int, p = ints xs ∧ xs.length * 8 ≤ 140737488351232, fun p => ∃ n : Int, p = I n ∧ -9223372036854775808 ≤ n ∧ n ≤ 9223372036854775807, fun p => ∃ n : Int, p = I n ∧ -9223372036854775808 ≤ n ∧ n ≤ 9223372036854775807, fun p => ∃ n : Int, p = .int .u8 n ∧ 0 ≤ n ∧ n ≤ 255] qs → ∃ σ', PC Tryz.prog noY 3 qs Sg.zero (.bool true) σ' := by
  intro qs hq
  obtain ⟨px0, qs, rfl, ⟨x0, hx0, sx0⟩, hq⟩ := allR_cons hq
  obtain ⟨px1, qs, rfl, ⟨x1, hx1, sx1, rx1⟩, hq⟩ := allR_cons hq
  obtain ⟨px2, qs, rfl, ⟨x2, hx2⟩, hq⟩ := allR_cons hq
  obtain ⟨px3, qs, rfl, ⟨x3, hx3, sx3⟩, hq⟩ := allR_cons hq
  obtain ⟨px4, qs, rfl, ⟨x4, hx4, sx4, rx4⟩, hq⟩ := allR_cons hq
  obtain ⟨px5, qs, rfl, ⟨x5, hx5, sx5, rx5⟩, hq⟩ := allR_cons hq
  obtain ⟨px6, qs, rfl, ⟨x6, hx6, sx6, rx6⟩, hq⟩ := allR_cons hq
  obtain rfl := allR_nil hq
  subst hx0 hx1 hx2 hx3 hx4 hx5 hx6
  exact ⟨_, BandPapers_pc noY _ x0 x1 x2 x3 x4 x5 x6 ⟨sx0.hr, sx0.hs, sx0.hg, sx0.hp, sx0.hsl⟩ ⟨sx1, rx1⟩ (by omega) sx4 rx4 sx5 rx5⟩
theorem BandPapers_lifted (os : Os) (started : os.Started) (H : Type) (enc : TypeId × Value → H) :
    ReturnsInHanded {} Tryz.checked os 3 .any (fun w args => (Rows.bandPapersSpec.pre enc Tryz.prog Tryz.f3 Rows.bandPapersRow.domain false w args ∧ laidMetH Tryz.prog Rows.bandPapersRow.laid w) ∧ sizedMet enc Tryz.prog Tryz.f3 (OpenSpec.ofChange Rows.bandPapersSpec) false w args)
      (Rows.bandPapersSpec.post enc Tryz.prog Tryz.f3 false true false false) :=
  law_laid (C := Tryz.checked) own started (by kernel_rfl) Tryz.func3 rfl laidOut (by kernel_rfl) rdBandPapersArgs rfl Tryz.underlying4
    (fun ds h => match ds, h with | [_, _, _, _, _, _, _], _ => rfl)
    (ChangeSpec.witness_shaped (enc := enc) (C := Tryz.checked) (os := os) (X := fun w _ => laidMetH Tryz.prog Rows.bandPapersRow.laid w) false (World.laidAll Tryz.prog os Rows.bandPapersRow.laid) #[Value.agg #[.slice none 0 0, .slice none 0 0, .slice none 0 0, .int .i64 0, .int .i64 0, .slice none 0 0], .slice none 0 0, .string .empty, .slice none 0 0, .int .i64 0, .int .i64 0, .int .u8 0] 8 (World.laidAll_os _ _ _)
      (World.shaped_of_ZipB (by kernel_rfl) (by kernel_rfl)) (by kernel_rfl) (by kernel_rfl) (by kernel_rfl)
      (by rw [MakeChecks.laidMetH_plain _ _ _ (by kernel_rfl)]; exact laidMet_laidAll _ (by kernel_rfl) (by kernel_rfl)))
    known BandPapers_walk
theorem BandPapers_row : Rows.BandPapersSaid :=
  OpenClaim.holds_of_wide 3 Tryz.f3 rfl rfl rfl rfl rfl rfl rfl ⟨rfl, rfl, rfl, rfl, rfl⟩ rfl rfl rfl rfl rfl (by kernel_rfl) Tryz.func3 (by kernel_rfl)
    (of_decide_eq_true (by kernel_rfl)) (by unfold Func.isWrapper; first | (rw [if_pos (by decide +kernel)]; kernel_rfl) | (rw [if_neg (by decide +kernel)]; exact ⟨rfl, rfl⟩))
    (fun os started H enc _ => BandPapers_lifted os started H enc)
theorem BandPapers_holds : Rows.BandPapersCardSaid :=
  Claim7.holds_tied_plain_at .later [] [.data, .data, .data, .data, .sentinel, .sentinel, .pinned] true (true, "994316ce5b2c2a013c0e22805ce6b389aa29ea4b4d778e3f752d42e2e1e3db5b") true
    BandPapers_row (fun _ h => by cases h) (by kernel_rfl) (fun _ h => by cases h) bandPapers_row_tie rfl ⟨rfl, rfl⟩ (by kernel_rfl) rfl
    (fun f fn hf hfn => by
      obtain rfl : f = 3 := Option.some.inj (hf.symm.trans (by kernel_rfl))
      obtain rfl : fn = Tryz.f3 := (Option.some.inj (Tryz.func3.symm.trans hfn)).symm
      refine ⟨by kernel_rfl, fun j t ht => ?_⟩
      have hall : (Tryz.f3.params.toList.all fun t => !(Tryz.prog.wantsStandIn t)) = true := by kernel_rfl
      have hm : t ∈ Tryz.f3.params.toList := Array.mem_toList_iff.2 (Array.mem_of_getElem? ht)
      show Tryz.prog.wantsStandIn t = false
      simpa using List.all_eq_true.1 hall t hm)
    (by kernel_rfl)
end Go.Proofs.YteklodljdndcoaaGreatDoor
