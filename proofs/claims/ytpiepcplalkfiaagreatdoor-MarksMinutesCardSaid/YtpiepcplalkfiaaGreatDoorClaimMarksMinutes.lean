/-
  The law MarksMinutes: whatever comes in, it answers true and leaves what came in as it was.
  The law MarksMinutes, walked: minutes as the document has them.
  What is read of minutes: nothing, or a night that may be.
  Walks: minutes of any length are read.
  Walk: minutes are read (the program's).
  Minutes read: which rows may follow, from what was read already.
  Walk: a row of minutes is parsed (the program's).
-/
import Derived.Test.YtpiepcplalkfiaaGreatDoorPf
import Derived.CallsIn
import Derived.RangeFuncLeaves
import Derived.RangeFuncRecord
import Derived.OrdersIn
import Derived.Below
import Derived.Laws.World
import Derived.Laws.StructEq
import Derived.Laws.BytesString
import Derived.Laws.Append
import Derived.MapKept
import Derived.ProofKit
import Derived.Carry
import Derived.Handed
import Derived.ChangeCalls
import Derived.Stop.Joined
import Derived.Lib.LaidTab
import Derived.Shelf.Strconv.Itoa3
import Derived.RangeFuncIn
import Derived.RangeFuncNested
import Derived.Test.YtpiepcplalkfiaaGreatDoorProg
import Derived.KernelRfl
import Derived.IntWalk
import Derived.Test.YtpiepcplalkfiaaGreatDoorRows
import Derived.Sort.OwnSortedInts
import Derived.Lib.SlicesCompact
import Derived.Shelf.Sort.Plain
import Derived.Shelf.Slices.In.SortNone
import Derived.Shelf.Small.Bits
import Derived.Shelf.Strings.Builder1
import Derived.Lib.SplitLaws
import Derived.Lib.AtoiAll
import Derived.Lib.ItoaNum
import Derived.Lib.IndexBytes
import Derived.Shelf.Strings.Split
import Derived.Shelf.Strconv.AtoiAll
import Derived.Lib.AtoiErrMem
import Derived.Lib.ItoaLen
import Derived.Lib.AtoiAllCases
import Derived.Test.YtpiepcplalkfiaaGreatDoorCards
import Derived.Test.YtpiepcplalkfiaaGreatDoorTie
import Derived.JoinedOf
import Derived.LaidMore
import Derived.LaidSub
import Derived.Lay
import Derived.SevenTiedAt
import Derived.Lib.LaidU8
import Derived.Shelf.Vars
set_option linter.unusedSimpArgs false
set_option linter.unusedVariables false
namespace Go.Proofs.YtpiepcplalkfiaaGreatDoor
open Go Go.RowKit
set_option maxRecDepth 100000
theorem nilErr {ok : Bool} : nilICmp Tryz.prog .eql 118 (errPV ok) = some (.bool ok) := by
 cases ok <;> (unfold nilICmp; rw [show Tryz.prog.underlying 118 = some (.interface _) from Tryz.underlying118]; rfl)
attribute [go_sem] nilErr
theorem atoiV_bd (w : List UInt8) : -9223372036854775808 ≤ atoiV w ∧ atoiV w ≤ 9223372036854775807 := by
 unfold atoiV
 split
 ·rename_i v h
  have := Lib.atoiAll_bounds h
  exact this
 ·exact Lib.atoiSat_bounds w
 omega
theorem numsE_all {k : Nat} (hk : k ≤ 18) : ∀ W : List (List UInt8), numsE k W = if W.all (wordOK k) = true then some (W.map atoiV) else none := by
 intro W
 induction W with
 | nil => rfl
 | cons w W ih =>
  obtain ⟨h1, h2⟩ := wordOK_num hk w
  simp only [numsE, List.all_cons, List.map_cons]
  cases hn : numE k w with
  | none =>
   rw [hn] at h1
   simp [h1]
  | some n =>
   rw [hn] at h1
   rw [ih, h2 n hn]
   simp only [h1, Option.isSome_some, Bool.true_and]
   split <;> simp_all
theorem nilErrN {ok : Bool} : nilICmp Tryz.prog .neq 118 (errPV ok) = some (.bool (!ok)) := by
 cases ok <;> (unfold nilICmp; rw [show Tryz.prog.underlying 118 = some (.interface _) from Tryz.underlying118]; rfl)
attribute [go_sem] nilErrN
set_option maxHeartbeats 4000000 in
theorem parse_pc (Y : YEnv) (σ : Sg) (s : List UInt8) (hs : s.length ≤ 2 ^ 30) :
 PC Tryz.prog Y 63 [txt s] σ (parsePV (parseE 6 s)) (σ) := by
 refine PC_of_W Tryz.func63 rfl (by kernel_rfl) Tryz.ntmps63 (by simp) fun hcl hca => ?_
 obtain ⟨ws, hws⟩ : ∃ z, splitL 32 s = z := ⟨_, rfl⟩
 have hwm2 : ∀ p, p ∈ ws → p.length ≤ 2 ^ 30 := fun p hp => by rw [← hws] at hp; have := splitL_mem hp; omega
 have hws1 : 1 ≤ ws.length := List.length_pos_iff.2 (by rw [← hws]; exact splitL_ne 32 s)
 have hws2 : ws.length ≤ 2 ^ 30 + 1 := by rw [← hws]; have := splitL_le (b := 32) (s := s); omega
 obtain ⟨w0, hx0⟩ : ∃ w, ws[0]? = some w := ⟨ws[0], by simp⟩
 obtain ⟨V, hV⟩ : ∃ z, ws.drop 1 = z := ⟨_, rfl⟩
 have hVm : ∀ p, p ∈ V → p.length ≤ 2 ^ 30 := fun p hp => by rw [← hV] at hp; exact hwm2 p (List.mem_of_mem_drop hp)
 have hVl : V.length ≤ 2 ^ 30 := by rw [← hV]; simp; omega
 have hso2 : sliceOwn .exact 1 ws.length ws.length = .exact := if_pos rfl
 have hpe := parseE_of (k := 6) hws hx0
 rw [tail_drop, hV, numsE_all (by omega)] at hpe
 refine W_sr [0] fun R hR => ?_
 simp only [go_sem]
 refine hR _ _ ?_; clear hR R
 try simp only [go_sem]
 refine W_sr [5] fun R hR => ?_
 simp only [go_sem]
 refine GCall_of (PC.val (v' := .isl (ws.map txt) .exact) (Split_pc Y _ s 32 (by omega)) (by rw [hws])) ?_
 simp only [go_sem]
 refine hR _ _ ?_; clear hR R
 try simp only [go_sem]
 refine W_sr [5, 6] fun R hR => ?_
 simp only [go_sem]
 refine hR _ _ ?_; clear hR R
 try simp only [go_sem]
 refine W_seq fun Z4 K4 => ?_
 refine W_sr [5, 6, 14, 15, 16] fun R hR => ?_
 simp only [go_sem, Int.reduceToNat, Int.reduceLE, hws1, ← List.map_drop, hso2, hV]
 try simp (disch := (first | omega | (simp only [go_sem, List.length_append] <;> omega))) only [wrapI, wrapU, strAdd, slT, slTa, slTb]
 refine hR _ _ ?_; clear hR R
 try simp only [go_sem]
 refine W_block ?_
 refine W_weak (Weak.room (t := 6) (es := 1) rfl (by simp)) ?_
 refine W_weak (Weak.keep [5, 6, 14, 15, 16]) ?_
 simp only [go_sem]
 refine W_loopT (α := Nat × (List Int)) (fun ⟨k, n⟩ => [(6, .isl (n.map I) (.tok σ.rooms.length n.length 1)), (16, I k)]) (fun ⟨k, n⟩ => σ.ext [] [n.length]) (fun ⟨k, n⟩ => k ≤ V.length ∧ n = (V.take k).map atoiV ∧ (V.take k).all (wordOK 6) = true) (fun ⟨k, n⟩ => V.length - k) ((0, [])) rfl (by first | rfl | (simp only [go_sem]; done) | (simp only [go_sem]; rfl)) (⟨Nat.zero_le _, rfl, by simp⟩) ?_
 rintro ⟨k, n⟩ ⟨hk, hn, hok⟩
 have hnl : n.length = k := by rw [hn]; simp; omega
 refine W_sr [5, 6, 14, 15, 16, 17] fun R hR => ?_
 simp only [go_sem]
 refine hR _ _ ?_; clear hR R
 try simp only [go_sem]
 refine W_seq fun Z7 K7 => ?_
 refine W_cond rfl (fun c1 => ?_) (fun c1 => ?_)
 ·
  try simp only [nrm] at c1
  have hi' : k < V.length := by first | omega | (simp at c1; omega)
  obtain ⟨w, hx⟩ : ∃ w, V[k]? = some w := ⟨V[k], by simp [hi']⟩
  have hdrop : V.drop k = w :: V.drop (k + 1) := by
   rw [List.drop_eq_getElem_cons hi']; congr 1; exact (List.getElem?_eq_some_iff.1 hx).2
  have hwl2 := hVm w (List.mem_of_getElem? hx)
  refine W_skip (K7 _ _ ?_)
  refine W_seq fun Z8 K8 => ?_
  refine W_block ?_
  refine W_sr [5, 6, 8, 14, 15, 16] fun R hR => ?_
  simp only [go_sem, hx]
  refine hR _ _ ?_; clear hR R
  try simp only [go_sem, hx]
  refine W_sr [5, 6, 8, 9, 10, 14, 15, 16] fun R hR => ?_
  simp only [go_sem, hx]
  refine GCall_of (Atoi_pc Y _ w (by omega)) ?_
  simp only [go_sem, hx]
  refine hR _ _ ?_; clear hR R
  try simp only [go_sem, hx]
  refine W_seq fun Z11 K11 => ?_
  refine W_seq fun Z12 K12 => ?_
  refine W_regionJ [5, 6, 9, 14, 15, 16, 41] [(41, .bool (!wordOK 6 w))] ?_ fun R hR => ?_
  ·refine K12 _ _ ?_
   simp only [go_sem, hx]
   refine W_cond rfl (fun c2 => ?_) (fun c2 => ?_)
   ·
    try simp only [nrm] at c2
    have hwok : wordOK 6 w = false := by simpa using c2
    have hall : V.all (wordOK 6) = false := by
     rw [List.all_eq_false]
     exact ⟨w, List.mem_of_getElem? hx, by simp [hwok]⟩
    rw [if_neg (by rw [hall]; simp)] at hpe
    refine W_sr [2, 3, 4] fun R hR => ?_
    simp only [go_sem, hx]
    refine hR _ _ ?_; clear hR R
    try simp only [go_sem, hx]
    rw [hpe]
    simp only [Option.map_none, parsePV]
    refine W_ret ?_
    simp only [go_sem, hx]
    refine ⟨.inr (by trivial), ?_⟩
    refine Fin_same hcl rfl (Wk.ro (by simp only [go_sem]) ?_)
    try simp only [go_sem]
    all_goals
     first | done | rfl
   try simp only [nrm] at c2
   have hwok : wordOK 6 w = true := by simpa using c2
   refine W_skip (K11 _ _ ?_)
   refine W_region [5, 6, 14, 15, 16] fun R hR => ?_
   simp only [go_sem, hx]
   try simp (disch := (first | omega | (simp only [go_sem, List.length_append] <;> omega))) only [wrapI, wrapU, appX_exact, appX_tok, strAdd, slT, slTa, slTb]
   try simp only [go_sem, hx]
   refine hR _ _ (K8 _ _ ?_); clear hR R; try clear K8 Z8
   try simp only [go_sem, hx]
   refine W_region [5, 6, 14, 15, 16] fun R hR => ?_
   simp only [go_sem, hx]
   try simp (disch := (first | omega | (simp only [go_sem, List.length_append] <;> omega))) only [wrapI, wrapU, strAdd, slT, slTa, slTb]
   refine hR _ _ ?_; clear hR R
   try simp only [go_sem, hx]
   refine ⟨(k + 1, n ++ [atoiV w]), ?_, by (try simp only []); omega, ?_⟩
   ·first | exact Weak.refl | exact Wqq
   try dsimp only
   refine ⟨by omega, ?_, ?_⟩
   ·rw [List.take_add_one, hx, hn]; simp
   rw [List.take_add_one, hx, List.all_append, hok]; simp [hwok]
  simp only [go_sem, hx]
  refine GWant_split (fun g1 => ?_) (fun g1 => ?_)
  ·try simp only [Bool.not_eq_true', Bool.not_eq_false'] at g1
   have n1 := g1; try simp only [nrm] at n1
   simp only [go_sem, hx, g1]
   refine GWant_split (fun g2 => ?_) (fun g2 => ?_)
   ·try simp only [Bool.not_eq_true', Bool.not_eq_false'] at g2
    have n2 := g2; try simp only [nrm] at n2
    simp only [go_sem, hx, g1, g2]
    refine GWant_split (fun g3 => ?_) (fun g3 => ?_)
    ·try simp only [Bool.not_eq_true', Bool.not_eq_false'] at g3
     have n3 := g3; try simp only [nrm] at n3
     simp only [go_sem, hx, g1, g2, g3]
     refine GCall_of (Itoa_pc Y _ (atoiV w) (atoiV_bd w).1 (atoiV_bd w).2) ?_
     simp only [go_sem, hx, g1, g2, g3]
     refine hR _ ?_
     all_goals try simp only [go_sem, hx]
     all_goals
      first | rfl | (clear hok hn; simp [wordOK, *]; done) | (clear hok hn; simp [wordOK, *]; intro hz; first | omega | (intro _; omega)) | (clear hok hn; simp_all [wordOK]; done) | (clear hok hn; simp_all [wordOK]; omega)
    try simp only [Bool.not_eq_true', Bool.not_eq_false'] at g3
    have n3 := g3; try simp only [nrm] at n3
    simp only [go_sem, hx, g1, g2, g3]
    refine hR _ ?_
    all_goals try simp only [go_sem, hx]
    all_goals
     first | rfl | (clear hok hn; simp [wordOK, *]; done) | (clear hok hn; simp [wordOK, *]; intro hz; first | omega | (intro _; omega)) | (clear hok hn; simp_all [wordOK]; done) | (clear hok hn; simp_all [wordOK]; omega)
   try simp only [Bool.not_eq_true', Bool.not_eq_false'] at g2
   have n2 := g2; try simp only [nrm] at n2
   simp only [go_sem, hx, g1, g2]
   refine hR _ ?_
   all_goals try simp only [go_sem, hx]
   all_goals
    first | rfl | (clear hok hn; simp [wordOK, *]; done) | (clear hok hn; simp [wordOK, *]; intro hz; first | omega | (intro _; omega)) | (clear hok hn; simp_all [wordOK]; done) | (clear hok hn; simp_all [wordOK]; omega)
  try simp only [Bool.not_eq_true', Bool.not_eq_false'] at g1
  have n1 := g1; try simp only [nrm] at n1
  simp only [go_sem, hx, g1]
  refine hR _ ?_
  all_goals try simp only [go_sem, hx]
  all_goals
   first | rfl | (clear hok hn; simp [wordOK, *]; done) | (clear hok hn; simp [wordOK, *]; intro hz; first | omega | (intro _; omega)) | (clear hok hn; simp_all [wordOK]; done) | (clear hok hn; simp_all [wordOK]; omega)
 try simp only [nrm] at c1
 have hke : k = V.length := by first | omega | (simp at c1; omega)
 rw [hke, List.take_length] at hn hok
 rw [if_pos hok, ← hn] at hpe
 refine W_exit ?_
 simp only [go_sem]
 refine K4 _ _ ?_
 refine W_sr [2, 3, 4] fun R hR => ?_
 simp only [go_sem, hx0, Int.toNat_zero, Int.le_refl]
 refine hR _ _ ?_; clear hR R
 try simp only [go_sem]
 rw [hpe]
 simp only [Option.map_some, parsePV]
 refine W_ret ?_
 simp only [go_sem]
 refine ⟨.inr (by trivial), ?_⟩
 refine Fin_same hcl rfl (Wk.ro (by simp only [go_sem]) ?_)
 try simp only [go_sem]
 all_goals
  first | done | rfl
/-- The kind of the last row, out of what was read. -/
def kindM (i : Nat) (g : Night) (ended : Bool) : Int :=
 if i = 0 then -1 else if i = 1 then 0 else if ended = true then 5 else if g.fines ≠ [] then 4 else if g.absent ≠ [] then 3 else if g.opened ≠ [] then 2 else 1
theorem kindM_end {i : Nat} {g : Night} (h : 2 ≤ i) : kindM i g true = 5 := by
 unfold kindM
 rw [if_neg (by omega), if_neg (by omega), if_pos rfl]
theorem kindM_bd {i : Nat} {g : Night} (h : 2 ≤ i) : 1 ≤ kindM i g false ∧ kindM i g false ≤ 4 := by
 unfold kindM
 rw [if_neg (by omega), if_neg (by omega), if_neg (by simp)]
 repeat' split
 all_goals omega
theorem kindM_two {i : Nat} {g : Night} (h : 2 ≤ i) : kindM i g false ≤ 2 ↔ g.absent = [] ∧ g.fines = [] := by
 unfold kindM
 rw [if_neg (by omega), if_neg (by omega), if_neg (by simp)]
 repeat' split
 all_goals simp_all
theorem kindM_three {i : Nat} {g : Night} (h : 2 ≤ i) : kindM i g false ≤ 3 ↔ g.fines = [] := by
 unfold kindM
 rw [if_neg (by omega), if_neg (by omega), if_neg (by simp)]
 repeat' split
 all_goals simp_all
theorem take_eq (s : Scale) (g : Night) (k : Int) (w : List UInt8) (l : List Int) : takeM (s, g, k) w l =
 if k = -1 ∧ w = scaleW ∧ l.length = 6 then some (mkSc s l, g, 0)
 else if k = 0 ∧ w = orderW then some ({ s with order := l }, g, 1)
 else if 1 ≤ k ∧ k ≤ 2 ∧ w = marksW ∧ 3 ≤ l.length then some (s, { g with opened := g.opened ++ [mkEv l] }, 2)
 else if 1 ≤ k ∧ k ≤ 3 ∧ w = absentW ∧ l.length = 2 then some (s, { g with absent := g.absent ++ [mkPr l] }, 3)
 else if 1 ≤ k ∧ k ≤ 4 ∧ w = fineW ∧ l.length = 2 then some (s, { g with fines := g.fines ++ [mkPr l] }, 4)
 else if 1 ≤ k ∧ k ≤ 4 ∧ w = endW ∧ l.length = 1 ∧ l.getD 0 0 = (g.opened.length : Int) then some (s, g, 5)
 else none := rfl
section
variable {s : Scale} {g : Night} {w : List UInt8} {l : List Int} {i : Nat}
theorem take_ended (h : 2 ≤ i) : takeM (s, g, kindM i g true) w l = none := by
 rw [take_eq, kindM_end h]
 simp
theorem take_zero {e : Bool} : takeM (s, g, kindM 0 g e) w l = if w = scaleW ∧ l.length = 6 then some (mkSc s l, g, 0) else none := by
 rw [take_eq, show kindM 0 g e = -1 from rfl]
 simp
theorem take_one {e : Bool} : takeM (s, g, kindM 1 g e) w l = if w = orderW then some ({ s with order := l }, g, 1) else none := by
 rw [take_eq, show kindM 1 g e = 0 from rfl]
 simp
theorem take_more (h : 2 ≤ i) : takeM (s, g, kindM i g false) w l =
 if w = marksW ∧ 3 ≤ l.length ∧ g.absent = [] ∧ g.fines = [] then some (s, { g with opened := g.opened ++ [mkEv l] }, 2)
 else if w = absentW ∧ l.length = 2 ∧ g.fines = [] then some (s, { g with absent := g.absent ++ [mkPr l] }, 3)
 else if w = fineW ∧ l.length = 2 then some (s, { g with fines := g.fines ++ [mkPr l] }, 4)
 else if w = endW ∧ l.length = 1 ∧ l.getD 0 0 = (g.opened.length : Int) then some (s, g, 5)
 else none := by
 have h1 := kindM_bd (g := g) h
 have h2 := kindM_two (g := g) h
 have h3 := kindM_three (g := g) h
 rw [take_eq]
 generalize kindM i g false = k at *
 rw [if_neg (by omega), if_neg (by omega)]
 have e1 : (1 ≤ k ∧ k ≤ 2 ∧ w = marksW ∧ 3 ≤ l.length) ↔ (w = marksW ∧ 3 ≤ l.length ∧ g.absent = [] ∧ g.fines = []) := by rw [h2]; constructor <;> (intro q; simp_all)
 have e2 : (1 ≤ k ∧ k ≤ 3 ∧ w = absentW ∧ l.length = 2) ↔ (w = absentW ∧ l.length = 2 ∧ g.fines = []) := by rw [h3]; constructor <;> (intro q; simp_all)
 have e3 : (1 ≤ k ∧ k ≤ 4 ∧ w = fineW ∧ l.length = 2) ↔ (w = fineW ∧ l.length = 2) := ⟨fun q => q.2.2, fun q => ⟨h1.1, h1.2, q⟩⟩
 have e4 : (1 ≤ k ∧ k ≤ 4 ∧ w = endW ∧ l.length = 1 ∧ l.getD 0 0 = (g.opened.length : Int)) ↔ (w = endW ∧ l.length = 1 ∧ l.getD 0 0 = (g.opened.length : Int)) := ⟨fun q => q.2.2, fun q => ⟨h1.1, h1.2, q⟩⟩
 simp only [e1, e2, e3, e4]
theorem take_bad {ended : Bool} (he : ended = true → 3 ≤ i) (h : ended = true ∨ ¬ (w = scaleW ↔ i = 0) ∨ ¬ (w = orderW ↔ i = 1)) : takeM (s, g, kindM i g ended) w l = none := by
 cases ended with
 | true => exact take_ended (by have := he rfl; omega)
 | false =>
  have h : ¬ (w = scaleW ↔ i = 0) ∨ ¬ (w = orderW ↔ i = 1) := by simpa using h
  rcases (by omega : i = 0 ∨ i = 1 ∨ 2 ≤ i) with h0 | h0 | h0
  ·subst h0
   rw [take_zero, if_neg]
   rintro ⟨rfl, _⟩
   rcases h with h | h
   ·exact h ⟨fun _ => rfl, fun _ => rfl⟩
   exact h ⟨fun e => by revert e; decide, fun e => by omega⟩
  ·subst h0
   rw [take_one, if_neg]
   rintro rfl
   rcases h with h | h
   ·exact h ⟨fun e => by revert e; decide, fun e => by omega⟩
   exact h ⟨fun _ => rfl, fun _ => rfl⟩
  have hw : w = scaleW ∨ w = orderW := by
   rcases h with h | h
   ·by_cases e : w = scaleW
    ·exact .inl e
    exact absurd ⟨fun q => absurd q e, fun q => by omega⟩ h
   by_cases e : w = orderW
   ·exact .inr e
   exact absurd ⟨fun q => absurd q e, fun q => by omega⟩ h
  rw [take_more h0]
  rcases hw with rfl | rfl <;> simp [scaleW, orderW, marksW, absentW, fineW, endW]
end
theorem eqbool2 {a b : Bool} : eqPV Tryz.prog 4 (.bool a) (.bool b) = some (a == b) := by cases a <;> cases b <;> kernel_rfl
attribute [go_sem] eqbool2
abbrev rdP (σ : Sg) (s : Scale) (g : Night) : Sg := σ.ext [some (scCells s), some (nsC σ g)] [g.opened.length, g.absent.length, g.fines.length]
set_option maxHeartbeats 16000000 in
theorem Read_pc (Y : YEnv) (σ : Sg) (s : List UInt8) (hs : s.length ≤ 2 ^ 30) :
 PC Tryz.prog Y 28 [txt s] σ (ansPV (readM s)) (σ) := by
 refine PC_of_W Tryz.func28 rfl (by kernel_rfl) Tryz.ntmps28 (by simp) fun hcl hca => ?_
 obtain ⟨rows, hrw⟩ : ∃ z, splitL 10 s = z := ⟨_, rfl⟩
 have hwm : ∀ p, p ∈ rows → p.length ≤ 2 ^ 30 := fun p hp => by rw [← hrw] at hp; have := splitL_mem hp; omega
 have hwn : rows ≠ [] := by rw [← hrw]; exact splitL_ne 10 s
 have hwl : 0 < rows.length := List.length_pos_iff.2 hwn
 have hw40 : rows.length ≤ 2 ^ 30 + 1 := by rw [← hrw]; have := splitL_le (b := 10) (s := s); omega
 obtain ⟨xl, hxl⟩ : ∃ w, rows[rows.length - 1]? = some w := ⟨rows[rows.length - 1], by simp [hwl]⟩
 obtain ⟨R, hR0⟩ : ∃ z, rows.take (rows.length - 1) = z := ⟨_, rfl⟩
 have hRl : R.length = rows.length - 1 := by rw [← hR0]; simp
 have hlast : rows[((rows.length : Int) - 1).toNat]? = some xl := by rw [show ((rows.length : Int) - 1).toNat = rows.length - 1 by omega]; exact hxl
 have hposl : (0 ≤ (rows.length : Int) - 1) = True := by simp; omega
 have hRr : ∀ (k : Nat) (x : List UInt8), R[k]? = some x → rows[k]? = some x := fun k x h => by rw [← hR0] at h; rw [List.getElem?_take] at h; split at h <;> first | exact h | cases h
 have htn : ((rows.length : Int) - 1).toNat = rows.length - 1 := by omega
 have hlel : rows.length - 1 ≤ rows.length := by omega
 have hso : sliceOwn .exact 0 (rows.length - 1) rows.length = .ro := if_neg (by omega)
 refine W_sr [0, 2, 3] fun R hR => ?_
 simp only [go_sem]
 refine hR _ _ ?_; clear hR R
 try simp only [go_sem]
 refine W_scope ?_
 refine W_seq fun Z2 K2 => ?_
 refine W_sr [0, 2, 3, 18] fun R hR => ?_
 simp only [go_sem]
 refine hR _ _ ?_; clear hR R
 try simp only [go_sem]
 refine W_cond rfl (fun c1 => ?_) (fun c1 => ?_)
 ·
  try simp only [nrm] at c1
  have hres : readM s = (sc0, ng0, 0, 6) := by unfold readM; rw [if_pos (by omega)]
  refine W_sr [2, 3, 4, 5] fun R hR => ?_
  simp only [go_sem]
  refine hR _ _ ?_; clear hR R
  try simp only [go_sem]
  refine W_ret ?_
  simp only [go_sem]
  refine ⟨.inr (by trivial), ?_⟩
  refine Fin_same hcl (by show resPV Tryz.prog _ _ [.cell 2 24, .cell 3 35, .tmp 4, .tmp 5] = some _; simp only [resPV, go_sem]; rfl) (Wk.ro (by simp only [go_sem]) ?_)
  try simp only [go_sem]
  all_goals
   first | (rw [hres2]; done) | (rw [hres]; done) | (rw [hres2]; rfl) | (rw [hres]; rfl)
 try simp only [nrm] at c1
 have hres : readM s = readR rows := by unfold readM; rw [if_neg (by omega), hrw]
 refine W_skip (K2 _ _ ?_)
 refine W_sr [2, 3, 6] fun R hR => ?_
 simp only [go_sem]
 refine GCall_of (PC.val (v' := .isl (rows.map txt) .exact) (Split_pc Y _ s 10 (by omega)) (by rw [hrw])) ?_
 simp only [go_sem]
 refine hR _ _ ?_; clear hR R
 try simp only [go_sem]
 refine W_sr [2, 3, 6, 7] fun R hR => ?_
 simp only [go_sem]
 try simp (disch := (first | omega | (simp only [go_sem, List.length_append] <;> omega))) only [wrapI, wrapU, strAdd, slT, slTa, slTb]
 refine hR _ _ ?_; clear hR R
 try simp only [go_sem]
 refine W_sr [2, 3, 6, 7, 8, 9] fun R hR => ?_
 simp only [go_sem]
 refine hR _ _ ?_; clear hR R
 try simp only [go_sem]
 refine W_seq fun Z8 K8 => ?_
 refine W_label (K8 _ _ ?_)
 refine W_seq fun Z9 K9 => ?_
 refine W_sr [2, 3, 6, 7, 8, 9, 28, 29, 30] fun R hR => ?_
 simp only [go_sem, hposl, htn, hlel, ← List.map_take, hso, hR0]
 try simp (disch := (first | omega | (simp only [go_sem, List.length_append] <;> omega))) only [wrapI, wrapU, strAdd, slT, slTa, slTb]
 refine hR _ _ ?_; clear hR R
 try simp only [go_sem]
 refine W_block ?_
 refine W_weak (Weak.roX (j := 0) (off := 6) rfl rfl) ?_
 simp only [go_sem]
 refine W_weak (Weak.roomX (j := 1) (off := 0) (es := 4) rfl rfl (by simp)) ?_
 simp only [go_sem]
 refine W_weak (Weak.roomX (j := 1) (off := 1) (es := 2) rfl rfl (by simp)) ?_
 simp only [go_sem]
 refine W_weak (Weak.roomX (j := 1) (off := 2) (es := 2) rfl rfl (by simp)) ?_
 simp only [go_sem]
 refine W_loopT (α := Nat × Scale × Night × Bool) (fun ⟨i, sc, g, ended⟩ => [(8, I 0), (9, .bool ended), (30, I i)]) (fun ⟨i, sc, g, ended⟩ => rdP σ sc g) (fun ⟨i, sc, g, ended⟩ => i ≤ R.length ∧ RdK i sc g ∧ (i ≤ 2 → g = ng0) ∧ (ended = true → 3 ≤ i) ∧ rowsM i (sc, g, kindM i g ended) (R.drop i) = rowsM 0 (sc0, ng0, -1) R) (fun ⟨i, sc, g, ended⟩ => R.length - i) ((0, sc0, ng0, false)) rfl (by first | rfl | (simp only [go_sem]; done) | (simp only [go_sem]; rfl)) (⟨Nat.zero_le _, ⟨by simp [sc0], Nat.le_refl _, fun e h => by (cases h), Nat.le_refl _, Nat.le_refl _⟩, fun _ => rfl, fun h => by (cases h), rfl⟩) ?_
 rintro ⟨i, sc, g, ended⟩ ⟨hi, hk, hgz, hend, hinv⟩
 refine W_sr [2, 3, 6, 7, 8, 9, 28, 29, 30, 31] fun R hR => ?_
 simp only [go_sem]
 refine hR _ _ ?_; clear hR R
 try simp only [go_sem]
 refine W_seq fun Z12 K12 => ?_
 refine W_cond rfl (fun c2 => ?_) (fun c2 => ?_)
 ·
  try simp only [nrm] at c2
  have hi' : i < R.length := by first | omega | (simp at c2; omega)
  obtain ⟨x, hx⟩ : ∃ x, R[i]? = some x := ⟨R[i], by simp [hi']⟩
  have hdrop : R.drop i = x :: R.drop (i + 1) := by
   rw [List.drop_eq_getElem_cons hi']; congr 1; exact (List.getElem?_eq_some_iff.1 hx).2
  have hxr := hRr i x hx
  have hxm := hwm x (List.mem_of_getElem? hxr)
  rw [hdrop] at hinv
  have hop := hk.op
  have hab0 := hk.ab
  have hfi0 := hk.fi
  obtain ⟨w, n, is, hpv, hpt, hpf, hpl⟩ := parse_is (k := 6) x
  refine W_skip (K12 _ _ ?_)
  refine W_seq fun Z13 K13 => ?_
  refine W_block ?_
  refine W_sr [2, 3, 6, 7, 9, 10, 11, 28, 29, 30] fun R hR => ?_
  simp only [go_sem, hx]
  refine hR _ _ ?_; clear hR R
  try simp only [go_sem, hx]
  refine W_sr [2, 3, 6, 7, 9, 10, 12, 13, 14, 28, 29, 30] fun R hR => ?_
  simp only [go_sem, hx]
  refine GCall_of (PC.val (v' := .tuple [txt w, ints n, .bool is]) (parse_pc Y _ x (by have := hwm x (List.mem_of_getElem? hxr); omega)) hpv) ?_
  simp only [go_sem, hx]
  refine hR _ _ ?_; clear hR R
  try simp only [go_sem, hx]
  refine W_sr [2, 3, 6, 7, 8, 9, 10, 12, 13, 14, 28, 29, 30] fun R hR => ?_
  simp only [go_sem, hx]
  try simp (disch := (first | omega | (simp only [go_sem, List.length_append] <;> omega))) only [wrapI, wrapU, strAdd, slT, slTa, slTb]
  refine hR _ _ ?_; clear hR R
  try simp only [go_sem, hx]
  refine W_seq fun Z17 K17 => ?_
  refine W_seq fun Z18 K18 => ?_
  refine W_regionJ [2, 3, 6, 7, 8, 9, 10, 12, 13, 28, 29, 30, 61] [(61, .bool (!is || ended || (decide (w = [115, 99, 97, 108, 101]) != ((i : Int) == 0)) || (decide (w = [111, 114, 100, 101, 114]) != ((i : Int) == 1))))] ?_ fun R hR => ?_
  ·refine K18 _ _ ?_
   simp only [go_sem, hx]
   refine W_cond rfl (fun c3 => ?_) (fun c3 => ?_)
   ·
    try simp only [nrm] at c3
    have hst : stepM (sc, g, kindM i g ended) x = none := by
     unfold stepM
     cases is with
     | false => rw [hpf rfl]
     | true =>
      rw [hpt rfl]
      show takeM _ w n = none
      refine take_bad hend ?_
      by_cases h1 : ended = true
      ·exact .inl h1
      right
      by_cases h2 : (w = scaleW ↔ i = 0)
      ·right
       intro h3
       have e1 : decide (w = [115, 99, 97, 108, 101]) = ((i : Int) == 0) := by rw [Bool.eq_iff_iff, beq_iff_eq, decide_eq_true_eq, show ((i : Int) = 0) = (i = 0) from propext ⟨fun q => by omega, fun q => by omega⟩]; simpa [scaleW] using h2
       have e2 : decide (w = [111, 114, 100, 101, 114]) = ((i : Int) == 1) := by rw [Bool.eq_iff_iff, beq_iff_eq, decide_eq_true_eq, show ((i : Int) = 1) = (i = 1) from propext ⟨fun q => by omega, fun q => by omega⟩]; simpa [orderW] using h3
       rw [e1, e2] at c3
       simp [h1] at c3
      exact .inl h2
    rw [rowsM_none hst] at hinv
    have hres2 : readM s = (sc0, ng0, (i : Int) + 1, 1) := by rw [hres]; exact readR_bad (by rw [hR0]; exact hinv.symm) (by omega)
    refine W_exit ?_
    simp only [go_sem, hx]
    refine K9 _ _ ?_
    refine W_seq fun Z19 K19 => ?_
    refine W_block ?_
    refine W_sr [2, 3, 6, 7, 8, 9, 187] fun R hR => ?_
    simp only [go_sem, hx]
    refine hR _ _ ?_; clear hR R
    try simp only [go_sem, hx]
    refine W_cond rfl (fun c4 => ?_) (fun c4 => ?_)
    ·
     try simp only [nrm] at c4
     refine W_sr [2, 3, 4, 5] fun R hR => ?_
     simp only [go_sem, hx]
     refine hR _ _ ?_; clear hR R
     try simp only [go_sem, hx]
     refine W_ret ?_
     simp only [go_sem, hx]
     refine ⟨.inr (by trivial), ?_⟩
     refine Fin_same hcl (by show resPV Tryz.prog _ _ [.cell 2 24, .cell 3 35, .tmp 4, .tmp 5] = some _; simp only [resPV, go_sem]; rfl) (Wk.ro (by simp only [go_sem]) ?_)
     try simp only [go_sem]
     all_goals
      first | (rw [hres2]; done) | (rw [hres]; done) | (rw [hres2]; rfl) | (rw [hres]; rfl)
    try simp only [nrm] at c4
    exfalso
    first | omega | (simp at c4; omega) | (simp_all; done) | (simp_all; omega)
   try simp only [nrm] at c3
   simp only [Bool.or_eq_false_iff, bne_eq_false_iff_eq] at c3
   obtain ⟨⟨⟨c31, c32⟩, c33⟩, c34⟩ := c3
   obtain rfl : is = true := by simpa using c31
   obtain rfl : ended = false := by simpa using c32
   have hw0 : w = scaleW ↔ i = 0 := by rw [Bool.eq_iff_iff, beq_iff_eq, decide_eq_true_eq, show ((i : Int) = 0) = (i = 0) from propext ⟨fun q => by omega, fun q => by omega⟩] at c33; simpa [scaleW] using c33
   have hw1 : w = orderW ↔ i = 1 := by rw [Bool.eq_iff_iff, beq_iff_eq, decide_eq_true_eq, show ((i : Int) = 1) = (i = 1) from propext ⟨fun q => by omega, fun q => by omega⟩] at c34; simpa [orderW] using c34
   have hp := hpt rfl
   refine W_skip (K17 _ _ ?_)
   refine W_seq fun Z22 K22 => ?_
   refine W_sr [2, 3, 6, 7, 8, 9, 10, 13, 28, 29, 30, 62] fun R hR => ?_
   simp only [go_sem, hx]
   refine hR _ _ ?_; clear hR R
   try simp only [go_sem, hx]
   refine W_block ?_
   refine W_sr [2, 3, 6, 7, 8, 9, 10, 13, 28, 29, 30, 62, 63] fun R hR => ?_
   simp only [go_sem, hx]
   refine hR _ _ ?_; clear hR R
   try simp only [go_sem, hx]
   refine W_cond rfl (fun c5 => ?_) (fun c5 => ?_)
   ·
    try simp only [nrm] at c5
    have hw : w = scaleW := by simpa [scaleW] using c5
    have hi0 := hw0.1 hw
    refine W_seq fun Z25 K25 => ?_
    refine W_sr [2, 3, 6, 7, 8, 9, 13, 28, 29, 30, 67] fun R hR => ?_
    simp only [go_sem, hx]
    refine hR _ _ ?_; clear hR R
    try simp only [go_sem, hx]
    refine W_cond rfl (fun c6 => ?_) (fun c6 => ?_)
    ·
     try simp only [nrm] at c6
     have hst : stepM (sc, g, kindM i g false) x = none := by
      unfold stepM
      rw [hp]
      show takeM _ w n = none
      rw [hi0, take_zero, if_neg (by intro q; have := q.2; first | omega | (simp at c6; omega))]
     rw [rowsM_none hst] at hinv
     have hres2 : readM s = (sc0, ng0, (i : Int) + 1, 1) := by rw [hres]; exact readR_bad (by rw [hR0]; exact hinv.symm) (by omega)
     refine W_exit ?_
     simp only [go_sem, hx]
     refine K9 _ _ ?_
     refine W_seq fun Z27 K27 => ?_
     refine W_block ?_
     refine W_sr [2, 3, 6, 7, 8, 9, 187] fun R hR => ?_
     simp only [go_sem, hx]
     refine hR _ _ ?_; clear hR R
     try simp only [go_sem, hx]
     refine W_cond rfl (fun c7 => ?_) (fun c7 => ?_)
     ·
      try simp only [nrm] at c7
      refine W_sr [2, 3, 4, 5] fun R hR => ?_
      simp only [go_sem, hx]
      refine hR _ _ ?_; clear hR R
      try simp only [go_sem, hx]
      refine W_ret ?_
      simp only [go_sem, hx]
      refine ⟨.inr (by trivial), ?_⟩
      refine Fin_same hcl (by show resPV Tryz.prog _ _ [.cell 2 24, .cell 3 35, .tmp 4, .tmp 5] = some _; simp only [resPV, go_sem]; rfl) (Wk.ro (by simp only [go_sem]) ?_)
      try simp only [go_sem]
      all_goals
       first | (rw [hres2]; done) | (rw [hres]; done) | (rw [hres2]; rfl) | (rw [hres]; rfl)
     try simp only [nrm] at c7
     exfalso
     first | omega | (simp at c7; omega) | (simp_all; done) | (simp_all; omega)
    try simp only [nrm] at c6
    have h6 : n.length = 6 := by first | (simp at c6; omega) | omega
    have hgk : ∀ k, k < n.length → n[k]? = some (n.getD k 0) := fun k h => by simp [h]
    have hg0 := hgk 0 (by omega)
    have hg1 := hgk 1 (by omega)
    have hg2 := hgk 2 (by omega)
    have hg3 := hgk 3 (by omega)
    have hg4 := hgk 4 (by omega)
    have hg5 := hgk 5 (by omega)
    have htk : takeM (sc, g, kindM i g false) w n = some (mkSc sc n, g, 0) := by
     rw [hi0, take_zero, if_pos ⟨hw, h6⟩]
    have hst : stepM (sc, g, kindM i g false) x = some (mkSc sc n, g, 0) := by
     unfold stepM
     rw [hp]
     exact htk
    have hrk := hk.take (by omega) htk
    rw [rowsM_some hst] at hinv
    refine W_skip (K25 _ _ ?_)
    refine W_draw [2, 3, 6, 7, 9, 28, 29, 30] [0, 1, 2, 3, 4, 5, 6, 7, 8, 9, 10, 11, 12, 13, 14, 15, 16, 17, 18, 19, 20, 21, 22, 23, 24, 25, 26, 27, 28, 29] [(3, 21), (4, 21), (5, 21), (6, 21), (6, 23), (7, 21), (7, 23), (8, 21), (8, 23), (9, 21), (9, 23), (9, 25), (10, 21), (10, 23), (10, 25), (11, 21), (11, 23), (11, 25), (12, 21), (12, 23), (12, 25), (12, 27), (13, 21), (13, 23), (13, 25), (13, 27), (14, 21), (14, 23), (14, 25), (14, 27), (15, 21), (15, 23), (15, 25), (15, 27), (15, 29), (16, 21), (16, 23), (16, 25), (16, 27), (16, 29), (17, 21), (17, 23), (17, 25), (17, 27), (17, 29)] [[], [0], [0, 1], [], [3], [3, 4], [], [6], [6, 7], [], [9], [9, 10], [], [12], [12, 13], [], [15], [15, 16], [0, 1, 2], [0, 1, 2, 18], [0, 1, 2, 3, 4, 5, 18, 19], [0, 1, 2, 3, 4, 5, 18, 19, 20], [0, 1, 2, 3, 4, 5, 6, 7, 8, 18, 19, 20, 21], [0, 1, 2, 3, 4, 5, 6, 7, 8, 18, 19, 20, 21, 22], [0, 1, 2, 3, 4, 5, 6, 7, 8, 9, 10, 11, 18, 19, 20, 21, 22, 23], [0, 1, 2, 3, 4, 5, 6, 7, 8, 9, 10, 11, 18, 19, 20, 21, 22, 23, 24], [0, 1, 2, 3, 4, 5, 6, 7, 8, 9, 10, 11, 12, 13, 14, 18, 19, 20, 21, 22, 23, 24, 25], [0, 1, 2, 3, 4, 5, 6, 7, 8, 9, 10, 11, 12, 13, 14, 18, 19, 20, 21, 22, 23, 24, 25, 26], [0, 1, 2, 3, 4, 5, 6, 7, 8, 9, 10, 11, 12, 13, 14, 15, 16, 17, 18, 19, 20, 21, 22, 23, 24, 25, 26, 27], [0, 1, 2, 3, 4, 5, 6, 7, 8, 9, 10, 11, 12, 13, 14, 15, 16, 17, 18, 19, 20, 21, 22, 23, 24, 25, 26, 27, 28]] mixed (by kernel_rfl) fun R hR => ?_
    simp only [go_sem, hx, hg0, hg1, hg2, hg3, hg4, hg5, Int.reduceToNat, Int.reduceLE, Int.le_refl]
    try refine And.intro (by repeat' (first | refine And.intro ?_ ?_ | exact trivial | exact GOr_right (fun _ => by simp only [go_sem, hx, hg0, hg1, hg2, hg3, hg4, hg5, Int.reduceToNat, Int.reduceLE, Int.le_refl]))) ?_
    refine hR _ _ (K22 _ _ ?_); clear hR R; try clear K22 Z22
    try simp only [go_sem, hx, hg0, hg1, hg2, hg3, hg4, hg5, Int.reduceToNat, Int.reduceLE, Int.le_refl]
    refine W_region [2, 3, 6, 7, 8, 9, 28, 29, 30] fun R hR => ?_
    simp only [go_sem, hx, hg0, hg1, hg2, hg3, hg4, hg5, Int.reduceToNat, Int.reduceLE, Int.le_refl]
    refine hR _ _ (K13 _ _ ?_); clear hR R; try clear K13 Z13
    try simp only [go_sem, hx, hg0, hg1, hg2, hg3, hg4, hg5, Int.reduceToNat, Int.reduceLE, Int.le_refl]
    refine W_region [2, 3, 6, 7, 8, 9, 28, 29, 30] fun R hR => ?_
    simp only [go_sem, hx, hg0, hg1, hg2, hg3, hg4, hg5, Int.reduceToNat, Int.reduceLE, Int.le_refl]
    try simp (disch := (first | omega | (simp only [go_sem, List.length_append] <;> omega))) only [wrapI, wrapU, strAdd, slT, slTa, slTb]
    refine hR _ _ ?_; clear hR R
    try simp only [go_sem, hx, hg0, hg1, hg2, hg3, hg4, hg5, Int.reduceToNat, Int.reduceLE, Int.le_refl]
    refine ⟨(i + 1, mkSc sc n, g, false), ?_, by (try simp only []); omega, ?_⟩
    ·first | exact Weak.refl | exact Wqq
    try dsimp only
    refine ⟨by omega, hrk, fun _ => hgz (by omega), fun h => by (cases h), ?_⟩
    rw [hi0] at hinv ⊢
    exact hinv
   try simp only [nrm] at c5
   have hi0 : i ≠ 0 := fun q => by have := hw0.2 q; rw [this] at c5; revert c5; decide
   refine W_sr [2, 3, 6, 7, 8, 9, 10, 13, 28, 29, 30, 62, 92] fun R hR => ?_
   simp only [go_sem, hx]
   refine hR _ _ ?_; clear hR R
   try simp only [go_sem, hx]
   refine W_cond rfl (fun c8 => ?_) (fun c8 => ?_)
   ·
    try simp only [nrm] at c8
    have hw : w = orderW := by simpa [orderW] using c8
    have hi1 := hw1.1 hw
    have htk : takeM (sc, g, kindM i g false) w n = some ({ sc with order := n }, g, 1) := by
     rw [hi1, take_one, if_pos hw]
    have hst : stepM (sc, g, kindM i g false) x = some ({ sc with order := n }, g, 1) := by
     unfold stepM
     rw [hp]
     exact htk
    have hrk := hk.take (by omega) htk
    rw [rowsM_some hst] at hinv
    refine W_region [2, 3, 6, 7, 9, 28, 29, 30] fun R hR => ?_
    simp only [go_sem, hx]
    refine hR _ _ (K22 _ _ ?_); clear hR R; try clear K22 Z22
    try simp only [go_sem, hx]
    refine W_region [2, 3, 6, 7, 8, 9, 28, 29, 30] fun R hR => ?_
    simp only [go_sem, hx]
    refine hR _ _ (K13 _ _ ?_); clear hR R; try clear K13 Z13
    try simp only [go_sem, hx]
    refine W_region [2, 3, 6, 7, 8, 9, 28, 29, 30] fun R hR => ?_
    simp only [go_sem, hx]
    try simp (disch := (first | omega | (simp only [go_sem, List.length_append] <;> omega))) only [wrapI, wrapU, strAdd, slT, slTa, slTb]
    refine hR _ _ ?_; clear hR R
    try simp only [go_sem, hx]
    refine ⟨(i + 1, { sc with order := n }, g, false), ?_, by (try simp only []); omega, ?_⟩
    ·first | exact Weak.refl | exact Wqq
    try dsimp only
    refine ⟨by omega, hrk, fun _ => hgz (by omega), fun h => by (cases h), ?_⟩
    have hg := hgz (by omega)
    subst hg
    rw [hi1] at hinv ⊢
    exact hinv
   try simp only [nrm] at c8
   have hi2 : 2 ≤ i := by
    have : i ≠ 1 := fun q => by have := hw1.2 q; rw [this] at c8; revert c8; decide
    omega
   refine W_sr [2, 3, 6, 7, 8, 9, 10, 13, 28, 29, 30, 62, 96] fun R hR => ?_
   simp only [go_sem, hx]
   refine hR _ _ ?_; clear hR R
   try simp only [go_sem, hx]
   refine W_cond rfl (fun c9 => ?_) (fun c9 => ?_)
   ·
    try simp only [nrm] at c9
    have hw : w = marksW := by simpa [marksW] using c9
    have hwab : IntKind.i64.wrap ((g.absent.length : Int) + (g.fines.length : Int)) = (g.absent.length : Int) + (g.fines.length : Int) := wrapI (by omega) (by omega)
    refine W_seq fun Z32 K32 => ?_
    refine W_seq fun Z33 K33 => ?_
    refine W_regionJ [2, 3, 6, 7, 8, 9, 13, 28, 29, 30, 110] [(110, .bool (decide ((n.length : Int) < 3) || decide (0 < (g.absent.length : Int) + (g.fines.length : Int))))] ?_ fun R hR => ?_
    ·refine K33 _ _ ?_
     simp only [go_sem, hx, hwab]
     refine W_cond rfl (fun c10 => ?_) (fun c10 => ?_)
     ·
      try simp only [nrm] at c10
      have hst : stepM (sc, g, kindM i g false) x = none := by
       unfold stepM
       rw [hp]
       show takeM _ w n = none
       rw [take_more hi2, if_neg (by rintro ⟨_, q1, q2, q3⟩; rw [q2, q3] at c10; simp at c10; omega)]
       simp [hw, marksW, absentW, fineW, endW]
      rw [rowsM_none hst] at hinv
      have hres2 : readM s = (sc0, ng0, (i : Int) + 1, 1) := by rw [hres]; exact readR_bad (by rw [hR0]; exact hinv.symm) (by omega)
      refine W_exit ?_
      simp only [go_sem, hx, hwab]
      refine K9 _ _ ?_
      refine W_seq fun Z34 K34 => ?_
      refine W_block ?_
      refine W_sr [2, 3, 6, 7, 8, 9, 187] fun R hR => ?_
      simp only [go_sem, hx, hwab]
      refine hR _ _ ?_; clear hR R
      try simp only [go_sem, hx, hwab]
      refine W_cond rfl (fun c11 => ?_) (fun c11 => ?_)
      ·
       try simp only [nrm] at c11
       refine W_sr [2, 3, 4, 5] fun R hR => ?_
       simp only [go_sem, hx, hwab]
       refine hR _ _ ?_; clear hR R
       try simp only [go_sem, hx, hwab]
       refine W_ret ?_
       simp only [go_sem, hx, hwab]
       refine ⟨.inr (by trivial), ?_⟩
       refine Fin_same hcl (by show resPV Tryz.prog _ _ [.cell 2 24, .cell 3 35, .tmp 4, .tmp 5] = some _; simp only [resPV, go_sem]; rfl) (Wk.ro (by simp only [go_sem]) ?_)
       try simp only [go_sem]
       all_goals
        first | (rw [hres2]; done) | (rw [hres]; done) | (rw [hres2]; rfl) | (rw [hres]; rfl)
      try simp only [nrm] at c11
      exfalso
      first | omega | (simp at c11; omega) | (simp_all; done) | (simp_all; omega)
     try simp only [nrm] at c10
     obtain ⟨h3, hab, hfi⟩ : 3 ≤ n.length ∧ g.absent = [] ∧ g.fines = [] := by
      simp only [Bool.or_eq_false_iff, decide_eq_false_iff_not] at c10
      exact ⟨by omega, List.eq_nil_of_length_eq_zero (by omega), List.eq_nil_of_length_eq_zero (by omega)⟩
     have hgk : ∀ k, k < n.length → n[k]? = some (n.getD k 0) := fun k h => by simp [h]
     have hg0 := hgk 0 (by omega)
     have hg1 := hgk 1 (by omega)
     have hg2 := hgk 2 (by omega)
     have htk : takeM (sc, g, kindM i g false) w n = some (sc, { g with opened := g.opened ++ [mkEv n] }, 2) := by
      rw [take_more hi2, if_pos ⟨hw, h3, hab, hfi⟩]
     have hst : stepM (sc, g, kindM i g false) x = some (sc, { g with opened := g.opened ++ [mkEv n] }, 2) := by
      unfold stepM
      rw [hp]
      exact htk
     have hrk := hk.take (by omega) htk
     rw [rowsM_some hst] at hinv
     refine W_skip (K32 _ _ ?_)
     refine W_draw [2, 3, 6, 7, 9, 28, 29, 30] [0, 1, 2, 3, 4, 5, 6, 7, 8, 9, 10, 11, 12, 13, 14, 15, 16, 17] [] [[], [0], [], [2], [2, 3], [], [5], [5, 6], [], [8], [8, 9], [], [11], [2, 3, 4, 5, 6, 7, 8, 9, 10, 11, 12], [2, 3, 4, 5, 6, 7, 8, 9, 10, 11, 12, 13], [0, 1, 2, 3, 4, 5, 6, 7, 8, 9, 10, 11, 12, 13, 14], [0, 1, 2, 3, 4, 5, 6, 7, 8, 9, 10, 11, 12, 13, 14, 15], [0, 1, 2, 3, 4, 5, 6, 7, 8, 9, 10, 11, 12, 13, 14, 15, 16]] mixed (by kernel_rfl) fun R hR => ?_
     simp only [go_sem, hx, hwab, hg0, hg1, hg2, h3, Int.reduceToNat, Int.reduceLE, Int.le_refl]
     try simp (disch := (first | omega | (simp only [go_sem, List.length_append] <;> omega))) only [wrapI, wrapU, appX_exact, appX_tok, strAdd, slT, slTa, slTb]
     try simp only [go_sem, hx, hwab, hg0, hg1, hg2, h3, Int.reduceToNat, Int.reduceLE, Int.le_refl]
     try refine And.intro (by repeat' (first | refine And.intro ?_ ?_ | exact trivial | exact GOr_right (fun _ => by simp only [go_sem, hx, hwab, hg0, hg1, hg2, h3, Int.reduceToNat, Int.reduceLE, Int.le_refl]))) ?_
     refine hR _ _ (K22 _ _ ?_); clear hR R; try clear K22 Z22
     try simp only [go_sem, hx, hwab, hg0, hg1, hg2, h3, Int.reduceToNat, Int.reduceLE, Int.le_refl]
     refine W_region [2, 3, 6, 7, 8, 9, 28, 29, 30] fun R hR => ?_
     simp only [go_sem, hx, hwab, hg0, hg1, hg2, h3, Int.reduceToNat, Int.reduceLE, Int.le_refl]
     refine hR _ _ (K13 _ _ ?_); clear hR R; try clear K13 Z13
     try simp only [go_sem, hx, hwab, hg0, hg1, hg2, h3, Int.reduceToNat, Int.reduceLE, Int.le_refl]
     refine W_region [2, 3, 6, 7, 8, 9, 28, 29, 30] fun R hR => ?_
     simp only [go_sem, hx, hwab, hg0, hg1, hg2, h3, Int.reduceToNat, Int.reduceLE, Int.le_refl]
     try simp (disch := (first | omega | (simp only [go_sem, List.length_append] <;> omega))) only [wrapI, wrapU, strAdd, slT, slTa, slTb]
     refine hR _ _ ?_; clear hR R
     try simp only [go_sem, hx, hwab, hg0, hg1, hg2, h3, Int.reduceToNat, Int.reduceLE, Int.le_refl]
     refine ⟨(i + 1, sc, { g with opened := g.opened ++ [mkEv n] }, false), ?_, by (try simp only []); omega, ?_⟩
     ·refine Weak.eq (by first | rfl | (simp only [go_sem]; done)) (by simp only [rdP, go_sem, mkEv, mkPr, mkSc, List.map_append, List.map_cons, List.map_nil, List.length_append, List.length_cons, List.length_nil]; first | done | rfl)
     try dsimp only
     refine ⟨by omega, hrk, fun h => by omega, fun h => by (cases h), ?_⟩
     have hkm : kindM (i + 1) { g with opened := g.opened ++ [mkEv n] } false = 2 := by unfold kindM; rw [if_neg (by omega), if_neg (by omega)]; simp [hab, hfi]
     rw [hkm]
     exact hinv
    simp only [go_sem, hx, hwab]
    refine GWant_split (fun g1 => ?_) (fun g1 => ?_)
    ·try simp only [Bool.not_eq_true', Bool.not_eq_false'] at g1
     have n1 := g1; try simp only [nrm] at n1
     simp only [go_sem, hx, hwab, g1]
     try simp (disch := (first | omega | (simp only [go_sem, List.length_append] <;> omega))) only [wrapI, wrapU, strAdd, slT, slTa, slTb]
     try simp only [go_sem, hx, hwab, g1]
     refine hR _ ?_
     all_goals try simp only [go_sem, hx, hwab]
     all_goals
      first | rfl | (simp [*]; done) | (simp_all; done)
    try simp only [Bool.not_eq_true', Bool.not_eq_false'] at g1
    have n1 := g1; try simp only [nrm] at n1
    simp only [go_sem, hx, hwab, g1]
    try simp (disch := (first | omega | (simp only [go_sem, List.length_append] <;> omega))) only [wrapI, wrapU, strAdd, slT, slTa, slTb]
    try simp only [go_sem, hx, hwab, g1]
    refine hR _ ?_
    all_goals try simp only [go_sem, hx, hwab]
    all_goals
     first | rfl | (simp [*]; done) | (simp_all; done)
   try simp only [nrm] at c9
   refine W_sr [2, 3, 6, 7, 8, 9, 10, 13, 28, 29, 30, 62, 128] fun R hR => ?_
   simp only [go_sem, hx]
   refine hR _ _ ?_; clear hR R
   try simp only [go_sem, hx]
   refine W_cond rfl (fun c12 => ?_) (fun c12 => ?_)
   ·
    try simp only [nrm] at c12
    have hw : w = absentW := by simpa [absentW] using c12
    refine W_seq fun Z38 K38 => ?_
    refine W_seq fun Z39 K39 => ?_
    refine W_regionJ [2, 3, 6, 7, 8, 9, 13, 28, 29, 30, 138] [(138, .bool (!decide ((n.length : Int) = 2) || decide (0 < (g.fines.length : Int))))] ?_ fun R hR => ?_
    ·refine K39 _ _ ?_
     simp only [go_sem, hx]
     refine W_cond rfl (fun c13 => ?_) (fun c13 => ?_)
     ·
      try simp only [nrm] at c13
      have hst : stepM (sc, g, kindM i g false) x = none := by
       unfold stepM
       rw [hp]
       show takeM _ w n = none
       rw [take_more hi2, if_neg (by rintro ⟨q, _⟩; rw [hw] at q; revert q; decide), if_neg (by rintro ⟨_, q1, q2⟩; simp [q1, q2] at c13)]
       simp [hw, marksW, absentW, fineW, endW]
      rw [rowsM_none hst] at hinv
      have hres2 : readM s = (sc0, ng0, (i : Int) + 1, 1) := by rw [hres]; exact readR_bad (by rw [hR0]; exact hinv.symm) (by omega)
      refine W_exit ?_
      simp only [go_sem, hx]
      refine K9 _ _ ?_
      refine W_seq fun Z40 K40 => ?_
      refine W_block ?_
      refine W_sr [2, 3, 6, 7, 8, 9, 187] fun R hR => ?_
      simp only [go_sem, hx]
      refine hR _ _ ?_; clear hR R
      try simp only [go_sem, hx]
      refine W_cond rfl (fun c14 => ?_) (fun c14 => ?_)
      ·
       try simp only [nrm] at c14
       refine W_sr [2, 3, 4, 5] fun R hR => ?_
       simp only [go_sem, hx]
       refine hR _ _ ?_; clear hR R
       try simp only [go_sem, hx]
       refine W_ret ?_
       simp only [go_sem, hx]
       refine ⟨.inr (by trivial), ?_⟩
       refine Fin_same hcl (by show resPV Tryz.prog _ _ [.cell 2 24, .cell 3 35, .tmp 4, .tmp 5] = some _; simp only [resPV, go_sem]; rfl) (Wk.ro (by simp only [go_sem]) ?_)
       try simp only [go_sem]
       all_goals
        first | (rw [hres2]; done) | (rw [hres]; done) | (rw [hres2]; rfl) | (rw [hres]; rfl)
      try simp only [nrm] at c14
      exfalso
      first | omega | (simp at c14; omega) | (simp_all; done) | (simp_all; omega)
     try simp only [nrm] at c13
     obtain ⟨h2, hfi⟩ : n.length = 2 ∧ g.fines = [] := by
      simp only [Bool.or_eq_false_iff, Bool.not_eq_eq_eq_not, Bool.not_false, decide_eq_true_eq, decide_eq_false_iff_not] at c13
      exact ⟨by omega, List.eq_nil_of_length_eq_zero (by omega)⟩
     have hgk : ∀ k, k < n.length → n[k]? = some (n.getD k 0) := fun k h => by simp [h]
     have hg0 := hgk 0 (by omega)
     have hg1 := hgk 1 (by omega)
     have htk : takeM (sc, g, kindM i g false) w n = some (sc, { g with absent := g.absent ++ [mkPr n] }, 3) := by
      rw [take_more hi2, if_neg (by rintro ⟨q, _⟩; rw [hw] at q; revert q; decide), if_pos ⟨hw, h2, hfi⟩]
     have hst : stepM (sc, g, kindM i g false) x = some (sc, { g with absent := g.absent ++ [mkPr n] }, 3) := by
      unfold stepM
      rw [hp]
      exact htk
     have hrk := hk.take (by omega) htk
     rw [rowsM_some hst] at hinv
     refine W_skip (K38 _ _ ?_)
     refine W_draw [2, 3, 6, 7, 9, 28, 29, 30] [0, 1, 2, 3, 4, 5, 6, 7, 8, 9, 10, 11, 12] [] [[], [0], [], [2], [2, 3], [], [5], [5, 6], [2, 3, 4, 5, 6, 7], [2, 3, 4, 5, 6, 7, 8], [0, 1, 2, 3, 4, 5, 6, 7, 8, 9], [0, 1, 2, 3, 4, 5, 6, 7, 8, 9, 10], [0, 1, 2, 3, 4, 5, 6, 7, 8, 9, 10, 11]] mixed (by kernel_rfl) fun R hR => ?_
     simp only [go_sem, hx, hg0, hg1, Int.reduceToNat, Int.reduceLE, Int.le_refl]
     try simp (disch := (first | omega | (simp only [go_sem, List.length_append] <;> omega))) only [wrapI, wrapU, appX_exact, appX_tok, strAdd, slT, slTa, slTb]
     try simp only [go_sem, hx, hg0, hg1, Int.reduceToNat, Int.reduceLE, Int.le_refl]
     try refine And.intro (by repeat' (first | refine And.intro ?_ ?_ | exact trivial | exact GOr_right (fun _ => by simp only [go_sem, hx, hg0, hg1, Int.reduceToNat, Int.reduceLE, Int.le_refl]))) ?_
     refine hR _ _ (K22 _ _ ?_); clear hR R; try clear K22 Z22
     try simp only [go_sem, hx, hg0, hg1, Int.reduceToNat, Int.reduceLE, Int.le_refl]
     refine W_region [2, 3, 6, 7, 8, 9, 28, 29, 30] fun R hR => ?_
     simp only [go_sem, hx, hg0, hg1, Int.reduceToNat, Int.reduceLE, Int.le_refl]
     refine hR _ _ (K13 _ _ ?_); clear hR R; try clear K13 Z13
     try simp only [go_sem, hx, hg0, hg1, Int.reduceToNat, Int.reduceLE, Int.le_refl]
     refine W_region [2, 3, 6, 7, 8, 9, 28, 29, 30] fun R hR => ?_
     simp only [go_sem, hx, hg0, hg1, Int.reduceToNat, Int.reduceLE, Int.le_refl]
     try simp (disch := (first | omega | (simp only [go_sem, List.length_append] <;> omega))) only [wrapI, wrapU, strAdd, slT, slTa, slTb]
     refine hR _ _ ?_; clear hR R
     try simp only [go_sem, hx, hg0, hg1, Int.reduceToNat, Int.reduceLE, Int.le_refl]
     refine ⟨(i + 1, sc, { g with absent := g.absent ++ [mkPr n] }, false), ?_, by (try simp only []); omega, ?_⟩
     ·refine Weak.eq (by first | rfl | (simp only [go_sem]; done)) (by simp only [rdP, go_sem, mkEv, mkPr, mkSc, List.map_append, List.map_cons, List.map_nil, List.length_append, List.length_cons, List.length_nil]; first | done | rfl)
     try dsimp only
     refine ⟨by omega, hrk, fun h => by omega, fun h => by (cases h), ?_⟩
     have hkm : kindM (i + 1) { g with absent := g.absent ++ [mkPr n] } false = 3 := by unfold kindM; rw [if_neg (by omega), if_neg (by omega)]; simp [hfi]
     rw [hkm]
     exact hinv
    simp only [go_sem, hx]
    refine GWant_split (fun g2 => ?_) (fun g2 => ?_)
    ·try simp only [Bool.not_eq_true', Bool.not_eq_false'] at g2
     have n2 := g2; try simp only [nrm] at n2
     simp only [go_sem, hx, g2]
     refine hR _ ?_
     all_goals try simp only [go_sem, hx]
     all_goals
      first | rfl | (simp [*]; done) | (simp_all; done)
    try simp only [Bool.not_eq_true', Bool.not_eq_false'] at g2
    have n2 := g2; try simp only [nrm] at n2
    simp only [go_sem, hx, g2]
    refine hR _ ?_
    all_goals try simp only [go_sem, hx]
    all_goals
     first | rfl | (simp [*]; done) | (simp_all; done)
   try simp only [nrm] at c12
   refine W_sr [2, 3, 6, 7, 8, 9, 10, 13, 28, 29, 30, 62, 151] fun R hR => ?_
   simp only [go_sem, hx]
   refine hR _ _ ?_; clear hR R
   try simp only [go_sem, hx]
   refine W_cond rfl (fun c15 => ?_) (fun c15 => ?_)
   ·
    try simp only [nrm] at c15
    have hw : w = fineW := by simpa [fineW] using c15
    refine W_seq fun Z44 K44 => ?_
    refine W_sr [2, 3, 6, 7, 8, 9, 13, 28, 29, 30, 155] fun R hR => ?_
    simp only [go_sem, hx]
    refine hR _ _ ?_; clear hR R
    try simp only [go_sem, hx]
    refine W_cond rfl (fun c16 => ?_) (fun c16 => ?_)
    ·
     try simp only [nrm] at c16
     have hst : stepM (sc, g, kindM i g false) x = none := by
      unfold stepM
      rw [hp]
      show takeM _ w n = none
      rw [take_more hi2, if_neg (by rintro ⟨q, _⟩; rw [hw] at q; revert q; decide), if_neg (by rintro ⟨q, _⟩; rw [hw] at q; revert q; decide), if_neg (by rintro ⟨_, q⟩; first | omega | (simp at c16; omega))]
      simp [hw, fineW, endW]
     rw [rowsM_none hst] at hinv
     have hres2 : readM s = (sc0, ng0, (i : Int) + 1, 1) := by rw [hres]; exact readR_bad (by rw [hR0]; exact hinv.symm) (by omega)
     refine W_exit ?_
     simp only [go_sem, hx]
     refine K9 _ _ ?_
     refine W_seq fun Z46 K46 => ?_
     refine W_block ?_
     refine W_sr [2, 3, 6, 7, 8, 9, 187] fun R hR => ?_
     simp only [go_sem, hx]
     refine hR _ _ ?_; clear hR R
     try simp only [go_sem, hx]
     refine W_cond rfl (fun c17 => ?_) (fun c17 => ?_)
     ·
      try simp only [nrm] at c17
      refine W_sr [2, 3, 4, 5] fun R hR => ?_
      simp only [go_sem, hx]
      refine hR _ _ ?_; clear hR R
      try simp only [go_sem, hx]
      refine W_ret ?_
      simp only [go_sem, hx]
      refine ⟨.inr (by trivial), ?_⟩
      refine Fin_same hcl (by show resPV Tryz.prog _ _ [.cell 2 24, .cell 3 35, .tmp 4, .tmp 5] = some _; simp only [resPV, go_sem]; rfl) (Wk.ro (by simp only [go_sem]) ?_)
      try simp only [go_sem]
      all_goals
       first | (rw [hres2]; done) | (rw [hres]; done) | (rw [hres2]; rfl) | (rw [hres]; rfl)
     try simp only [nrm] at c17
     exfalso
     first | omega | (simp at c17; omega) | (simp_all; done) | (simp_all; omega)
    try simp only [nrm] at c16
    have h2 : n.length = 2 := by first | (simp at c16; omega) | omega
    have hgk : ∀ k, k < n.length → n[k]? = some (n.getD k 0) := fun k h => by simp [h]
    have hg0 := hgk 0 (by omega)
    have hg1 := hgk 1 (by omega)
    have htk : takeM (sc, g, kindM i g false) w n = some (sc, { g with fines := g.fines ++ [mkPr n] }, 4) := by
     rw [take_more hi2, if_neg (by rintro ⟨q, _⟩; rw [hw] at q; revert q; decide), if_neg (by rintro ⟨q, _⟩; rw [hw] at q; revert q; decide), if_pos ⟨hw, h2⟩]
    have hst : stepM (sc, g, kindM i g false) x = some (sc, { g with fines := g.fines ++ [mkPr n] }, 4) := by
     unfold stepM
     rw [hp]
     exact htk
    have hrk := hk.take (by omega) htk
    rw [rowsM_some hst] at hinv
    refine W_skip (K44 _ _ ?_)
    refine W_draw [2, 3, 6, 7, 9, 28, 29, 30] [0, 1, 2, 3, 4, 5, 6, 7, 8, 9, 10, 11, 12] [] [[], [0], [], [2], [2, 3], [], [5], [5, 6], [2, 3, 4, 5, 6, 7], [2, 3, 4, 5, 6, 7, 8], [0, 1, 2, 3, 4, 5, 6, 7, 8, 9], [0, 1, 2, 3, 4, 5, 6, 7, 8, 9, 10], [0, 1, 2, 3, 4, 5, 6, 7, 8, 9, 10, 11]] mixed (by kernel_rfl) fun R hR => ?_
    simp only [go_sem, hx, hg0, hg1, Int.reduceToNat, Int.reduceLE, Int.le_refl]
    try simp (disch := (first | omega | (simp only [go_sem, List.length_append] <;> omega))) only [wrapI, wrapU, appX_exact, appX_tok, strAdd, slT, slTa, slTb]
    try simp only [go_sem, hx, hg0, hg1, Int.reduceToNat, Int.reduceLE, Int.le_refl]
    try refine And.intro (by repeat' (first | refine And.intro ?_ ?_ | exact trivial | exact GOr_right (fun _ => by simp only [go_sem, hx, hg0, hg1, Int.reduceToNat, Int.reduceLE, Int.le_refl]))) ?_
    refine hR _ _ (K22 _ _ ?_); clear hR R; try clear K22 Z22
    try simp only [go_sem, hx, hg0, hg1, Int.reduceToNat, Int.reduceLE, Int.le_refl]
    refine W_region [2, 3, 6, 7, 8, 9, 28, 29, 30] fun R hR => ?_
    simp only [go_sem, hx, hg0, hg1, Int.reduceToNat, Int.reduceLE, Int.le_refl]
    refine hR _ _ (K13 _ _ ?_); clear hR R; try clear K13 Z13
    try simp only [go_sem, hx, hg0, hg1, Int.reduceToNat, Int.reduceLE, Int.le_refl]
    refine W_region [2, 3, 6, 7, 8, 9, 28, 29, 30] fun R hR => ?_
    simp only [go_sem, hx, hg0, hg1, Int.reduceToNat, Int.reduceLE, Int.le_refl]
    try simp (disch := (first | omega | (simp only [go_sem, List.length_append] <;> omega))) only [wrapI, wrapU, strAdd, slT, slTa, slTb]
    refine hR _ _ ?_; clear hR R
    try simp only [go_sem, hx, hg0, hg1, Int.reduceToNat, Int.reduceLE, Int.le_refl]
    refine ⟨(i + 1, sc, { g with fines := g.fines ++ [mkPr n] }, false), ?_, by (try simp only []); omega, ?_⟩
    ·refine Weak.eq (by first | rfl | (simp only [go_sem]; done)) (by simp only [rdP, go_sem, mkEv, mkPr, mkSc, List.map_append, List.map_cons, List.map_nil, List.length_append, List.length_cons, List.length_nil]; first | done | rfl)
    try dsimp only
    refine ⟨by omega, hrk, fun h => by omega, fun h => by (cases h), ?_⟩
    have hkm : kindM (i + 1) { g with fines := g.fines ++ [mkPr n] } false = 4 := by unfold kindM; rw [if_neg (by omega), if_neg (by omega)]; simp
    rw [hkm]
    exact hinv
   try simp only [nrm] at c15
   refine W_sr [2, 3, 6, 7, 8, 9, 10, 13, 28, 29, 30, 168] fun R hR => ?_
   simp only [go_sem, hx]
   refine hR _ _ ?_; clear hR R
   try simp only [go_sem, hx]
   refine W_cond rfl (fun c18 => ?_) (fun c18 => ?_)
   ·
    try simp only [nrm] at c18
    have hw : w = endW := by simpa [endW] using c18
    refine W_seq fun Z50 K50 => ?_
    refine W_seq fun Z51 K51 => ?_
    refine W_drawJ [2, 3, 6, 7, 8, 9, 28, 29, 30, 185] [(185, .bool (!decide (n.length = 1) || !decide (n.getD 0 0 = (g.opened.length : Int)) || decide ((i : Int) < 2)))] [0, 1, 2, 3, 4, 5, 6, 7, 8, 9, 10, 11, 12, 13, 14, 15] [] [[], [0], [0, 1], [0, 1, 2], [0, 1, 2, 3], [0, 1, 2, 3, 4], [0, 1, 2, 3, 4, 5], [0, 1, 2, 3], [0, 1, 2, 3, 7], [0, 1, 2, 3, 7, 8], [0, 1, 2, 3, 4, 5, 6, 7, 8, 9], [0, 1, 2, 3, 4, 5, 6, 7, 8, 9, 10], [0, 1, 2, 3, 4, 5, 6, 7, 8, 9, 10, 11], [0, 1, 2, 3, 4, 5, 6, 7, 8, 9, 10, 11, 12], [0, 1, 2, 3, 4, 5, 6, 7, 8, 9, 10, 11, 12, 13], [0, 1, 2, 3, 4, 5, 6, 7, 8, 9, 10, 11, 12, 13, 14]] mixed (by kernel_rfl) ?_ fun R hR => ?_
    ·refine K51 _ _ ?_
     simp only [go_sem, hx]
     refine W_cond rfl (fun c19 => ?_) (fun c19 => ?_)
     ·
      try simp only [nrm] at c19
      have hst : stepM (sc, g, kindM i g false) x = none := by
       unfold stepM
       rw [hp]
       show takeM _ w n = none
       rw [take_more hi2, if_neg (by rintro ⟨q, _⟩; rw [hw] at q; revert q; decide), if_neg (by rintro ⟨q, _⟩; rw [hw] at q; revert q; decide), if_neg (by rintro ⟨q, _⟩; rw [hw] at q; revert q; decide), if_neg]
       rintro ⟨_, q1, q2⟩
       have q3 : ¬ i < 2 := by omega
       have q4 : (!decide (n.length = 1) || !decide (n.getD 0 0 = (g.opened.length : Int)) || decide ((i : Int) < 2)) = false := by rw [decide_eq_true q1, decide_eq_true q2, decide_eq_false (by omega)]; rfl
       first | (rw [q4] at c19; cases c19; done) | exact absurd c19 (by rw [q4]; simp)
      rw [rowsM_none hst] at hinv
      have hres2 : readM s = (sc0, ng0, (i : Int) + 1, 1) := by rw [hres]; exact readR_bad (by rw [hR0]; exact hinv.symm) (by omega)
      refine W_exit ?_
      simp only [go_sem, hx]
      refine K9 _ _ ?_
      refine W_seq fun Z52 K52 => ?_
      refine W_block ?_
      refine W_sr [2, 3, 6, 7, 8, 9, 187] fun R hR => ?_
      simp only [go_sem, hx]
      refine hR _ _ ?_; clear hR R
      try simp only [go_sem, hx]
      refine W_cond rfl (fun c20 => ?_) (fun c20 => ?_)
      ·
       try simp only [nrm] at c20
       refine W_sr [2, 3, 4, 5] fun R hR => ?_
       simp only [go_sem, hx]
       refine hR _ _ ?_; clear hR R
       try simp only [go_sem, hx]
       refine W_ret ?_
       simp only [go_sem, hx]
       refine ⟨.inr (by trivial), ?_⟩
       refine Fin_same hcl (by show resPV Tryz.prog _ _ [.cell 2 24, .cell 3 35, .tmp 4, .tmp 5] = some _; simp only [resPV, go_sem]; rfl) (Wk.ro (by simp only [go_sem]) ?_)
       try simp only [go_sem]
       all_goals
        first | (rw [hres2]; done) | (rw [hres]; done) | (rw [hres2]; rfl) | (rw [hres]; rfl)
      try simp only [nrm] at c20
      exfalso
      first | omega | (simp at c20; omega) | (simp_all; done) | (simp_all; omega)
     try simp only [nrm] at c19
     obtain ⟨⟨h1, h0⟩, _⟩ : (n.length = 1 ∧ n.getD 0 0 = (g.opened.length : Int)) ∧ (2 : Int) ≤ (i : Int) := by simpa using c19
     have htk : takeM (sc, g, kindM i g false) w n = some (sc, g, 5) := by
      rw [take_more hi2, if_neg (by rintro ⟨q, _⟩; rw [hw] at q; revert q; decide), if_neg (by rintro ⟨q, _⟩; rw [hw] at q; revert q; decide), if_neg (by rintro ⟨q, _⟩; rw [hw] at q; revert q; decide), if_pos ⟨hw, h1, h0⟩]
     have hst : stepM (sc, g, kindM i g false) x = some (sc, g, 5) := by
      unfold stepM
      rw [hp]
      exact htk
     have hrk := hk.take (by omega) htk
     rw [rowsM_some hst] at hinv
     refine W_skip (K50 _ _ ?_)
     refine W_region [2, 3, 6, 7, 9, 28, 29, 30] fun R hR => ?_
     simp only [go_sem, hx]
     refine hR _ _ (K22 _ _ ?_); clear hR R; try clear K22 Z22
     try simp only [go_sem, hx]
     refine W_region [2, 3, 6, 7, 8, 9, 28, 29, 30] fun R hR => ?_
     simp only [go_sem, hx]
     refine hR _ _ (K13 _ _ ?_); clear hR R; try clear K13 Z13
     try simp only [go_sem, hx]
     refine W_region [2, 3, 6, 7, 8, 9, 28, 29, 30] fun R hR => ?_
     simp only [go_sem, hx]
     try simp (disch := (first | omega | (simp only [go_sem, List.length_append] <;> omega))) only [wrapI, wrapU, strAdd, slT, slTa, slTb]
     refine hR _ _ ?_; clear hR R
     try simp only [go_sem, hx]
     refine ⟨(i + 1, sc, g, true), ?_, by (try simp only []); omega, ?_⟩
     ·first | exact Weak.refl | exact Wqq
     try dsimp only
     refine ⟨by omega, hrk, fun h => by omega, fun h => by omega, ?_⟩
     rw [kindM_end (by omega)]
     exact hinv
    simp only [go_sem, hx, Int.reduceToNat, Int.toNat_zero, Int.le_refl]
    refine GWant_split (fun g3 => ?_) (fun g3 => ?_)
    ·try simp only [Bool.not_eq_true', Bool.not_eq_false'] at g3
     have n3 := g3; try simp only [nrm] at n3
     have hz1 : n.length = 1 := by first | omega | (simp at g3; omega) | (simp_all; done)
     have hz0 : n[0]? = some (n.getD 0 0) := by simp [hz1]
     simp only [go_sem, hx, hz0, Int.reduceToNat, Int.toNat_zero, Int.le_refl, g3]
     refine GWant_split (fun g4 => ?_) (fun g4 => ?_)
     ·try simp only [Bool.not_eq_true', Bool.not_eq_false'] at g4
      have n4 := g4; try simp only [nrm] at n4
      simp only [go_sem, hx, hz0, Int.reduceToNat, Int.toNat_zero, Int.le_refl, g3, g4]
      try refine And.intro (by repeat' (first | refine And.intro ?_ ?_ | exact trivial | exact GOr_right (fun _ => by simp only [go_sem, hx, hz0, Int.reduceToNat, Int.toNat_zero, Int.le_refl]))) ?_
      refine hR _ ?_
      all_goals try simp only [go_sem, hx, hz0, Int.reduceToNat, Int.toNat_zero, Int.le_refl]
      all_goals
       first | rfl | (simp [*]; omega) | (have hn1 : ¬ n.length = 1 := (by first | omega | (simp at g3; omega)); simp [hn1]; done) | (simp [*]; done) | (simp_all; done)
     try simp only [Bool.not_eq_true', Bool.not_eq_false'] at g4
     have n4 := g4; try simp only [nrm] at n4
     simp only [go_sem, hx, hz0, Int.reduceToNat, Int.toNat_zero, Int.le_refl, g3, g4]
     try refine And.intro (by repeat' (first | refine And.intro ?_ ?_ | exact trivial | exact GOr_right (fun _ => by simp only [go_sem, hx, hz0, Int.reduceToNat, Int.toNat_zero, Int.le_refl]))) ?_
     refine hR _ ?_
     all_goals try simp only [go_sem, hx, hz0, Int.reduceToNat, Int.toNat_zero, Int.le_refl]
     all_goals
      first | rfl | (simp [*]; omega) | (have hn1 : ¬ n.length = 1 := (by first | omega | (simp at g3; omega)); simp [hn1]; done) | (simp [*]; done) | (simp_all; done)
    try simp only [Bool.not_eq_true', Bool.not_eq_false'] at g3
    have n3 := g3; try simp only [nrm] at n3
    simp only [go_sem, hx, Int.reduceToNat, Int.toNat_zero, Int.le_refl, g3]
    try refine And.intro (by repeat' (first | refine And.intro ?_ ?_ | exact trivial | exact GOr_right (fun _ => by simp only [go_sem, hx, Int.reduceToNat, Int.toNat_zero, Int.le_refl]))) ?_
    refine hR _ ?_
    all_goals try simp only [go_sem, hx, Int.reduceToNat, Int.toNat_zero, Int.le_refl]
    all_goals
     first | rfl | (simp [*]; omega) | (have hn1 : ¬ n.length = 1 := (by first | omega | (simp at g3; omega)); simp [hn1]; done) | (simp [*]; done) | (simp_all; done)
   try simp only [nrm] at c18
   have hst : stepM (sc, g, kindM i g false) x = none := by
    unfold stepM
    rw [hp]
    show takeM _ w n = none
    rw [take_more hi2]
    simp only [marksW, absentW, fineW, endW]
    simp_all
   rw [rowsM_none hst] at hinv
   have hres2 : readM s = (sc0, ng0, (i : Int) + 1, 1) := by rw [hres]; exact readR_bad (by rw [hR0]; exact hinv.symm) (by omega)
   refine W_exit ?_
   simp only [go_sem, hx]
   refine K9 _ _ ?_
   refine W_seq fun Z55 K55 => ?_
   refine W_block ?_
   refine W_sr [2, 3, 6, 7, 8, 9, 187] fun R hR => ?_
   simp only [go_sem, hx]
   refine hR _ _ ?_; clear hR R
   try simp only [go_sem, hx]
   refine W_cond rfl (fun c21 => ?_) (fun c21 => ?_)
   ·
    try simp only [nrm] at c21
    refine W_sr [2, 3, 4, 5] fun R hR => ?_
    simp only [go_sem, hx]
    refine hR _ _ ?_; clear hR R
    try simp only [go_sem, hx]
    refine W_ret ?_
    simp only [go_sem, hx]
    refine ⟨.inr (by trivial), ?_⟩
    refine Fin_same hcl (by show resPV Tryz.prog _ _ [.cell 2 24, .cell 3 35, .tmp 4, .tmp 5] = some _; simp only [resPV, go_sem]; rfl) (Wk.ro (by simp only [go_sem]) ?_)
    try simp only [go_sem]
    all_goals
     first | (rw [hres2]; done) | (rw [hres]; done) | (rw [hres2]; rfl) | (rw [hres]; rfl)
   try simp only [nrm] at c21
   exfalso
   first | omega | (simp at c21; omega) | (simp_all; done) | (simp_all; omega)
  simp only [go_sem, hx]
  refine GWant_split (fun g5 => ?_) (fun g5 => ?_)
  ·try simp only [Bool.not_eq_true', Bool.not_eq_false'] at g5
   have n5 := g5; try simp only [nrm] at n5
   simp only [go_sem, hx, g5]
   refine GWant_split (fun g6 => ?_) (fun g6 => ?_)
   ·try simp only [Bool.not_eq_true', Bool.not_eq_false'] at g6
    have n6 := g6; try simp only [nrm] at n6
    simp only [go_sem, hx, g5, g6]
    refine GWant_split (fun g7 => ?_) (fun g7 => ?_)
    ·try simp only [Bool.not_eq_true', Bool.not_eq_false'] at g7
     have n7 := g7; try simp only [nrm] at n7
     simp only [go_sem, hx, g5, g6, g7]
     refine hR _ ?_
     all_goals try simp only [go_sem, hx]
     all_goals
      first | rfl | (simp [*]; done) | (simp [*, bne]; done) | (simp_all; done)
    try simp only [Bool.not_eq_true', Bool.not_eq_false'] at g7
    have n7 := g7; try simp only [nrm] at n7
    simp only [go_sem, hx, g5, g6, g7]
    refine hR _ ?_
    all_goals try simp only [go_sem, hx]
    all_goals
     first | rfl | (simp [*]; done) | (simp [*, bne]; done) | (simp_all; done)
   try simp only [Bool.not_eq_true', Bool.not_eq_false'] at g6
   have n6 := g6; try simp only [nrm] at n6
   simp only [go_sem, hx, g5, g6]
   refine hR _ ?_
   all_goals try simp only [go_sem, hx]
   all_goals
    first | rfl | (simp [*]; done) | (simp [*, bne]; done) | (simp_all; done)
  try simp only [Bool.not_eq_true', Bool.not_eq_false'] at g5
  have n5 := g5; try simp only [nrm] at n5
  simp only [go_sem, hx, g5]
  refine hR _ ?_
  all_goals try simp only [go_sem, hx]
  all_goals
   first | rfl | (simp [*]; done) | (simp [*, bne]; done) | (simp_all; done)
 try simp only [nrm] at c2
 have hie : i = R.length := by first | omega | (simp at c2; omega)
 have hdrop : R.drop i = [] := List.drop_eq_nil_of_le (by omega)
 rw [hdrop] at hinv
 simp only [rowsM] at hinv
 have hfin := hinv.symm
 have hsok : sc.Ok := ⟨by have := hk.so; omega⟩
 have hgok : g.Ok := ⟨by have := hk.op; omega, by have := hk.ab; omega, by have := hk.fi; omega, fun e he => by have := hk.mks e he; omega⟩
 refine W_exit ?_
 simp only [go_sem]
 refine K9 _ _ ?_
 refine W_seq fun Z58 K58 => ?_
 refine W_block ?_
 refine W_sr [2, 3, 6, 7, 8, 9, 187] fun R hR => ?_
 simp only [go_sem]
 refine hR _ _ ?_; clear hR R
 try simp only [go_sem]
 refine W_cond rfl (fun c22 => ?_) (fun c22 => ?_)
 ·
  try simp only [nrm] at c22
  exfalso
  first | omega | (simp at c22; omega) | (simp_all; done) | (simp_all; omega)
 try simp only [nrm] at c22
 refine W_seq fun Z60 K60 => ?_
 refine W_sr [2, 3, 6, 7, 193] fun R hR => ?_
 simp only [go_sem]
 refine hR _ _ ?_; clear hR R
 try simp only [go_sem]
 refine W_cond rfl (fun c23 => ?_) (fun c23 => ?_)
 ·
  try simp only [nrm] at c23
  have he0 : ended = false := by simpa using c23
  have hres2 : readM s = (sc0, ng0, (rows.length : Int), 1) := by
   rw [hres]
   refine readR_open (by rw [hR0]; exact hfin) (.inl ?_)
   show kindM i g ended ≠ 5
   subst he0
   unfold kindM
   repeat' split
   all_goals first | omega | simp_all
  refine W_skip (K60 _ _ ?_)
  refine W_cond_true (by first | rfl | (simp only [go_sem]; simp [c23])) ?_
  refine W_sr [2, 3, 4, 5] fun R hR => ?_
  simp only [go_sem]
  try simp (disch := (first | omega | (simp only [go_sem, List.length_append] <;> omega))) only [wrapI, wrapU, strAdd, slT, slTa, slTb]
  refine hR _ _ ?_; clear hR R
  try simp only [go_sem]
  refine W_ret ?_
  simp only [go_sem]
  refine ⟨.inr (by trivial), ?_⟩
  refine Fin_same hcl (by show resPV Tryz.prog _ _ [.cell 2 24, .cell 3 35, .tmp 4, .tmp 5] = some _; simp only [resPV, go_sem]; rfl) (Wk.ro (by simp only [go_sem]) ?_)
  try simp only [go_sem]
  all_goals
   rw [show (rows.length : Int) - 1 + 1 = (rows.length : Int) by omega, hres2]; rfl
 try simp only [nrm] at c23
 have he1 : ended = true := by simpa using c23
 have hk5 : kindM i g ended = 5 := by rw [he1]; exact kindM_end (by have := hend he1; omega)
 rw [hk5] at hfin
 refine W_region [2, 3, 7, 193] fun R hR => ?_
 simp only [go_sem, hlast, hposl]
 refine hR _ _ (K60 _ _ ?_); clear hR R; try clear K60 Z60
 try simp only [go_sem]
 refine W_cond rfl (fun c24 => ?_) (fun c24 => ?_)
 ·
  try simp only [nrm] at c24
  have hres2 : readM s = (sc0, ng0, (rows.length : Int), 1) := by
   rw [hres]
   refine readR_open (by rw [hR0]; exact hfin) (.inr ?_)
   rw [hxl]
   simpa using c24
  refine W_sr [2, 3, 4, 5] fun R hR => ?_
  simp only [go_sem]
  try simp (disch := (first | omega | (simp only [go_sem, List.length_append] <;> omega))) only [wrapI, wrapU, strAdd, slT, slTa, slTb]
  refine hR _ _ ?_; clear hR R
  try simp only [go_sem]
  refine W_ret ?_
  simp only [go_sem]
  refine ⟨.inr (by trivial), ?_⟩
  refine Fin_same hcl (by show resPV Tryz.prog _ _ [.cell 2 24, .cell 3 35, .tmp 4, .tmp 5] = some _; simp only [resPV, go_sem]; rfl) (Wk.ro (by simp only [go_sem]) ?_)
  try simp only [go_sem]
  all_goals
   rw [show (rows.length : Int) - 1 + 1 = (rows.length : Int) by omega, hres2]; rfl
 try simp only [nrm] at c24
 have hres2 : readM s = if knownE sc g ≠ 0 then (sc0, ng0, 0, knownE sc g) else (sc, g, 0, 0) := by
  rw [hres]
  exact readR_end (st := (sc, g, 5)) (by rw [hR0]; exact hfin) (by rw [hxl]; simpa using c24)
 refine W_skip (K58 _ _ ?_)
 refine W_seq fun Z64 K64 => ?_
 refine W_sr [2, 3, 15] fun R hR => ?_
 simp only [go_sem]
 refine GCall_of (PC.ofRo (CheckNight_pc Y _ sc g hsok hgok) (by simp only [go_sem] <;> rfl)) ?_
 simp only [go_sem]
 refine hR _ _ ?_; clear hR R
 try simp only [go_sem]
 refine W_sr [2, 3, 15, 209] fun R hR => ?_
 simp only [go_sem]
 refine hR _ _ ?_; clear hR R
 try simp only [go_sem]
 refine W_cond rfl (fun c25 => ?_) (fun c25 => ?_)
 ·
  try simp only [nrm] at c25
  rw [if_pos (by simpa using c25)] at hres2
  refine W_sr [2, 3, 4, 5] fun R hR => ?_
  simp only [go_sem]
  refine hR _ _ ?_; clear hR R
  try simp only [go_sem]
  refine W_ret ?_
  simp only [go_sem]
  refine ⟨.inr (by trivial), ?_⟩
  refine Fin_same hcl (by show resPV Tryz.prog _ _ [.cell 2 24, .cell 3 35, .tmp 4, .tmp 5] = some _; simp only [resPV, go_sem]; rfl) (Wk.ro (by simp only [go_sem]) ?_)
  try simp only [go_sem]
  all_goals
   first | (rw [hres2]; done) | (rw [hres]; done) | (rw [hres2]; rfl) | (rw [hres]; rfl)
 try simp only [nrm] at c25
 rw [if_neg (by simpa using c25)] at hres2
 refine W_skip (K64 _ _ ?_)
 refine W_seq fun Z68 K68 => ?_
 refine W_draw [2, 3, 4, 5] [0, 1, 2, 3, 4, 5] [(1, 3)] [[], [], [0], [0, 1, 2], [0, 1, 2, 3], [0, 1, 2, 3, 4]] mixed (by kernel_rfl) fun R hR => ?_
 simp only [go_sem]
 try refine And.intro (by repeat' (first | refine And.intro ?_ ?_ | exact trivial | exact GOr_right (fun _ => by simp only [go_sem]))) ?_
 refine hR _ _ (K68 _ _ ?_); clear hR R; try clear K68 Z68
 try simp only [go_sem]
 refine W_ret ?_
 simp only [go_sem]
 refine ⟨.inr (by trivial), ?_⟩
 refine Fin_same hcl (by show resPV Tryz.prog _ _ [.cell 2 24, .cell 3 35, .tmp 4, .tmp 5] = some _; simp only [resPV, go_sem]; rfl) (Wk.ro (by simp only [go_sem]) ?_)
 try simp only [go_sem]
 all_goals
  first | (rw [hres2]; done) | (rw [hres]; done) | (rw [hres2]; rfl) | (rw [hres]; rfl)
set_option maxHeartbeats 2000000 in
theorem rReadL_pc (Y : YEnv) (σ : Sg) (s : List UInt8) (hs : 3000 < s.length) :
 PC Tryz.prog Y 29 [txt s] σ (ansPV (readM s)) (σ) := by
 refine PC_of_W Tryz.func29 rfl (by kernel_rfl) Tryz.ntmps29 (by simp) fun hcl hca => ?_
 refine W_sr [0, 2, 3] fun R hR => ?_
 simp only [go_sem]
 refine hR _ _ ?_; clear hR R
 try simp only [go_sem]
 refine W_seq fun Z2 K2 => ?_
 refine W_sr [0, 2, 3, 17] fun R hR => ?_
 simp only [go_sem]
 refine hR _ _ ?_; clear hR R
 try simp only [go_sem]
 refine W_cond rfl (fun c1 => ?_) (fun c1 => ?_)
 ·
  try simp only [nrm] at c1
  have hres : readM s = (sc0, ng0, 0, 6) := by unfold readM; rw [if_pos (by omega)]
  refine W_sr [2, 3, 4, 5] fun R hR => ?_
  simp only [go_sem]
  refine hR _ _ ?_; clear hR R
  try simp only [go_sem]
  refine W_ret ?_
  simp only [go_sem]
  refine ⟨.inr (by trivial), ?_⟩
  refine Fin_same hcl (by show resPV Tryz.prog _ _ [.cell 2 24, .cell 3 35, .tmp 4, .tmp 5] = some _; simp only [resPV, go_sem]; rfl) (Wk.ro (by simp only [go_sem]) ?_)
  try simp only [go_sem]
  all_goals
   first | (rw [hres]; done) | (rw [hres]; rfl)
 try simp only [nrm] at c1
 exfalso
 omega
set_option maxHeartbeats 2000000 in
theorem ReadL_pc (Y : YEnv) (σ : Sg) (s : List UInt8) (hs : 3000 < s.length) :
 PC Tryz.prog Y 28 [txt s] σ (ansPV (readM s)) (σ) := by
 refine PC_of_W Tryz.func28 rfl (by kernel_rfl) Tryz.ntmps28 (by simp) fun hcl hca => ?_
 refine W_sr [0, 2, 3] fun R hR => ?_
 simp only [go_sem]
 refine hR _ _ ?_; clear hR R
 try simp only [go_sem]
 refine W_scope ?_
 refine W_seq fun Z2 K2 => ?_
 refine W_sr [0, 2, 3, 18] fun R hR => ?_
 simp only [go_sem]
 refine hR _ _ ?_; clear hR R
 try simp only [go_sem]
 refine W_cond rfl (fun c1 => ?_) (fun c1 => ?_)
 ·
  try simp only [nrm] at c1
  have hres : readM s = (sc0, ng0, 0, 6) := by unfold readM; rw [if_pos (by omega)]
  refine W_sr [2, 3, 4, 5] fun R hR => ?_
  simp only [go_sem]
  refine hR _ _ ?_; clear hR R
  try simp only [go_sem]
  refine W_ret ?_
  simp only [go_sem]
  refine ⟨.inr (by trivial), ?_⟩
  refine Fin_same hcl (by show resPV Tryz.prog _ _ [.cell 2 24, .cell 3 35, .tmp 4, .tmp 5] = some _; simp only [resPV, go_sem]; rfl) (Wk.ro (by simp only [go_sem]) ?_)
  try simp only [go_sem]
  all_goals
   first | (rw [hres]; done) | (rw [hres]; rfl)
 try simp only [nrm] at c1
 exfalso
 omega
theorem rReadM_pc (Y : YEnv) (σ : Sg) (s : List UInt8) : PC Tryz.prog Y 29 [txt s] σ (ansPV (readM s)) σ := by
 by_cases h : 3000 < s.length
 ·exact rReadL_pc Y σ s h
 exact rRead_pc Y σ s (by omega)
theorem ReadM_pc (Y : YEnv) (σ : Sg) (s : List UInt8) : PC Tryz.prog Y 28 [txt s] σ (ansPV (readM s)) σ := by
 by_cases h : 3000 < s.length
 ·exact ReadL_pc Y σ s h
 exact Read_pc Y σ s (by omega)
theorem readM_err {s : List UInt8} (h : (readM s).2.2.2 ≠ 0) : (readM s).1 = sc0 ∧ (readM s).2.1 = ng0 := by
 unfold readM at h ⊢
 split
 ·exact ⟨rfl, rfl⟩
 rename_i h1
 rw [if_neg h1] at h
 unfold readR at h ⊢
 repeat' split
 all_goals first | exact ⟨rfl, rfl⟩ | skip
 rename_i h2 h3 h4
 rw [if_neg h2, if_neg h3, if_neg h4] at h
 exact absurd rfl h
theorem readM_known {s : List UInt8} (h : (readM s).2.2.2 = 0) : knownE (readM s).1 (readM s).2.1 = 0 := by
 unfold readM at h ⊢
 split
 ·rename_i h1; rw [if_pos h1] at h; cases h
 rename_i h1
 rw [if_neg h1] at h
 unfold readR at h ⊢
 split
 ·rename_i h2; rw [if_pos h2] at h; cases h
 rename_i h2
 rw [if_neg h2] at h
 split
 ·rename_i h3; rw [if_pos h3] at h; cases h
 rename_i h3
 rw [if_neg h3] at h
 split
 ·rename_i h4; rw [if_pos h4] at h; exact absurd h h4
 rename_i h4; simpa using h4
theorem NightK.okS {s : Scale} {n : Night} (h : NightK s n) : s.Ok := ⟨by have := h.ol; omega⟩
theorem NightK.okN {s : Scale} {n : Night} (h : NightK s n) : n.Ok := ⟨by have := h.el; omega, by have := h.al; omega, by have := h.fl; omega, fun e he => by have := (h.ev e he).l; omega⟩
theorem readM_ok (s : List UInt8) : (readM s).1.Ok ∧ (readM s).2.1.Ok := by
 by_cases h : (readM s).2.2.2 = 0
 ·have := night_k (readM_known h)
  exact ⟨this.okS, this.okN⟩
 obtain ⟨h1, h2⟩ := readM_err h
 rw [h1, h2]
 exact ⟨⟨by simp [sc0]⟩, ⟨by simp [ng0], by simp [ng0], by simp [ng0], fun e he => by cases he⟩⟩
theorem minA_len (s : Scale) (n : Night) : (minA s n).1.length ≤ 3000 := by
 unfold minA
 repeat' split
 all_goals first | (simp; done) | (simp only []; omega) | (show (minT s n).length ≤ 3000; omega)
theorem Scale.V.okS2 {s : Scale} (h : s.V) : s.Ok := ⟨by have := h.ol; have := h.mt; omega⟩
theorem okC_sc2 {xs : List Scale} : okC 7 (xs.map scPV) = True := okC_map fun x => by simp [okC, scPV, scCells, PV.cells, PV.scalar]
theorem okC_ng2 {xs : List Night} : okC 3 (xs.map ngPV) = True := okC_map fun x => by simp [okC, ngPV, ngCells, PV.cells, PV.scalar]
theorem cA_sc2 {a b c : Nat} {xs : List Scale} : CleanAll a b c (xs.map scPV) = True := CleanAll_map clean_sc
theorem cA_ng2 {a b c : Nat} {xs : List Night} : CleanAll a b c (xs.map ngPV) = True := CleanAll_map clean_ng
attribute [go_sem] okC_sc2 okC_ng2 cA_sc2 cA_ng2
/-- What may come in. -/
structure RawIn2 (s : Scale) (n : Night) : Prop where
 hs : s.order.length < 2 ^ 50
 ho : n.opened.length < 2 ^ 50
 ha : n.absent.length < 2 ^ 50
 hf : n.fines.length < 2 ^ 50
 hm : ∀ x, x ∈ n.opened → x.marks.length < 2 ^ 50
set_option maxHeartbeats 16000000 in
theorem MarksMinutes_pc (Y : YEnv) (σ : Sg) (s : Scale) (n : Night) (t : List UInt8) (nums : List Int) (at' how by' : Int) (hIn : RawIn2 s n) (hn : nums.length < 2 ^ 60) (h1 : -9223372036854775808 ≤ at') (h2 : at' ≤ 9223372036854775807) (h3 : -9223372036854775808 ≤ how) (h4 : how ≤ 9223372036854775807) :
 PC Tryz.prog Y 4 [scPV s, ngPV n, txt t, ints nums, I at', I how, .int .u8 by'] σ (.bool true) (σ) := by
 refine PC_of_W Tryz.func4 rfl (by kernel_rfl) Tryz.ntmps4 (by simp) fun hcl hca => ?_
 obtain ⟨b0, hb0⟩ : ∃ z, drumB nums 2685821657736338717 = z := ⟨_, rfl⟩
 obtain ⟨sm, hsm⟩ : ∃ zz, (scaleD 5 b0).1 = zz := ⟨_, rfl⟩
 obtain ⟨b1, hb1⟩ : ∃ zz, (scaleD 5 b0).2 = zz := ⟨_, rfl⟩
 have dsm := scaleD_ok 5 (by omega) (by omega) b0
 simp only [hsm] at dsm
 obtain ⟨dec, hdec⟩ : ∃ zz, (rare 2 b1).1 = zz := ⟨_, rfl⟩
 obtain ⟨b2, hb2⟩ : ∃ zz, (rare 2 b1).2 = zz := ⟨_, rfl⟩
 have hsc := dsm.1
 have hvS := Scale.v hsc
 have q3 := hvS.sc
 have hsO := hvS.okS2
 obtain ⟨gm, hgm⟩ : ∃ zz, (nightD sm dec b2).1 = zz := ⟨_, rfl⟩
 obtain ⟨b3, hb3⟩ : ∃ zz, (nightD sm dec b2).2 = zz := ⟨_, rfl⟩
 have dgm := nightD_ok hsc dec b2
 simp only [hgm] at dgm
 have hgO := dgm.v.ok
 refine W_sr [2, 3, 4, 5, 6, 7, 8] fun R hR => ?_
 simp only [go_sem, hb0, hsm, hb1, hdec, hb2, hgm, hb3]
 refine hR _ _ ?_; clear hR R
 try simp only [go_sem, hb0, hsm, hb1, hdec, hb2, hgm, hb3]
 refine W_seq fun Z2 K2 => ?_
 refine W_seq fun Z3 K3 => ?_
 refine W_regionJ [2, 3, 4, 5, 6, 7, 8, 46] [(46, .bool (wideB s n || (decide ((1000 : Int) < t.length) && decide ((t.length : Int) ≤ 3000))))] ?_ fun R hR => ?_
 ·refine K3 _ _ ?_
  simp only [go_sem, hb0, hsm, hb1, hdec, hb2, hgm, hb3]
  refine W_cond rfl (fun c1 => ?_) (fun c1 => ?_)
  ·
   try simp only [nrm] at c1
   refine W_sr [14] fun R hR => ?_
   simp only [go_sem, hb0, hsm, hb1, hdec, hb2, hgm, hb3]
   refine GCall_of (awake_pc Y _) ?_
   simp only [go_sem, hb0, hsm, hb1, hdec, hb2, hgm, hb3]
   refine hR _ _ ?_; clear hR R
   try simp only [go_sem, hb0, hsm, hb1, hdec, hb2, hgm, hb3]
   refine W_ret ?_
   simp only [go_sem, hb0, hsm, hb1, hdec, hb2, hgm, hb3]
   refine ⟨.inr (by trivial), ?_⟩
   first | refine Fsa hcl rfl ?_ | refine Fse hcl rfl ?_
   try simp only [go_sem]
   all_goals
    first | rfl | (simp_all; done) | (simp_all; omega)
  try simp only [nrm] at c1
  have few := wide_not (Bool.or_eq_false_iff.1 c1).1
  refine W_skip (K2 _ _ ?_)
  refine W_sr [2, 4, 5, 6, 7, 8, 15] fun R hR => ?_
  simp only [go_sem, hb0, hsm, hb1, hdec, hb2, hgm, hb3]
  refine GCall_of (DrumOf_pc Y _ nums hn) ?_
  simp only [go_sem, hb0, hsm, hb1, hdec, hb2, hgm, hb3]
  refine hR _ _ ?_; clear hR R
  try simp only [go_sem, hb0, hsm, hb1, hdec, hb2, hgm, hb3]
  refine W_sr [2, 4, 5, 6, 7, 8, 15, 16] fun R hR => ?_
  simp only [go_sem, hb0, hsm, hb1, hdec, hb2, hgm, hb3]
  refine GCall_of (ScaleOf_pc Y _ _ b0 (Sg.get_ext _ _ _ _ 2) 5 (by omega) (by omega)) ?_
  simp only [go_sem, hb0, hsm, hb1, hdec, hb2, hgm, hb3]
  refine hR _ _ ?_; clear hR R
  try simp only [go_sem, hb0, hsm, hb1, hdec, hb2, hgm, hb3]
  refine W_seq fun Z7 K7 => ?_
  refine W_draw [4, 5, 6, 17, 18, 19] [0, 1, 2, 3, 4, 5, 6, 7, 8, 9, 10, 11, 12, 13, 14] [(0, 8), (0, 15), (1, 8), (1, 15), (2, 8), (2, 15), (3, 8), (3, 15), (4, 8), (5, 8), (10, 7), (10, 8), (11, 7), (11, 8)] [[], [], [0, 1], [], [], [], [], [6], [4, 5, 6, 7], [3, 4, 5, 6, 7, 8], [], [10], [0, 1, 2, 4, 5, 6, 7, 8], [0, 1, 2, 3, 4, 5, 6, 7, 8, 9, 12], [0, 1, 2, 3, 4, 5, 6, 7, 8, 9, 10, 11, 12, 13]] mixed (by kernel_rfl) fun R hR => ?_
  simp only [go_sem, hb0, hsm, hb1, hdec, hb2, hgm, hb3]
  refine GCall_of (Rare_pc Y _ _ b1 (Sg.get_ext _ _ _ _ 2) 2 (by omega)) ?_
  simp only [go_sem, hb0, hsm, hb1, hdec, hb2, hgm, hb3]
  refine GCall_of (NightOf_pc Y _ _ b2 (Sg.get_ext _ _ _ _ 2) sm hvS hsO dec) ?_
  simp only [go_sem, hb0, hsm, hb1, hdec, hb2, hgm, hb3]
  try refine And.intro (by repeat' (first | refine And.intro ?_ ?_ | exact trivial | exact GOr_right (fun _ => by simp only [go_sem, hb0, hsm, hb1, hdec, hb2, hgm, hb3]))) ?_
  refine hR _ _ (K7 _ _ ?_); clear hR R; try clear K7 Z7
  try simp only [go_sem, hb0, hsm, hb1, hdec, hb2, hgm, hb3]
  refine W_seq fun Z8 K8 => ?_
  refine W_sr [4, 5, 6, 17, 18, 19, 20] fun R hR => ?_
  simp only [go_sem, hb0, hsm, hb1, hdec, hb2, hgm, hb3]
  refine hR _ _ ?_; clear hR R
  try simp only [go_sem, hb0, hsm, hb1, hdec, hb2, hgm, hb3]
  refine W_block ?_
  obtain ⟨ss, hss⟩ : ∃ z, z = [s, sm] := ⟨_, rfl⟩
  obtain ⟨ns, hns⟩ : ∃ z, z = [n, gm] := ⟨_, rfl⟩
  refine W_weak (Weak.eq (E' := [(4, I at'), (5, I how), (6, .int .u8 by'), (17, .isl (ss.map scPV) .exact), (18, .isl (ns.map ngPV) .exact), (19, .isl [txt t] .exact), (20, I 0)]) (by rw [hss, hns]; simp only [List.map_cons, List.map_nil, scPV, scCells, ngPV, ngCells]; first | done | rfl) rfl) ?_
  have ls : ss.length = 2 := by rw [hss]; rfl
  have ln : ns.length = 2 := by rw [hns]; rfl
  have hfs : ∀ z, z ∈ ss → z.Ok := fun z hz => by
   rw [hss] at hz; simp only [List.mem_cons, List.not_mem_nil, or_false] at hz
   rcases hz with rfl | rfl
   ·exact few.okS
   exact hsO
  have hfn : ∀ z, z ∈ ns → z.Ok := fun z hz => by
   rw [hns] at hz; simp only [List.mem_cons, List.not_mem_nil, or_false] at hz
   rcases hz with rfl | rfl
   ·exact few.okN
   exact hgO
  clear hss hns
  refine W_weak (Weak.room (t := 19) (es := 1) rfl (by simp)) ?_
  refine W_weak (Weak.keep [4, 5, 6, 17, 18, 19, 20]) ?_
  simp only [go_sem, hb0, hsm, hb1, hdec, hb2, hgm, hb3]
  refine W_loopT (α := Nat × (List (List UInt8))) (fun ⟨i, ts⟩ => [(19, .isl (ts.map txt) (.tok σ.rooms.length ts.length 1)), (20, I i)]) (fun ⟨i, ts⟩ => σ.ext [some (scCells s), some (ngCells n), some [.int .u64 b3], some (scCells sm)] [ts.length]) (fun ⟨i, ts⟩ => i ≤ 2 ∧ ts.length = i + 1 ∧ ∀ k p, 1 ≤ k → ts[k]? = some p → p.length ≤ 3000) (fun ⟨i, ts⟩ => 2 - i) ((0, [t])) rfl (by first | rfl | (simp only [go_sem]; done) | (simp only [go_sem]; rfl) | (simp [go_sem, scCells, ngCells]; done)) (⟨Nat.zero_le _, rfl, fun k p hk hp => by match k, hk with | k + 1, _ => simp at hp⟩) ?_
  rintro ⟨i, ts⟩ ⟨hi, htl, hlast⟩
  refine W_seq fun Z10 K10 => ?_
  refine W_sr [4, 5, 6, 17, 18, 19, 20, 67] fun R hR => ?_
  simp only [go_sem, hb0, hsm, hb1, hdec, hb2, hgm, hb3, ls]
  refine hR _ _ ?_; clear hR R
  try simp only [go_sem, hb0, hsm, hb1, hdec, hb2, hgm, hb3, ls]
  refine W_cond rfl (fun c2 => ?_) (fun c2 => ?_)
  ·
   try simp only [nrm] at c2
   have hi' : i < 2 := by first | assumption | omega
   obtain ⟨s1, hx1⟩ : ∃ z, ss[i]? = some z := ⟨ss[i]'(by rw [ls]; exact hi'), by simp⟩
   obtain ⟨n1, hx2⟩ : ∃ z, ns[i]? = some z := ⟨ns[i]'(by rw [ln]; exact hi'), by simp⟩
   have fs := hfs _ (List.mem_of_getElem? hx1)
   have fn := hfn _ (List.mem_of_getElem? hx2)
   obtain ⟨ws, hws⟩ : ∃ z, (minA s1 n1).1 = z := ⟨_, rfl⟩
   obtain ⟨we, hwe⟩ : ∃ z, (minA s1 n1).2 = z := ⟨_, rfl⟩
   have hwl := minA_len s1 n1
   rw [hws] at hwl
   refine W_skip (K10 _ _ ?_)
   refine W_seq fun Z12 K12 => ?_
   refine W_block ?_
   refine W_seq fun Z13 K13 => ?_
   refine W_draw [4, 5, 6, 17, 18, 19, 20, 21, 22] [0, 1, 2, 3, 4, 5, 6, 7, 8, 9, 10, 11, 12, 13] [] [[], [], [0, 1], [0, 1, 2], [], [], [4, 5], [4, 5, 6], [0, 1, 2, 3, 4, 5, 6, 7], [0, 1, 2, 3, 4, 5, 6, 7, 8], [0, 1, 2, 3, 4, 5, 6, 7, 8, 9], [0, 1, 2, 3, 4, 5, 6, 7, 8, 9], [0, 1, 2, 3, 4, 5, 6, 7, 8, 9, 10], [0, 1, 2, 3, 4, 5, 6, 7, 8, 9, 10, 11, 12]] mixed (by kernel_rfl) fun R hR => ?_
   simp only [go_sem, hb0, hsm, hb1, hdec, hb2, hgm, hb3, ls, hx1, hx2]
   refine GCall_of (PC.val (v' := .tuple [txt ws, I we]) (Write_pc Y _ s1 n1 fs fn) (by rw [hws, hwe])) ?_
   simp only [go_sem, hb0, hsm, hb1, hdec, hb2, hgm, hb3, ls, hx1, hx2]
   try refine And.intro (by repeat' (first | refine And.intro ?_ ?_ | exact trivial | exact GOr_right (fun _ => by simp only [go_sem, hb0, hsm, hb1, hdec, hb2, hgm, hb3, ls, hx1, hx2]))) ?_
   refine hR _ _ (K13 _ _ ?_); clear hR R; try clear K13 Z13
   try simp only [go_sem, hb0, hsm, hb1, hdec, hb2, hgm, hb3, ls, hx1, hx2]
   refine W_seq fun Z14 K14 => ?_
   refine W_draw [4, 5, 6, 17, 18, 19, 20, 21, 22, 23, 24] [0, 1, 2, 3, 4, 5, 6, 7, 8, 9, 10, 11, 12, 13] [] [[], [], [0, 1], [0, 1, 2], [], [], [4, 5], [4, 5, 6], [0, 1, 2, 3, 4, 5, 6, 7], [0, 1, 2, 3, 4, 5, 6, 7, 8], [0, 1, 2, 3, 4, 5, 6, 7, 8, 9], [0, 1, 2, 3, 4, 5, 6, 7, 8, 9], [0, 1, 2, 3, 4, 5, 6, 7, 8, 9, 10], [0, 1, 2, 3, 4, 5, 6, 7, 8, 9, 10, 11, 12]] mixed (by kernel_rfl) fun R hR => ?_
   simp only [go_sem, hb0, hsm, hb1, hdec, hb2, hgm, hb3, ls, hx1, hx2]
   refine GCall_of (PC.val (v' := .tuple [txt ws, I we]) (rWrite_pc Y _ s1 n1 fs fn) (by rw [hws, hwe])) ?_
   simp only [go_sem, hb0, hsm, hb1, hdec, hb2, hgm, hb3, ls, hx1, hx2]
   try refine And.intro (by repeat' (first | refine And.intro ?_ ?_ | exact trivial | exact GOr_right (fun _ => by simp only [go_sem, hb0, hsm, hb1, hdec, hb2, hgm, hb3, ls, hx1, hx2]))) ?_
   refine hR _ _ (K14 _ _ ?_); clear hR R; try clear K14 Z14
   try simp only [go_sem, hb0, hsm, hb1, hdec, hb2, hgm, hb3, ls, hx1, hx2]
   refine W_seq fun Z15 K15 => ?_
   refine W_sr [4, 5, 6, 17, 18, 19, 20, 23, 101] fun R hR => ?_
   simp only [go_sem, hb0, hsm, hb1, hdec, hb2, hgm, hb3, ls, hx1, hx2]
   refine hR _ _ ?_; clear hR R
   try simp only [go_sem, hb0, hsm, hb1, hdec, hb2, hgm, hb3, ls, hx1, hx2]
   refine W_cond rfl (fun c3 => ?_) (fun c3 => ?_)
   ·
    try simp only [nrm] at c3
    exfalso
    simp at c3
   try simp only [nrm] at c3
   refine W_skip (K15 _ _ ?_)
   refine W_region [4, 5, 6, 17, 18, 19, 20] fun R hR => ?_
   simp only [go_sem, hb0, hsm, hb1, hdec, hb2, hgm, hb3, ls, hx1, hx2]
   try simp (disch := (first | omega | (simp only [go_sem, List.length_append] <;> omega))) only [wrapI, wrapU, appX_exact, appX_tok, strAdd, slT, slTa, slTb]
   try simp only [go_sem, hb0, hsm, hb1, hdec, hb2, hgm, hb3, ls, hx1, hx2]
   refine hR _ _ (K12 _ _ ?_); clear hR R; try clear K12 Z12
   try simp only [go_sem, hb0, hsm, hb1, hdec, hb2, hgm, hb3, ls, hx1, hx2]
   refine W_region [4, 5, 6, 17, 18, 19, 20] fun R hR => ?_
   simp only [go_sem, hb0, hsm, hb1, hdec, hb2, hgm, hb3, ls, hx1, hx2]
   try simp (disch := (first | omega | (simp only [go_sem, List.length_append] <;> omega))) only [wrapI, wrapU, strAdd, slT, slTa, slTb]
   refine hR _ _ ?_; clear hR R
   try simp only [go_sem, hb0, hsm, hb1, hdec, hb2, hgm, hb3, ls, hx1, hx2]
   refine ⟨(i + 1, ts ++ [ws]), ?_, by (try simp only []); omega, ?_⟩
   ·first | exact Weak.refl | exact Wqq
   try dsimp only
   refine ⟨by omega, by simp; omega, fun k p hk hp => ?_⟩
   rw [List.getElem?_append] at hp
   split at hp
   ·exact hlast k p hk hp
   have hm := List.mem_of_getElem? hp
   simp only [List.mem_singleton] at hm
   rw [hm]; exact hwl
  try simp only [nrm] at c2
  have hie : i = 2 := by first | omega | (simp at c2; omega)
  obtain ⟨last, hl2⟩ : ∃ z, ts[2]? = some z := ⟨ts[2]'(by omega), by simp⟩
  have hll := hlast 2 last (by omega) hl2
  refine W_exit ?_
  simp only [go_sem, hb0, hsm, hb1, hdec, hb2, hgm, hb3, ls, hl2, Int.reduceToNat, Int.reduceLE, Int.le_refl]
  refine K8 _ _ ?_
  refine W_sr [19] fun R hR => ?_
  simp only [go_sem, hb0, hsm, hb1, hdec, hb2, hgm, hb3, ls, hl2, Int.reduceToNat, Int.reduceLE, Int.le_refl]
  refine GCall_of (Blot_pc Y _ last at' how by' (by omega) h1 h2 h3 h4) ?_
  simp only [go_sem, hb0, hsm, hb1, hdec, hb2, hgm, hb3, ls, hl2, Int.reduceToNat, Int.reduceLE, Int.le_refl]
  try simp (disch := (first | omega | (simp only [go_sem, List.length_append] <;> omega))) only [wrapI, wrapU, appX_exact, appX_tok, strAdd, slT, slTa, slTb]
  try simp only [go_sem, hb0, hsm, hb1, hdec, hb2, hgm, hb3, ls, hl2, Int.reduceToNat, Int.reduceLE, Int.le_refl]
  refine hR _ _ ?_; clear hR R
  try simp only [go_sem, hb0, hsm, hb1, hdec, hb2, hgm, hb3, ls, hl2, Int.reduceToNat, Int.reduceLE, Int.le_refl]
  refine W_seq fun Z18 K18 => ?_
  refine W_sr [19, 25] fun R hR => ?_
  simp only [go_sem, hb0, hsm, hb1, hdec, hb2, hgm, hb3, ls, hl2, Int.reduceToNat, Int.reduceLE, Int.le_refl]
  refine hR _ _ ?_; clear hR R
  try simp only [go_sem, hb0, hsm, hb1, hdec, hb2, hgm, hb3, ls, hl2, Int.reduceToNat, Int.reduceLE, Int.le_refl]
  refine W_block ?_
  obtain ⟨bl, hbl⟩ : ∃ z, z = blotT last at' how by' := ⟨_, rfl⟩
  rw [← hbl]
  obtain ⟨ts2, hts2⟩ : ∃ z, z = ts ++ [bl] := ⟨_, rfl⟩
  refine W_weak (Weak.ro 19) ?_
  refine W_weak (Weak.keep [19, 25]) ?_
  simp only [go_sem]
  refine W_weak (Weak.eq (E' := [(19, .isl (ts2.map txt) .ro), (25, I 0)]) (by rw [hts2]; simp only [List.map_append, List.map_cons, List.map_nil]; first | done | rfl) rfl) ?_
  have lt2 : ts2.length = 4 := by rw [hts2]; simp; omega
  clear hts2 hbl
  refine W_loopS (α := Nat) (fun (j : Nat) => [(25, I j)]) (fun (j : Nat) => j ≤ 4) (fun (j : Nat) => 4 - j) (0) rfl (Nat.zero_le _) ?_
  rintro j hj
  refine W_seq fun Z20 K20 => ?_
  refine W_sr [19, 25, 119] fun R hR => ?_
  simp only [go_sem, hb0, hsm, hb1, hdec, hb2, hgm, hb3, ls, hl2, Int.reduceToNat, Int.reduceLE, Int.le_refl, lt2]
  refine hR _ _ ?_; clear hR R
  try simp only [go_sem, hb0, hsm, hb1, hdec, hb2, hgm, hb3, ls, hl2, Int.reduceToNat, Int.reduceLE, Int.le_refl, lt2]
  refine W_cond rfl (fun c4 => ?_) (fun c4 => ?_)
  ·
   try simp only [nrm] at c4
   have hj' : j < 4 := by first | assumption | omega
   obtain ⟨s1, hx1⟩ : ∃ z, ts2[j]? = some z := ⟨ts2[j]'(by rw [lt2]; exact hj'), by simp⟩
   obtain ⟨x, hxa⟩ : ∃ z, (readM s1).1 = z := ⟨_, rfl⟩
   obtain ⟨y, hya⟩ : ∃ z, (readM s1).2.1 = z := ⟨_, rfl⟩
   obtain ⟨r, hra⟩ : ∃ z, (readM s1).2.2.1 = z := ⟨_, rfl⟩
   obtain ⟨e, hea⟩ : ∃ z, (readM s1).2.2.2 = z := ⟨_, rfl⟩
   have hok := readM_ok s1
   rw [hxa, hya] at hok
   refine W_skip (K20 _ _ ?_)
   refine W_seq fun Z22 K22 => ?_
   refine W_block ?_
   refine W_sr [19, 25, 26, 27, 28, 29] fun R hR => ?_
   simp only [go_sem, hb0, hsm, hb1, hdec, hb2, hgm, hb3, ls, hl2, Int.reduceToNat, Int.reduceLE, Int.le_refl, lt2, hx1]
   refine GCall_of (PC.val (v' := ansPV (x, y, r, e)) (ReadM_pc Y _ s1) (by rw [← hxa, ← hya, ← hra, ← hea])) ?_
   simp only [go_sem, hb0, hsm, hb1, hdec, hb2, hgm, hb3, ls, hl2, Int.reduceToNat, Int.reduceLE, Int.le_refl, lt2, hx1]
   refine hR _ _ ?_; clear hR R
   try simp only [go_sem, hb0, hsm, hb1, hdec, hb2, hgm, hb3, ls, hl2, Int.reduceToNat, Int.reduceLE, Int.le_refl, lt2, hx1]
   refine W_sr [19, 25, 26, 27, 28, 29, 30, 31, 32, 33] fun R hR => ?_
   simp only [go_sem, hb0, hsm, hb1, hdec, hb2, hgm, hb3, ls, hl2, Int.reduceToNat, Int.reduceLE, Int.le_refl, lt2, hx1]
   refine GCall_of (PC.val (v' := ansPV (x, y, r, e)) (rReadM_pc Y _ s1) (by rw [← hxa, ← hya, ← hra, ← hea])) ?_
   simp only [go_sem, hb0, hsm, hb1, hdec, hb2, hgm, hb3, ls, hl2, Int.reduceToNat, Int.reduceLE, Int.le_refl, lt2, hx1]
   refine hR _ _ ?_; clear hR R
   try simp only [go_sem, hb0, hsm, hb1, hdec, hb2, hgm, hb3, ls, hl2, Int.reduceToNat, Int.reduceLE, Int.le_refl, lt2, hx1]
   refine W_sr [19, 25, 161] fun R hR => ?_
   simp only [go_sem, hb0, hsm, hb1, hdec, hb2, hgm, hb3, ls, hl2, Int.reduceToNat, Int.reduceLE, Int.le_refl, lt2, hx1]
   refine GCall_of (EqScales_pc Y _ x hok.1) ?_
   simp only [go_sem, hb0, hsm, hb1, hdec, hb2, hgm, hb3, ls, hl2, Int.reduceToNat, Int.reduceLE, Int.le_refl, lt2, hx1]
   refine GCall_of (EqNights_pc Y _ y hok.2) ?_
   simp only [go_sem, hb0, hsm, hb1, hdec, hb2, hgm, hb3, ls, hl2, Int.reduceToNat, Int.reduceLE, Int.le_refl, lt2, hx1]
   refine hR _ _ ?_; clear hR R
   try simp only [go_sem, hb0, hsm, hb1, hdec, hb2, hgm, hb3, ls, hl2, Int.reduceToNat, Int.reduceLE, Int.le_refl, lt2, hx1]
   refine W_cond rfl (fun c5 => ?_) (fun c5 => ?_)
   ·
    try simp only [nrm] at c5
    exfalso
    simp at c5
   try simp only [nrm] at c5
   refine W_skip (K22 _ _ ?_)
   refine W_region [19, 25] fun R hR => ?_
   simp only [go_sem, hb0, hsm, hb1, hdec, hb2, hgm, hb3, ls, hl2, Int.reduceToNat, Int.reduceLE, Int.le_refl, lt2, hx1]
   try simp (disch := (first | omega | (simp only [go_sem, List.length_append] <;> omega))) only [wrapI, wrapU, strAdd, slT, slTa, slTb]
   refine hR _ _ ?_; clear hR R
   try simp only [go_sem, hb0, hsm, hb1, hdec, hb2, hgm, hb3, ls, hl2, Int.reduceToNat, Int.reduceLE, Int.le_refl, lt2, hx1]
   refine ⟨j + 1, ?_, by (try simp only []); omega, ?_⟩
   ·refine Weak.trans (Weak.cutX 4 1 (by omega) (by omega) hcl (by simp only [go_sem] <;> omega) (by simp only [go_sem] <;> omega)) ?_
    simp only [go_sem]
    exact Weak.eq (by first | rfl | (simp only [go_sem]; done) | (simp only [go_sem]; rfl) | (simp [go_sem]; done) | (simp [go_sem]; omega)) (by first | rfl | (simp only [go_sem]; done) | (simp [go_sem]; done))
   try dsimp only
   omega
  try simp only [nrm] at c4
  refine W_exit ?_
  simp only [go_sem, hb0, hsm, hb1, hdec, hb2, hgm, hb3, ls, hl2, Int.reduceToNat, Int.reduceLE, Int.le_refl, lt2]
  refine K18 _ _ ?_
  refine W_sr [14] fun R hR => ?_
  simp only [go_sem, hb0, hsm, hb1, hdec, hb2, hgm, hb3, ls, hl2, Int.reduceToNat, Int.reduceLE, Int.le_refl, lt2]
  refine GCall_of (awake_pc Y _) ?_
  simp only [go_sem, hb0, hsm, hb1, hdec, hb2, hgm, hb3, ls, hl2, Int.reduceToNat, Int.reduceLE, Int.le_refl, lt2]
  refine hR _ _ ?_; clear hR R
  try simp only [go_sem, hb0, hsm, hb1, hdec, hb2, hgm, hb3, ls, hl2, Int.reduceToNat, Int.reduceLE, Int.le_refl, lt2]
  refine W_ret ?_
  simp only [go_sem, hb0, hsm, hb1, hdec, hb2, hgm, hb3, ls, hl2, Int.reduceToNat, Int.reduceLE, Int.le_refl, lt2]
  refine ⟨.inr (by trivial), ?_⟩
  first | refine Fsa hcl rfl ?_ | refine Fse hcl rfl ?_
  try simp only [go_sem]
  all_goals
   first | rfl | (simp_all; done) | (simp_all; omega)
 simp only [go_sem, hb0, hsm, hb1, hdec, hb2, hgm, hb3]
 refine GCall_of (wide_pc Y _ s n hIn.hs hIn.ho hIn.ha hIn.hf hIn.hm) ?_
 simp only [go_sem, hb0, hsm, hb1, hdec, hb2, hgm, hb3]
 refine GWant_split (fun g1 => ?_) (fun g1 => ?_)
 ·try simp only [Bool.not_eq_true', Bool.not_eq_false'] at g1
  have n1 := g1; try simp only [nrm] at n1
  simp only [go_sem, hb0, hsm, hb1, hdec, hb2, hgm, hb3, g1]
  refine GWant_split (fun g2 => ?_) (fun g2 => ?_)
  ·try simp only [Bool.not_eq_true', Bool.not_eq_false'] at g2
   have n2 := g2; try simp only [nrm] at n2
   simp only [go_sem, hb0, hsm, hb1, hdec, hb2, hgm, hb3, g1, g2]
   refine hR _ ?_
   all_goals try simp only [go_sem, hb0, hsm, hb1, hdec, hb2, hgm, hb3]
   all_goals
    first | rfl | (simp [*]; done) | (simp_all; done) | (simp_all; omega)
  try simp only [Bool.not_eq_true', Bool.not_eq_false'] at g2
  have n2 := g2; try simp only [nrm] at n2
  simp only [go_sem, hb0, hsm, hb1, hdec, hb2, hgm, hb3, g1, g2]
  refine hR _ ?_
  all_goals try simp only [go_sem, hb0, hsm, hb1, hdec, hb2, hgm, hb3]
  all_goals
   first | rfl | (simp [*]; done) | (simp_all; done) | (simp_all; omega)
 try simp only [Bool.not_eq_true', Bool.not_eq_false'] at g1
 have n1 := g1; try simp only [nrm] at n1
 simp only [go_sem, hb0, hsm, hb1, hdec, hb2, hgm, hb3, g1]
 refine hR _ ?_
 all_goals try simp only [go_sem, hb0, hsm, hb1, hdec, hb2, hgm, hb3]
 all_goals
  first | rfl | (simp [*]; done) | (simp_all; done) | (simp_all; omega)
theorem knownErrSyntax {W : World} (h : laidMet Tryz.prog Rows.marksMinutesRow.laid W) : ∃ t x, W.cell? ⟨2, 0, none⟩ = some (.iface t x) := by
 obtain ⟨g, t, cs, fuel, p, hg, ht, hv, hd⟩ := Lib.laidMet.reads h (n := "strconv.ErrSyntax") (d := Rows.laid_strconv_ErrSyntax) (by simp [Rows.marksMinutesRow])
 obtain rfl := Option.some.inj ((show Tryz.prog.globalNamed "strconv.ErrSyntax" = some 2 by kernel_rfl).symm.trans hg)
 obtain rfl := Option.some.inj ((show (Tryz.prog.globals[2]?).map (·.type) = some 118 by kernel_rfl).symm.trans ht)
 obtain ⟨_, u, v, e1, _, _⟩ := iface_of_trod Tryz.underlying118 hd
 refine ⟨u, v, ?_⟩
 rw [World.var?_cell hg hv 0]
 have : cs.toList[0]? = some (.iface u v) := by rw [e1]; rfl
 simpa using this
theorem knownErrRange {W : World} (h : laidMet Tryz.prog Rows.marksMinutesRow.laid W) : ∃ t x, W.cell? ⟨3, 0, none⟩ = some (.iface t x) := by
 obtain ⟨g, t, cs, fuel, p, hg, ht, hv, hd⟩ := Lib.laidMet.reads h (n := "strconv.ErrRange") (d := Rows.laid_strconv_ErrRange) (by simp [Rows.marksMinutesRow])
 obtain rfl := Option.some.inj ((show Tryz.prog.globalNamed "strconv.ErrRange" = some 3 by kernel_rfl).symm.trans hg)
 obtain rfl := Option.some.inj ((show (Tryz.prog.globals[3]?).map (·.type) = some 118 by kernel_rfl).symm.trans ht)
 obtain ⟨_, u, v, e1, _, _⟩ := iface_of_trod Tryz.underlying118 hd
 refine ⟨u, v, ?_⟩
 rw [World.var?_cell hg hv 0]
 have : cs.toList[0]? = some (.iface u v) := by rw [e1]; rfl
 simpa using this
theorem knownMax {W : World} (hsh : W.ShapedOpen Tryz.prog) : ∃ m, W.cell? ⟨1, 0, none⟩ = some (.int .i64 m) :=
 cell_of_shapedOpen_int (P := Tryz.prog) (g := 1) (t := 3) (zero := #[.int .i64 0]) hsh (of_decide_eq_true (by kernel_rfl)) (by kernel_rfl) rfl (by kernel_rfl) (by kernel_rfl) Tryz.underlying3
/-- What the listed variables give. -/
theorem known (W : World) (hsh : W.ShapedOpen Tryz.prog) (h : laidMetH Tryz.prog Rows.marksMinutesRow.laid W) : Known Tryz.prog W := by
 rw [MakeChecks.laidMetH_plain _ _ _ (by kernel_rfl)] at h
 have hg : Tryz.prog.globalNamed "internal/strconv.uint64pow10" = some 0 := by kernel_rfl
 have h2 := h.filter (fun x => x.1 == "internal/strconv.uint64pow10")
 rw [show (Rows.marksMinutesRow.laid.filter fun x => x.1 == "internal/strconv.uint64pow10") = [("internal/strconv.uint64pow10", Lib.tabData .u64 Lib.pow10Tab)] by kernel_rfl] at h2
 obtain ⟨t, f, hh⟩ := known_tab (Lib.tabIs_of_head (t := 210) (e := 104) (n := 20) hg (by kernel_rfl) (by kernel_rfl) (by kernel_rfl) (by kernel_rfl) (by kernel_rfl) h2) hg
 have _ := hsh
 refine ⟨[(0, .whole pow10A)], fun b s hb => ?_, fun k hk => ?_, fun k hk => ?_, fun q n hn k hk => ?_⟩
 ·simp only [List.mem_singleton, Prod.mk.injEq] at hb
  obtain ⟨rfl, rfl⟩ := hb
  exact ⟨(Array.getElem?_eq_some_iff.1 hh).1, t, f, hh⟩
 ·obtain rfl := Option.some.inj (hg.symm.trans hk)
  exact List.mem_singleton.2 rfl
 ·obtain rfl := Option.some.inj ((show Tryz.prog.globalNamed "internal/bytealg.MaxLen" = some 1 by kernel_rfl).symm.trans hk)
  exact knownMax hsh
 simp only [List.mem_cons, List.not_mem_nil, or_false] at hn
 rcases hn with rfl | rfl
 ·obtain rfl := Option.some.inj ((show Tryz.prog.globalNamed "strconv.ErrSyntax" = some 2 by kernel_rfl).symm.trans hk)
  exact knownErrSyntax h
 obtain rfl := Option.some.inj ((show Tryz.prog.globalNamed "strconv.ErrRange" = some 3 by kernel_rfl).symm.trans hk)
 exact knownErrRange h
theorem rdMarksMinutesArgs : All2 (fun t R => Rd Tryz.prog t R) Tryz.f4.params.toList [fun p => ∃ s : Scale, p = scPV s ∧ scaleSz s, fun p => ∃ n : Night, p = ngPV n ∧ nightSz n, fun p => ∃ l : List UInt8, p = txt l, fun p => ∃ xs : List Int, p = ints xs ∧ xs.length * 8 ≤ 140737488351232, fun p => ∃ n : Int, p = I n ∧ -9223372036854775808 ≤ n ∧ n ≤ 9223372036854775807, fun p => ∃ n : Int, p = I n ∧ -9223372036854775808 ≤ n ∧ n ≤ 9223372036854775807, fun p => ∃ n : Int, p = .int .u8 n ∧ 0 ≤ n ∧ n ≤ 255] :=
 .cons rdScale (.cons rdNight (.cons rdTxt (.cons rdInts (.cons rdIntB (.cons rdIntB (.cons rdByte .nil))))))
set_option maxHeartbeats 4000000 in
theorem MarksMinutes_walk : ∀ qs, AllR [fun p => ∃ s : Scale, p = scPV s ∧ scaleSz s, fun p => ∃ n : Night, p = ngPV n ∧ nightSz n, fun p => ∃ l : List UInt8, p = txt l, fun p => ∃ xs : List Int, p = ints xs ∧ xs.length * 8 ≤ 140737488351232, fun p => ∃ n : Int, p = I n ∧ -9223372036854775808 ≤ n ∧ n ≤ 9223372036854775807, fun p => ∃ n : Int, p = I n ∧ -9223372036854775808 ≤ n ∧ n ≤ 9223372036854775807, fun p => ∃ n : Int, p = .int .u8 n ∧ 0 ≤ n ∧ n ≤ 255] qs → ∃ σ', PC Tryz.prog noY 4 qs Sg.zero (.bool true) σ' := by
 intro qs hq
 obtain ⟨px0, qs, rfl, ⟨x0, hx0, sx0⟩, hq⟩ := allR_cons hq
 obtain ⟨px1, qs, rfl, ⟨x1, hx1, sx1⟩, hq⟩ := allR_cons hq
 obtain ⟨px2, qs, rfl, ⟨x2, hx2⟩, hq⟩ := allR_cons hq
 obtain ⟨px3, qs, rfl, ⟨x3, hx3, sx3⟩, hq⟩ := allR_cons hq
 obtain ⟨px4, qs, rfl, ⟨x4, hx4, sx4, rx4⟩, hq⟩ := allR_cons hq
 obtain ⟨px5, qs, rfl, ⟨x5, hx5, sx5, rx5⟩, hq⟩ := allR_cons hq
 obtain ⟨px6, qs, rfl, ⟨x6, hx6, sx6, rx6⟩, hq⟩ := allR_cons hq
 obtain rfl := allR_nil hq
 subst hx0 hx1 hx2 hx3 hx4 hx5 hx6
 exact ⟨_, MarksMinutes_pc noY _ x0 x1 x2 x3 x4 x5 x6 ⟨by have := sx0; unfold scaleSz intsSz at this; omega, by have := sx1.so; omega, by have := sx1.sa; omega, by have := sx1.sf; omega, fun x hx => by have := sx1.sm x hx; unfold envSz intsSz at this; omega⟩ (by omega) sx4 rx4 sx5 rx5⟩
theorem MarksMinutes_lifted (os : Os) (started : os.Started) (H : Type) (enc : TypeId × Value → H) :
 ReturnsInHanded {} Tryz.checked os 4 .any (fun w args => (Rows.marksMinutesSpec.pre enc Tryz.prog Tryz.f4 Rows.marksMinutesRow.domain false w args ∧ laidMetH Tryz.prog Rows.marksMinutesRow.laid w) ∧ sizedMet enc Tryz.prog Tryz.f4 (OpenSpec.ofChange Rows.marksMinutesSpec) false w args)
  (Rows.marksMinutesSpec.post enc Tryz.prog Tryz.f4 false true false false) :=
 law_laid (C := Tryz.checked) own started (by kernel_rfl) Tryz.func4 rfl laidOut (by kernel_rfl) rdMarksMinutesArgs rfl Tryz.underlying4
  (fun ds h => match ds, h with | [_, _, _, _, _, _, _], _ => rfl)
  (ChangeSpec.witness_shaped (enc := enc) (C := Tryz.checked) (os := os) (X := fun w _ => laidMetH Tryz.prog Rows.marksMinutesRow.laid w) false (World.laidAll Tryz.prog os Rows.marksMinutesRow.laid) #[Value.agg #[.int .i64 0, .int .i64 0, .int .i64 0, .int .i64 0, .int .i64 0, .int .i64 0, .slice none 0 0], Value.agg #[.slice none 0 0, .slice none 0 0, .slice none 0 0], .string .empty, .slice none 0 0, .int .i64 0, .int .i64 0, .int .u8 0] 8 (World.laidAll_os _ _ _)
   (World.shaped_of_ZipB (by kernel_rfl) (by kernel_rfl)) (by kernel_rfl) (by kernel_rfl) (by kernel_rfl)
   (by rw [MakeChecks.laidMetH_plain _ _ _ (by kernel_rfl)]; exact laidMet_laidAll _ (by kernel_rfl) (by kernel_rfl)))
  known MarksMinutes_walk
theorem MarksMinutes_row : Rows.MarksMinutesSaid :=
 OpenClaim.holds_of_wide 4 Tryz.f4 rfl rfl rfl rfl rfl rfl rfl ⟨rfl, rfl, rfl, rfl, rfl⟩ rfl rfl rfl rfl rfl (by kernel_rfl) Tryz.func4 (by kernel_rfl)
  (of_decide_eq_true (by kernel_rfl)) (by unfold Func.isWrapper; first | (rw [if_pos (by decide +kernel)]; kernel_rfl) | (rw [if_neg (by decide +kernel)]; exact ⟨rfl, rfl⟩))
  (fun os started H enc _ => MarksMinutes_lifted os started H enc)
theorem MarksMinutes_holds : Rows.MarksMinutesCardSaid :=
 Claim7.holds_tied_plain_at .later [] [.data, .data, .data, .data, .sentinel, .sentinel, .pinned] true (true, "cab0c22f0b46c07bc07997e3a0057b9cf7a4ccef9a40c24b3ed5f114cd2325d4") true
  MarksMinutes_row (fun _ h => by cases h) (by kernel_rfl) (fun _ h => by cases h) marksMinutes_row_tie rfl ⟨rfl, rfl⟩ (by kernel_rfl) rfl
  (fun f fn hf hfn => by
   obtain rfl : f = 4 := Option.some.inj (hf.symm.trans (by kernel_rfl))
   obtain rfl : fn = Tryz.f4 := (Option.some.inj (Tryz.func4.symm.trans hfn)).symm
   refine ⟨by kernel_rfl, fun j t ht => ?_⟩
   have hall : (Tryz.f4.params.toList.all fun t => !(Tryz.prog.wantsStandIn t)) = true := by kernel_rfl
   have hm : t ∈ Tryz.f4.params.toList := Array.mem_toList_iff.2 (Array.mem_of_getElem? ht)
   show Tryz.prog.wantsStandIn t = false
   simpa using List.all_eq_true.1 hall t hm)
  (by kernel_rfl)
end Go.Proofs.YtpiepcplalkfiaaGreatDoor
