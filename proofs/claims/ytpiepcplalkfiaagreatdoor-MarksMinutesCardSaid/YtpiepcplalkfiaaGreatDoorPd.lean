/-
  A slice of numbers that grows in place in a variable's cell, is sorted, compacted, and read at last.
  Walks: what is known of a night, or its first error (marks).
  Sorting, as the library does it.
  Walks: rows sorted; the points of a school in a matter (marks).
  Walks: the points of a school in a matter (marks).
  Walks: standings, and which of two is ahead (marks).
  Walks: the judges of whom nothing is known (marks).
  Walks: totals, places, who wins, who is missing (marks).
  Walks: standings sorted, as the library does it with few of them (marks).
  Walks: places, who wins, the table (marks).
  Walks: the table of a night that is decided (marks).
  Walks: lists compared; the chapter's examples.
  Walks: copies and comparisons of scales and nights (bateriakit); what is too wide.
  What is known of a night: by its envelopes and its absences. The plain law.
  Numbers that follow from numbers (bateriakit): the drum.
  Walks: drums made of numbers, spans (bateriakit).
  Walks: an order made of numbers (bateriakit).
  Walks: scales and seals, as the document has them.
  Walks: scales, marks, envelopes made of numbers (bateriakit).
  Walks: nights made of numbers (bateriakit).
-/
import Derived.Test.YtpiepcplalkfiaaGreatDoorPc
import Derived.CallsIn
import Derived.RangeFuncLeaves
import Derived.RangeFuncRecord
import Derived.OrdersIn
import Derived.Below
import Derived.Laws.World
import Derived.Laws.StructEq
import Derived.Laws.BytesString
import Derived.Laws.Append
import Derived.MapKept
import Derived.ProofKit
import Derived.Carry
import Derived.Handed
import Derived.ChangeCalls
import Derived.Stop.Joined
import Derived.Lib.LaidTab
import Derived.Shelf.Strconv.Itoa3
import Derived.RangeFuncIn
import Derived.RangeFuncNested
import Derived.Test.YtpiepcplalkfiaaGreatDoorProg
import Derived.KernelRfl
import Derived.IntWalk
import Derived.Test.YtpiepcplalkfiaaGreatDoorRows
import Derived.Sort.OwnSortedInts
import Derived.Lib.SlicesCompact
import Derived.Shelf.Sort.Plain
import Derived.Shelf.Slices.In.SortNone
import Derived.Shelf.Small.Bits
import Derived.Shelf.Strings.Builder1
import Derived.Lib.SplitLaws
import Derived.Lib.AtoiAll
import Derived.Lib.ItoaNum
import Derived.Lib.IndexBytes
import Derived.Shelf.Strings.Split
import Derived.Shelf.Strconv.AtoiAll
import Derived.Lib.AtoiErrMem
import Derived.Lib.ItoaLen
import Derived.Lib.AtoiAllCases
import Derived.Test.YtpiepcplalkfiaaGreatDoorCards
import Derived.Test.YtpiepcplalkfiaaGreatDoorTie
import Derived.JoinedOf
import Derived.LaidMore
import Derived.LaidSub
import Derived.Lay
import Derived.SevenTiedAt
import Derived.Lib.LaidU8
import Derived.Shelf.Vars
set_option linter.unusedSimpArgs false
set_option linter.unusedVariables false
namespace Go.Proofs.YtpiepcplalkfiaaGreatDoor
open Go Go.RowKit
/-- A slice of numbers that grows in place: nothing yet, or the last of a row of variables (those before it are gone). -/
def glI (n : Nat) (out : List Int) : PV := match out with
 | [] => .gnil
 | _ :: t => .gsl (n + t.length) (t.length + 1) 1
def gsI (out : List Int) : List (Option (List PV)) := match out with
 | [] => []
 | _ :: t => List.replicate t.length none ++ [some (out.map I)]
theorem gsI_len (out : List Int) : (gsI out).length = out.length := by cases out <;> simp [gsI]
theorem glI_cells (n : Nat) (out : List Int) : (glI n out).cells = [glI n out] := by cases out <;> rfl
theorem glI_scalar (n : Nat) (out : List Int) : (glI n out).scalar = true := by cases out <;> rfl
theorem glI_defd (n : Nat) (out : List Int) : defd (glI n out) = true := by cases out <;> rfl
theorem appendAny_gl {P : Program} {σ : Sg} {t t' : TypeId} {n : Nat} {out : List Int} {m : List PV} {o : Own} : appendAny P σ t t' (glI n out) (.isl m o) = appendG P σ t t' (glI n out) (.isl m o) := by cases out <;> rfl
theorem cells_gsl (a b c : Nat) : (PV.gsl a b c).cells = [PV.gsl a b c] := rfl
theorem cells_gnil : PV.gnil.cells = [PV.gnil] := rfl
attribute [go_sem] appendAny_gl cells_gsl cells_gnil
attribute [go_sem high] glI_cells glI_scalar glI_defd
theorem stX_glI {σ : Sg} {l : List (Option (List PV))} {rm : List Nat} {ys : List LState} {j off n : Nat} {out : List Int} : stX 1 (σ.ext l rm ys) (σ.store.length + j) off (glI n out) = match l[j]? with
 | some (some cs) => if off + 1 ≤ cs.length then some (σ.ext (l.set j (some (putCells cs off [glI n out]))) rm ys) else none
 | _ => none := by
 simp only [stX_ext, glI_defd, glI_cells, List.all_cons, List.all_nil, glI_scalar]
 rcases l[j]? with _ | _ | cs <;> simp
attribute [go_sem high] stX_glI
theorem glI_clean {a b c n : Nat} {out : List Int} (h : n + out.length ≤ a) : Clean a b c (glI n out) := by
 cases out with
 | nil => exact .gnil
 | cons x out => exact .gsl _ _ _ (by simp at h; omega)
theorem CleanLs_append {a b c : Nat} {l m : List (Option (List PV))} (h : CleanLs a b c l) (k : CleanLs a b c m) : CleanLs a b c (l ++ m) := fun cs hcs => by
 rcases List.mem_append.1 hcs with h' | h'
 ·exact h cs h'
 exact k cs h'
theorem CleanLs_rep {a b c : Nat} (n : Nat) : CleanLs a b c (List.replicate n none) := fun cs hcs => by
 have := List.eq_of_mem_replicate hcs
 cases this
theorem gsI_clean {a b c : Nat} (out : List Int) : CleanLs a b c (gsI out) := by
 cases out with
 | nil => simp only [gsI, CleanLs_nil]
 | cons x out =>
  refine CleanLs_append (CleanLs_rep _) ?_
  simp only [CleanLs_cons, CleanLs_nil, and_true]
  intro p hp
  obtain ⟨y, _, rfl⟩ := List.mem_map.1 hp
  exact .int _ _
section
variable {σ : Sg} {A : List (Option (List PV))} {rm : List Nat} {ys : List LState} {N : Nat} {lo : Nat × Nat} {E : Env} {out : List Int}
theorem get_mid {α : Type} {A B : List α} {x : α} : (A ++ x :: B)[A.length]? = some x := by simp
theorem set_mid {α : Type} {A B : List α} {x y : α} : (A ++ x :: B).set A.length y = A ++ y :: B := by simp
theorem gsI_get {x : Int} : (A ++ gsI (x :: out))[A.length + out.length]? = some (some ((x :: out).map I)) := by
 have : A.length + out.length = (A ++ List.replicate out.length (none : Option (List PV))).length := by simp
 rw [this, gsI, ← List.append_assoc]
 exact get_mid
theorem gsI_set {x : Int} {y : Option (List PV)} : (A ++ gsI (x :: out)).set (A.length + out.length) y = A ++ (List.replicate out.length none ++ [y]) := by
 have : A.length + out.length = (A ++ List.replicate out.length (none : Option (List PV))).length := by simp
 rw [this, gsI, ← List.append_assoc, ← List.append_assoc]
 exact set_mid
theorem appG_gl (x : Int) (h : (out.length + 1) * 8 ≤ 2 ^ 47) : appG 1 8 (σ.ext (A ++ gsI out) rm ys) (glI (σ.store.length + A.length) out) [I x] = some (glI (σ.store.length + A.length) (out ++ [x]), σ.ext (A ++ gsI (out ++ [x])) rm ys) := by
 cases out with
 | nil =>
  rw [glI, appG_nil (by rfl) (by simp) (by simp)]
  simp [gsI, glI, rowC, Sg.push_ext, Sg.len_ext]
 | cons y out =>
  simp only [glI]
  rw [appG_more (cs := (y :: out).map I) (by rw [Nat.add_assoc, Sg.get_ext]; exact gsI_get) (by simp) (by rfl) (by simp) (by simpa using h)]
  rw [Nat.add_assoc (Sg.store σ).length, Sg.drop_ext, gsI_set]
  simp only [Sg.push_ext, Sg.len_ext, rowC]
  have e : List.replicate (out ++ [x]).length (none : Option (List PV)) = List.replicate out.length none ++ [none] := by simp [List.replicate_succ']
  simp only [List.cons_append, gsI, e]
  simp [Nat.add_assoc]
theorem sortI_nil : sortI [] = [] := by simp [sortI]
theorem glI_sort (n : Nat) : glI n (sortI out) = glI n out := by
 have hl := sortI_len out
 cases h : sortI out with
 | nil =>
  rw [h] at hl
  cases out with
  | nil => rfl
  | cons x out => simp at hl
 | cons y s =>
  rw [h] at hl
  cases out with
  | nil => simp at hl
  | cons x out => simp only [List.length_cons] at hl; simp only [glI]; rw [show s.length = out.length by omega]
theorem sort_gl {P : Program} {Y : YEnv} {f : FuncId} (h : SortsI P f) (hl : out.length < 2 ^ 60) : PC P Y f [glI (σ.store.length + A.length) out] (σ.ext (A ++ gsI out) rm ys) (.tuple []) (σ.ext (A ++ gsI (sortI out)) rm ys) := by
 cases out with
 | nil => rw [sortI_nil]; exact PC_sort0 h
 | cons x out =>
  have h1 := PC_sortI (Y := Y) (σ := σ.ext (A ++ gsI (x :: out)) rm ys) (id := σ.store.length + A.length + out.length) (xs := x :: out) h (by rw [Nat.add_assoc, Sg.get_ext]; exact gsI_get) hl
  rw [Nat.add_assoc, Sg.set_ext, gsI_set] at h1
  have e : A ++ (List.replicate out.length none ++ [some ((sortI (x :: out)).map I)]) = A ++ gsI (sortI (x :: out)) := by
   have hs := sortI_len (x :: out)
   cases hc : sortI (x :: out) with
   | nil => rw [hc] at hs; simp at hs
   | cons y s =>
    rw [hc] at hs
    simp only [List.length_cons] at hs
    simp only [gsI]
    rw [show out.length = s.length by omega]
  rw [e] at h1
  simp only [glI]
  rw [Nat.add_assoc]
  exact h1
/-- Compacted. -/
def glC (n : Nat) (s : List Int) : PV := match s with
 | [] => .gnil
 | _ :: t => .gsl (n + t.length) (Lib.compact s).length 1
theorem glC_cells (n : Nat) (out : List Int) : (glC n out).cells = [glC n out] := by cases out <;> rfl
theorem glC_scalar (n : Nat) (out : List Int) : (glC n out).scalar = true := by cases out <;> rfl
theorem glC_defd (n : Nat) (out : List Int) : defd (glC n out) = true := by cases out <;> rfl
attribute [go_sem high] glC_cells glC_scalar glC_defd
theorem stX_glC {σ : Sg} {l : List (Option (List PV))} {rm : List Nat} {ys : List LState} {j off n : Nat} {out : List Int} : stX 1 (σ.ext l rm ys) (σ.store.length + j) off (glC n out) = match l[j]? with
 | some (some cs) => if off + 1 ≤ cs.length then some (σ.ext (l.set j (some (putCells cs off [glC n out]))) rm ys) else none
 | _ => none := by
 simp only [stX_ext, glC_defd, glC_cells, List.all_cons, List.all_nil, glC_scalar]
 rcases l[j]? with _ | _ | cs <;> simp
attribute [go_sem high] stX_glC
end
set_option maxRecDepth 100000
/-- Is somebody there, matter by matter, after so many judges? -/
def thUp (k : Kn) (J M : Nat) : Nat → List Bool
 | 0 => List.replicate M false
 | t + 1 => (thUp k J M t).set (t / J) (((thUp k J M t)[t / J]?).getD false || !(absentK k ((t / J : Nat), (t % J : Nat))))
theorem thUp_len (k : Kn) (J M : Nat) : ∀ t, (thUp k J M t).length = M := by
 intro t
 induction t with
 | zero => simp [thUp]
 | succ t ih => simp [thUp, ih]
theorem idx_div {J m n : Nat} (hn : n < J) : (m * J + n) / J = m ∧ (m * J + n) % J = n := by
 have hJ : 0 < J := by omega
 constructor
 ·rw [Nat.add_comm, Nat.add_mul_div_right _ _ hJ, Nat.div_eq_of_lt hn, Nat.zero_add]
 rw [Nat.add_comm, Nat.add_mul_mod_self_right, Nat.mod_eq_of_lt hn]
theorem thUp_step (k : Kn) {J M m n : Nat} (hn : n < J) {b : Bool} (h : (thUp k J M (m * J + n))[m]? = some b) : thUp k J M (m * J + n + 1) = (thUp k J M (m * J + n)).set m (b || !(absentK k ((m : Int), (n : Int)))) := by
 obtain ⟨e1, e2⟩ := idx_div (m := m) hn
 simp only [thUp]
 rw [e1, e2, h]
 rfl
theorem thUp_get (k : Kn) {J M m : Nat} (hJ : 0 < J) (hm : m < M) : ∀ t, ∃ v, (thUp k J M t)[m]? = some v ∧ (v = true ↔ ∃ n, n < J ∧ m * J + n < t ∧ absentK k ((m : Int), (n : Int)) = false) := by
 intro t
 induction t with
 | zero => exact ⟨false, by simp [thUp, hm], by simp⟩
 | succ t ih =>
  obtain ⟨v, h1, h2⟩ := ih
  have ht : t = (t / J) * J + t % J := by rw [Nat.mul_comm]; exact (Nat.div_add_mod t J).symm
  have hmod : t % J < J := Nat.mod_lt _ hJ
  simp only [thUp]
  by_cases e : t / J = m
  ·rw [e, h1]
   rw [e] at ht
   refine ⟨v || !(absentK k ((m : Int), ((t % J : Nat) : Int))), by rw [List.getElem?_set_self (by rw [thUp_len]; exact hm)]; rfl, ?_⟩
   rw [Bool.or_eq_true, h2]
   constructor
   ·rintro (⟨n, a, b, c⟩ | h)
    ·exact ⟨n, a, by omega, c⟩
    exact ⟨t % J, hmod, by omega, by simpa using h⟩
   rintro ⟨n, a, b, c⟩
   by_cases q : m * J + n < t
   ·exact .inl ⟨n, a, q, c⟩
   have : n = t % J := by omega
   subst this
   exact .inr (by rw [c]; rfl)
  refine ⟨v, by rw [List.getElem?_set_ne e]; exact h1, ?_⟩
  rw [h2]
  constructor
  ·rintro ⟨n, a, b, c⟩
   exact ⟨n, a, by omega, c⟩
  rintro ⟨n, a, b, c⟩
  refine ⟨n, a, ?_, c⟩
  by_cases q : m * J + n = t
  ·have := (idx_div (m := m) a).1
   rw [q] at this
   exact absurd this e
  omega
theorem thUp_short (s : Scale) (k : Kn) {J M : Nat} (hM : s.matters = M) (hJ : s.judges = J) (hJ0 : 0 < J) : ((thUp k J M (M * J)).any fun x => decide (false = x)) = shortK s k := by
 rw [Bool.eq_iff_iff]
 simp only [shortK, toI, hM, hJ, Int.toNat_natCast, List.any_map, List.all_map, List.any_eq_true, List.all_eq_true, Function.comp, List.mem_range, decide_eq_true_eq]
 constructor
 ·rintro ⟨x, hx, rfl⟩
  obtain ⟨m, hm⟩ := List.mem_iff_getElem?.1 hx
  have hlt : m < M := by rw [← thUp_len k J M (M * J)]; exact (List.getElem?_eq_some_iff.1 hm).1
  obtain ⟨v, h1, h2⟩ := thUp_get k hJ0 hlt (M * J)
  rw [h1] at hm
  injection hm with hm
  subst hm
  refine ⟨m, hlt, fun n hn => ?_⟩
  cases ha : absentK k ((m : Int), (n : Int)) with
  | true => rfl
  | false =>
   have : m * J + J ≤ M * J := by rw [← Nat.succ_mul]; exact Nat.mul_le_mul_right _ hlt
   have := h2.2 ⟨n, hn, by omega, ha⟩
   cases this
 rintro ⟨m, hlt, h⟩
 obtain ⟨v, h1, h2⟩ := thUp_get k hJ0 hlt (M * J)
 refine ⟨v, List.mem_of_getElem? h1, ?_⟩
 cases v with
 | false => rfl
 | true =>
  obtain ⟨n, hn, _, ha⟩ := h2.1 rfl
  rw [h n hn] at ha
  cases ha
theorem knPos_nil : KnPos [] := fun e he => by cases he
theorem known_ok {s : Scale} {g : Night} (h : knownE s g = 0) : s.V ∧ ¬ (60 < (g.opened.length : Int)) ∧ (openK s g.opened []).1 = 0 ∧ ¬ (60 < (g.absent.length : Int)) ∧ (missK s g.absent (openK s g.opened []).2).1 = 0 ∧ shortK s (knownK s g) = false ∧ finesE s g.fines = 0 := by
 unfold knownE at h
 split at h
 ·rename_i h1; exact absurd h h1
 rename_i h1
 split at h
 ·cases h
 rename_i h2
 split at h
 ·rename_i h3; exact absurd h h3
 rename_i h3
 split at h
 ·cases h
 rename_i h4
 split at h
 ·rename_i h5; exact absurd h h5
 rename_i h5
 split at h
 ·cases h
 rename_i h6
 exact ⟨Scale.v (by omega), h2, by omega, h4, by omega, by simpa using h6, h⟩
set_option maxHeartbeats 2000000 in
theorem BindexM_pc (Y : YEnv) (σ : Sg) (l : List Bool) (v : Bool) (id n : Nat) (hd : σ.store[id]? = some (some (l.map PV.bool))) (hn : l.length = n) (hl : n < 2 ^ 40) :
 PC Tryz.prog Y 97 [.msl id 0 n, .bool v] σ (I (fIdx (fun x => decide (v = x)) 0 l)) (σ) := by
 refine PC_of_W Tryz.func97 rfl (by kernel_rfl) Tryz.ntmps97 (by simp) fun hcl hca => ?_
 obtain ⟨res, hres⟩ : ∃ r, fIdx (fun x => decide (v = x)) 0 l = r := ⟨_, rfl⟩
 rw [hres]
 refine W_sr [0, 1] fun R hR => ?_
 simp only [go_sem, beqB, ldS_at hd]
 refine hR _ _ ?_; clear hR R
 try simp only [go_sem, beqB, ldS_at hd]
 refine W_seq fun Z2 K2 => ?_
 refine W_sr [0, 1, 7, 8] fun R hR => ?_
 simp only [go_sem, beqB, ldS_at hd]
 refine hR _ _ ?_; clear hR R
 try simp only [go_sem, beqB, ldS_at hd]
 refine W_block ?_
 refine W_loopS (α := Nat) (fun (i : Nat) => [(8, I i)]) (fun (i : Nat) => i ≤ l.length ∧ res = fIdx (fun x => decide (v = x)) i (l.drop i)) (fun (i : Nat) => l.length - i) (0) rfl (⟨Nat.zero_le _, hres.symm⟩) ?_
 rintro i ⟨hi, hinv⟩
 refine W_sr [0, 1, 7, 8, 9] fun R hR => ?_
 simp only [go_sem, beqB, ldS_at hd]
 refine hR _ _ ?_; clear hR R
 try simp only [go_sem, beqB, ldS_at hd]
 refine W_seq fun Z5 K5 => ?_
 refine W_cond rfl (fun c1 => ?_) (fun c1 => ?_)
 ·
  try simp only [nrm] at c1
  have hi' : i < l.length := by first | assumption | omega
  obtain ⟨x, hx⟩ : ∃ x, l[i]? = some x := ⟨l[i], by simp [hi']⟩
  have hdrop : l.drop i = x :: l.drop (i + 1) := by
   rw [List.drop_eq_getElem_cons hi']; congr 1; exact (List.getElem?_eq_some_iff.1 hx).2
  rw [hdrop] at hinv
  simp only [fIdx] at hinv
  have hin : (i : Int) < (n : Int) := by omega
  refine W_skip (K5 _ _ ?_)
  refine W_seq fun Z6 K6 => ?_
  refine W_block ?_
  refine W_sr [0, 1, 5, 7, 8] fun R hR => ?_
  simp only [go_sem, beqB, ldS_at hd, hx]
  refine hR _ _ ?_; clear hR R
  try simp only [go_sem, beqB, ldS_at hd, hx]
  refine W_sr [0, 1, 5, 7, 8, 16] fun R hR => ?_
  simp only [go_sem, beqB, ldS_at hd, hx, hin, iaM_nat (Int.ofNat_lt.1 hin), Nat.mul_one, Nat.zero_add, List.getElem?_map]
  refine hR _ _ ?_; clear hR R
  try simp only [go_sem, beqB, ldS_at hd, hx]
  refine W_cond rfl (fun c2 => ?_) (fun c2 => ?_)
  ·
   try simp only [nrm] at c2
   refine W_sr [4] fun R hR => ?_
   simp only [go_sem, beqB, ldS_at hd, hx]
   refine hR _ _ ?_; clear hR R
   try simp only [go_sem, beqB, ldS_at hd, hx]
   refine W_ret ?_
   simp only [go_sem, beqB, ldS_at hd, hx]
   refine ⟨.inr (by trivial), ?_⟩
   first | refine Fsa hcl rfl ?_ | refine Fse hcl rfl ?_
   try simp only [go_sem]
   all_goals
    first | rfl | (simp_all; done) | (simp_all; omega)
  try simp only [nrm] at c2
  refine W_skip (K6 _ _ ?_)
  refine W_region [0, 1, 7, 8] fun R hR => ?_
  simp only [go_sem, beqB, ldS_at hd, hx]
  try simp (disch := omega) only [wrapI, wrapU]
  refine hR _ _ ?_; clear hR R
  try simp only [go_sem, beqB, ldS_at hd, hx]
  refine ⟨i + 1, ?_, by (try simp only []); omega, ?_⟩
  ·first | exact Weak.refl | exact Wqq
  try dsimp only
  exact ⟨hi', by simp_all⟩
 try simp only [nrm] at c1
 have hdrop : l.drop i = [] := List.drop_eq_nil_of_le (by omega)
 rw [hdrop] at hinv
 simp only [fIdx] at hinv
 refine W_exit ?_
 simp only [go_sem, beqB, ldS_at hd]
 refine K2 _ _ ?_
 refine W_sr [4] fun R hR => ?_
 simp only [go_sem, beqB, ldS_at hd]
 refine hR _ _ ?_; clear hR R
 try simp only [go_sem, beqB, ldS_at hd]
 refine W_ret ?_
 simp only [go_sem, beqB, ldS_at hd]
 refine ⟨.inr (by trivial), ?_⟩
 first | refine Fsa hcl rfl ?_ | refine Fse hcl rfl ?_
 try simp only [go_sem]
 all_goals
  first | rfl | (simp_all; done) | (simp_all; omega)
set_option maxHeartbeats 2000000 in
theorem BcontainsM_pc (Y : YEnv) (σ : Sg) (l : List Bool) (v : Bool) (id n : Nat) (hd : σ.store[id]? = some (some (l.map PV.bool))) (hn : l.length = n) (hl : n < 2 ^ 40) :
 PC Tryz.prog Y 76 [.msl id 0 n, .bool v] σ (.bool (l.any fun x => decide (v = x))) (σ) := by
 refine PC_of_W Tryz.func76 rfl (by kernel_rfl) Tryz.ntmps76 (by simp) fun hcl hca => ?_
 refine W_sr [0, 1] fun R hR => ?_
 simp only [go_sem]
 refine hR _ _ ?_; clear hR R
 try simp only [go_sem]
 refine W_sr [4] fun R hR => ?_
 simp only [go_sem]
 refine GCall_of (BindexM_pc Y _ l v id n hd hn hl) ?_
 simp only [go_sem]
 refine hR _ _ ?_; clear hR R
 try simp only [go_sem]
 refine W_ret ?_
 simp only [go_sem]
 refine ⟨.inr (by trivial), ?_⟩
 first | refine Fsa hcl rfl ?_ | refine Fse hcl rfl ?_
 try simp only [go_sem]
 all_goals
  simp only [fIdx_any, go_sem]
set_option maxHeartbeats 2000000 in
theorem knownOf_ok (Y : YEnv) (σ : Sg) (s : Scale) (g : Night) (hs : s.Ok) (hg : g.Ok) (hE : knownE s g = 0) :
 PC Tryz.prog Y 39 [scPV s, ngPV g] σ (.tuple [.map (σ.store.length + 2), I 0]) (σ.ext [some (scCells s), some (ngCells g), some (.mark :: knE (knownK s g))] []) := by
 refine PC_of_W Tryz.func39 rfl (by kernel_rfl) Tryz.ntmps39 (by simp) fun hcl hca => ?_
 obtain ⟨hv, h1, h2, h3, h4, h5, h6⟩ := known_ok hE
 have hC := hv.c
 have q1 := hv.mt
 have q2 := hv.jd
 obtain ⟨K, hK⟩ : ∃ z, knownK s g = z := ⟨_, rfl⟩
 have hK2 : (missK s g.absent (openK s g.opened []).2).2 = K := hK
 rw [hK] at h5 ⊢
 refine W_sr [2, 3] fun R hR => ?_
 simp only [go_sem, hC, h1, h2, h3, h4, h6, hK2]
 refine hR _ _ ?_; clear hR R
 try simp only [go_sem, hC, h1, h2, h3, h4, h6, hK2]
 refine W_seq fun Z2 K2 => ?_
 refine W_sr [2, 3, 6] fun R hR => ?_
 simp only [go_sem, hC, h1, h2, h3, h4, h6, hK2]
 refine GCall_of (Check_pc Y _ s hs) ?_
 simp only [go_sem, hC, h1, h2, h3, h4, h6, hK2]
 refine hR _ _ ?_; clear hR R
 try simp only [go_sem, hC, h1, h2, h3, h4, h6, hK2]
 refine W_sr [2, 3, 6, 16] fun R hR => ?_
 simp only [go_sem, hC, h1, h2, h3, h4, h6, hK2]
 refine hR _ _ ?_; clear hR R
 try simp only [go_sem, hC, h1, h2, h3, h4, h6, hK2]
 refine W_cond_false rfl ?_
 refine W_skip (K2 _ _ ?_)
 refine W_seq fun Z5 K5 => ?_
 refine W_sr [2, 3, 21] fun R hR => ?_
 simp only [go_sem, hC, h1, h2, h3, h4, h6, hK2]
 refine hR _ _ ?_; clear hR R
 try simp only [go_sem, hC, h1, h2, h3, h4, h6, hK2]
 refine W_cond_false rfl ?_
 refine W_skip (K5 _ _ ?_)
 refine W_sr [2, 3, 7] fun R hR => ?_
 simp only [go_sem, hC, h1, h2, h3, h4, h6, hK2]
 refine hR _ _ ?_; clear hR R
 try simp only [go_sem, hC, h1, h2, h3, h4, h6, hK2]
 refine W_seq fun Z8 K8 => ?_
 refine W_sr [2, 3, 7, 8] fun R hR => ?_
 simp only [go_sem, hC, h1, h2, h3, h4, h6, hK2]
 refine GCall_of (open_pc Y _ (σ.store.length + 2) [] (Sg.get_ext ..) s g.opened hv knPos_nil (fun e he => by cases he) hg.ho hg.hm) ?_
 simp only [go_sem, hC, h1, h2, h3, h4, h6, hK2]
 refine hR _ _ ?_; clear hR R
 try simp only [go_sem, hC, h1, h2, h3, h4, h6, hK2]
 refine W_sr [2, 3, 7, 8, 29] fun R hR => ?_
 simp only [go_sem, hC, h1, h2, h3, h4, h6, hK2]
 refine hR _ _ ?_; clear hR R
 try simp only [go_sem, hC, h1, h2, h3, h4, h6, hK2]
 refine W_cond_false rfl ?_
 refine W_skip (K8 _ _ ?_)
 refine W_seq fun Z11 K11 => ?_
 refine W_sr [2, 3, 7, 34] fun R hR => ?_
 simp only [go_sem, hC, h1, h2, h3, h4, h6, hK2]
 refine hR _ _ ?_; clear hR R
 try simp only [go_sem, hC, h1, h2, h3, h4, h6, hK2]
 refine W_cond_false rfl ?_
 refine W_skip (K11 _ _ ?_)
 refine W_seq fun Z13 K13 => ?_
 refine W_sr [2, 3, 7, 9] fun R hR => ?_
 simp only [go_sem, hC, h1, h2, h3, h4, h6, hK2]
 refine GCall_of (miss_pc Y _ (σ.store.length + 2) (openK s g.opened []).2 (Sg.get_ext ..) s g.absent hv hg.ha) ?_
 simp only [go_sem, hC, h1, h2, h3, h4, h6, hK2]
 refine hR _ _ ?_; clear hR R
 try simp only [go_sem, hC, h1, h2, h3, h4, h6, hK2]
 refine W_sr [2, 3, 7, 9, 41] fun R hR => ?_
 simp only [go_sem, hC, h1, h2, h3, h4, h6, hK2]
 refine hR _ _ ?_; clear hR R
 try simp only [go_sem, hC, h1, h2, h3, h4, h6, hK2]
 refine W_cond_false rfl ?_
 refine W_skip (K13 _ _ ?_)
 refine W_seq fun Z16 K16 => ?_
 obtain ⟨M0, hM0⟩ : ∃ z : Nat, s.matters = z := ⟨s.matters.toNat, by omega⟩
 have mk112h : ∀ {τ : Sg}, makePV Tryz.prog τ 140 (I s.matters) (I s.matters) = some (.msl τ.store.length 0 s.matters.toNat, τ.push ((List.replicate s.matters.toNat false).map PV.bool)) := fun {τ} => by
  rw [hM0]; exact mk140 (by omega)
 refine W_region [2, 3, 7, 10] fun R hR => ?_
 simp only [go_sem, hC, h1, h2, h3, h4, h6, hK2, mk112h]
 refine hR _ _ (K16 _ _ ?_); clear hR R; try clear K16 Z16
 try simp only [go_sem, hC, h1, h2, h3, h4, h6, hK2]
 refine W_seq fun Z17 K17 => ?_
 refine W_sr [2, 3, 7, 10, 47] fun R hR => ?_
 simp only [go_sem, hC, h1, h2, h3, h4, h6, hK2]
 refine GCall_of (judges_pc Y _ s) ?_
 simp only [go_sem, hC, h1, h2, h3, h4, h6, hK2]
 refine hR _ _ ?_; clear hR R
 try simp only [go_sem, hC, h1, h2, h3, h4, h6, hK2]
 refine W_block ?_
 obtain ⟨M, hM⟩ : ∃ z : Nat, s.matters = z := ⟨s.matters.toNat, by omega⟩
 obtain ⟨J, hJ⟩ : ∃ z : Nat, s.judges = z := ⟨s.judges.toNat, by omega⟩
 have hMt : s.matters.toNat = M := by omega
 have hMb : M < 2 ^ 40 := by omega
 have hJb : J < 2 ^ 40 := by omega
 let L : List Bool → List (Option (List PV)) := fun p => [some (scCells s), some (ngCells g), some (.mark :: knE K), some [.map (σ.store.length + 2)], some (p.map PV.bool), some [.msl (σ.store.length + 4) 0 M], some (scCells s)]
 let so : Nat → Sg := fun t => σ.ext (L (thUp K J M t)) [] [.ready]
 have hLc : ∀ p (n r y : Nat), σ.store.length + 7 ≤ n → CleanLs n r y (L p) := fun p n r y h1 => by
  have c1 := cleans_ng (a := n) (b := r) (c := y) g
  have c2 := cleans_sc (a := n) (b := r) (c := y) s
  refine CleanL_cons c2 (CleanL_cons c1 ?_)
  have c3 : CleanAll n r y (knE K) := cA_kn.mpr trivial
  have c4 : CleanAll n r y (p.map PV.bool) := fun q hq => by obtain ⟨x, _, rfl⟩ := List.mem_map.1 hq; exact .bool _
  show CleanLs _ _ _ _
  simp only [CleanLs_cons, CleanLs_nil, CleanAll_cons, CleanAll_nil, Cl_map, Cl_mark, Cl_msl, c3, c4, true_and, and_true]
  refine ⟨by omega, by omega, ?_⟩
  intro q hq
  exact c2 q hq
 try simp only [hMt]
 refine W_rangeFunc (gf := 96) (v := .tuple []) (s := .ready) (σ5 := so (M * J)) rfl (by simp) (fun args τ b' τ' => ∃ m n : Nat, m < M ∧ n < J ∧ args = [.agg [I m, I n]] ∧ b' = true ∧ τ = so (m * J + n) ∧ τ' = so (m * J + n + 1)) ?_ ?_ ?_ ?_ ?_
 ·rintro args τ b τ' ⟨m, n, hm, hn, rfl, rfl, rfl, rfl⟩
  refine ⟨rfl, ?_, ?_⟩
  ·simp only [so, go_sem]
  simp only [so, L, go_sem]
  refine W_region [7, 10, 11] fun R hR => ?_
  simp only [go_sem, hC, h1, h2, h3, h4, h6, hK2, putAll]
  refine hR _ _ ?_; clear hR R
  try simp only [go_sem, hC, h1, h2, h3, h4, h6, hK2, putAll]
  obtain ⟨tt, htt⟩ : ∃ z, thUp K J M (m * J + n) = z := ⟨_, rfl⟩
  have htl : tt.length = M := by rw [← htt]; exact thUp_len _ _ _ _
  obtain ⟨b0, hb0⟩ : ∃ z, tt[m]? = some z := ⟨tt[m]'(by omega), by simp⟩
  have hstep := thUp_step K (J := J) (M := M) (m := m) hn (b := b0) (by rw [htt]; exact hb0)
  rw [htt] at hstep
  try rw [hstep]
  try simp only [htt, hstep]
  have hm1 : m + 1 ≤ tt.length := by omega
  have hmI : (m : Int) < (M : Int) := by omega
  refine W_post_weak ?_
  refine W_block ?_
  refine W_draw [] [0, 1, 2, 3, 4, 5, 6, 7, 8, 9, 10, 11, 12, 13, 14, 15] [(0, 15), (1, 15), (2, 15)] [[], [], [1], [], [], [4], [3, 4, 5], [3, 4, 5, 6], [3, 4, 5, 6, 7], [3, 4, 5, 6, 7, 8], [3, 4, 5, 6, 7, 8], [3, 4, 5, 6, 7, 8, 9, 10], [3, 4, 5, 6, 7, 8, 9, 10, 11], [3, 4, 5, 6, 7, 8, 9, 10, 11, 12], [0, 1, 2, 3, 4, 5, 6, 7, 8, 9, 10, 11, 12, 13], [0, 1, 2, 3, 4, 5, 6, 7, 8, 9, 10, 11, 12, 13, 14]] mixed (by kernel_rfl) fun R hR => ?_
  simp only [go_sem, hC, h1, h2, h3, h4, h6, hK2, putAll, hmI, iaM_nat hm, hb0, Nat.mul_one, Nat.zero_add, hm1, List.getElem?_map]
  refine GWant_split (fun g1 => ?_) (fun g1 => ?_)
  ·try simp only [Bool.not_eq_true', Bool.not_eq_false'] at g1
   have n1 := g1; try simp only [nrm] at n1
   simp only [go_sem, hC, h1, h2, h3, h4, h6, hK2, putAll, hmI, iaM_nat hm, hb0, Nat.mul_one, Nat.zero_add, hm1, List.getElem?_map, g1]
   refine GCall_of (absent_pc Y _ (σ.store.length + 2) K (Sg.get_ext ..) ((m : Int), (n : Int))) ?_
   simp only [go_sem, hC, h1, h2, h3, h4, h6, hK2, putAll, hmI, iaM_nat hm, hb0, Nat.mul_one, Nat.zero_add, hm1, List.getElem?_map, g1]
   try refine And.intro (by repeat' (first | refine And.intro ?_ ?_ | exact GOr_right (fun _ => by simp only [go_sem, hC, h1, h2, h3, h4, h6, hK2, putAll, hmI, iaM_nat hm, hb0, Nat.mul_one, Nat.zero_add, hm1, List.getElem?_map]))) ?_
   refine hR _ _ ?_; clear hR R
   try simp only [go_sem, hC, h1, h2, h3, h4, h6, hK2, putAll]
   refine ⟨[], _, Weak.cutExt 7 0 (Nat.le_refl _) (Nat.le_refl _) hcl ?_ Wk.nil_get, ?_⟩
   ·exact hLc _ _ _ _ (by simp only [L, go_sem] <;> omega)
   simp only [hstep, RoundEnd, go_sem]
   cases b0 <;> simp_all
  try simp only [Bool.not_eq_true', Bool.not_eq_false'] at g1
  have n1 := g1; try simp only [nrm] at n1
  simp only [go_sem, hC, h1, h2, h3, h4, h6, hK2, putAll, hmI, iaM_nat hm, hb0, Nat.mul_one, Nat.zero_add, hm1, List.getElem?_map, g1]
  try refine And.intro (by repeat' (first | refine And.intro ?_ ?_ | exact GOr_right (fun _ => by simp only [go_sem, hC, h1, h2, h3, h4, h6, hK2, putAll, hmI, iaM_nat hm, hb0, Nat.mul_one, Nat.zero_add, hm1, List.getElem?_map]))) ?_
  refine hR _ _ ?_; clear hR R
  try simp only [go_sem, hC, h1, h2, h3, h4, h6, hK2, putAll]
  refine ⟨[], _, Weak.cutExt 7 0 (Nat.le_refl _) (Nat.le_refl _) hcl ?_ Wk.nil_get, ?_⟩
  ·exact hLc _ _ _ _ (by simp only [L, go_sem] <;> omega)
  simp only [hstep, RoundEnd, go_sem]
  cases b0 <;> simp_all
 ·have hst := judges1_pc (Y.at σ.ys.length (fun args τ b' τ' => ∃ m n : Nat, m < M ∧ n < J ∧ args = [.agg [I m, I n]] ∧ b' = true ∧ τ = so (m * J + n) ∧ τ' = so (m * J + n + 1))) σ σ.ys.length (σ.store.length + 6) s so M J (M * J) false hM hJ hMb hJb
   (fun t _ => by simp only [so, L]; exact Sg.get_ext ..) (Nat.le_refl _) (fun _ => rfl) (fun h => by cases h)
   (fun m n h1 h2 _ => by rw [YEnv.at_self]; exact ⟨m, n, h1, h2, rfl, rfl, rfl, rfl⟩) (by simp only [so, L, go_sem]) (by simp only [so, L, go_sem]) (by simp only [so, L, go_sem])
   (fun _ => CleanSg_ext hcl (by refine hLc _ _ _ _ ?_; simp only [L, go_sem] <;> omega))
  have e0 : so 0 = σ.ext (L (List.replicate M false)) [] [.ready] := rfl
  rw [e0] at hst
  simp only [L, go_sem] at hst ⊢
  exact hst
 ·simp only [so, L, go_sem]
 ·simp only [go_sem]
  exact CleanCut_ext hcl (by simp only [so, L, go_sem] <;> omega) (by simp only [so, L, go_sem, Nat.le_add_right]) (by omega) (by refine hLc _ _ _ _ ?_; simp only [so, L, go_sem] <;> omega)
 simp only [AfterLoop, so, L, go_sem]
 have hsh := thUp_short s K hM hJ (by omega)
 have htl := thUp_len K J M (M * J)
 generalize thUp K J M (M * J) = tt at hsh htl ⊢
 refine K17 _ _ ?_
 refine W_seq fun Z19 K19 => ?_
 refine W_sr [2, 3, 7, 65] fun R hR => ?_
 simp only [go_sem, hC, h1, h2, h3, h4, h6, hK2, hsh, h5]
 refine GCall_of (BcontainsM_pc Y _ tt false (σ.store.length + 4) M (Sg.get_ext ..) htl (by omega)) ?_
 simp only [go_sem, hC, h1, h2, h3, h4, h6, hK2, hsh, h5]
 refine hR _ _ ?_; clear hR R
 try simp only [go_sem, hC, h1, h2, h3, h4, h6, hK2]
 refine W_cond_false rfl ?_
 refine W_skip (K19 _ _ ?_)
 refine W_seq fun Z21 K21 => ?_
 refine W_sr [7, 12] fun R hR => ?_
 simp only [go_sem, hC, h1, h2, h3, h4, h6, hK2]
 refine GCall_of (fines_pc Y _ s g.fines hv hg.hf) ?_
 simp only [go_sem, hC, h1, h2, h3, h4, h6, hK2]
 refine hR _ _ ?_; clear hR R
 try simp only [go_sem, hC, h1, h2, h3, h4, h6, hK2]
 refine W_sr [7, 12, 71] fun R hR => ?_
 simp only [go_sem, hC, h1, h2, h3, h4, h6, hK2]
 refine hR _ _ ?_; clear hR R
 try simp only [go_sem, hC, h1, h2, h3, h4, h6, hK2]
 refine W_cond_false rfl ?_
 refine W_skip (K21 _ _ ?_)
 refine W_sr [4, 5] fun R hR => ?_
 simp only [go_sem, hC, h1, h2, h3, h4, h6, hK2]
 refine hR _ _ ?_; clear hR R
 try simp only [go_sem, hC, h1, h2, h3, h4, h6, hK2]
 refine W_ret ?_
 simp only [go_sem, hC, h1, h2, h3, h4, h6, hK2]
 refine ⟨.inr (by trivial), ?_⟩
 exact Fin_ext 3 0 hcl rfl (Wk_eq rfl (by simp only [go_sem] <;> omega)) (by show CleanLs _ _ _ _; simp only [go_sem])
 try simp only [go_sem]
 all_goals
  skip
set_option maxHeartbeats 2000000 in
theorem knownOf_err (Y : YEnv) (σ : Sg) (s : Scale) (g : Night) (hs : s.Ok) (hg : g.Ok) (hE : knownE s g ≠ 0) :
 PC Tryz.prog Y 39 [scPV s, ngPV g] σ (.tuple [.nilmap, I (knownE s g)]) (σ) := by
 refine PC_of_W Tryz.func39 rfl (by kernel_rfl) Tryz.ntmps39 (by simp) fun hcl hca => ?_
 obtain ⟨res, hres⟩ : ∃ r, knownE s g = r := ⟨_, rfl⟩
 rw [hres]
 refine W_sr [2, 3] fun R hR => ?_
 simp only [go_sem]
 refine hR _ _ ?_; clear hR R
 try simp only [go_sem]
 refine W_seq fun Z2 K2 => ?_
 refine W_sr [2, 3, 6] fun R hR => ?_
 simp only [go_sem]
 refine GCall_of (Check_pc Y _ s hs) ?_
 simp only [go_sem]
 refine hR _ _ ?_; clear hR R
 try simp only [go_sem]
 refine W_sr [2, 3, 6, 16] fun R hR => ?_
 simp only [go_sem]
 refine hR _ _ ?_; clear hR R
 try simp only [go_sem]
 refine W_cond rfl (fun c1 => ?_) (fun c1 => ?_)
 ·
  try simp only [nrm] at c1
  refine W_sr [4, 5] fun R hR => ?_
  simp only [go_sem]
  refine hR _ _ ?_; clear hR R
  try simp only [go_sem]
  refine W_ret ?_
  simp only [go_sem]
  refine ⟨.inr (by trivial), ?_⟩
  first | refine Fsa hcl rfl ?_ | refine Fse hcl rfl ?_
  try simp only [go_sem]
  all_goals
   rw [← hres]; clear hres hE; simp [knownE, *]
 try simp only [nrm] at c1
 have hv := Scale.v c1
 have q1 := hv.mt
 have q2 := hv.jd
 obtain ⟨K, hK⟩ : ∃ z, knownK s g = z := ⟨_, rfl⟩
 have hK2 : (missK s g.absent (openK s g.opened []).2).2 = K := hK
 refine W_skip (K2 _ _ ?_)
 refine W_seq fun Z6 K6 => ?_
 refine W_sr [2, 3, 21] fun R hR => ?_
 simp only [go_sem]
 refine hR _ _ ?_; clear hR R
 try simp only [go_sem]
 refine W_cond rfl (fun c2 => ?_) (fun c2 => ?_)
 ·
  try simp only [nrm] at c2
  refine W_sr [4, 5] fun R hR => ?_
  simp only [go_sem]
  refine hR _ _ ?_; clear hR R
  try simp only [go_sem]
  refine W_ret ?_
  simp only [go_sem]
  refine ⟨.inr (by trivial), ?_⟩
  first | refine Fsa hcl rfl ?_ | refine Fse hcl rfl ?_
  try simp only [go_sem]
  all_goals
   rw [← hres]; clear hres hE; simp [knownE, *]
 try simp only [nrm] at c2
 refine W_skip (K6 _ _ ?_)
 refine W_sr [2, 3, 7] fun R hR => ?_
 simp only [go_sem]
 refine hR _ _ ?_; clear hR R
 try simp only [go_sem]
 refine W_seq fun Z10 K10 => ?_
 refine W_sr [2, 3, 7, 8] fun R hR => ?_
 simp only [go_sem]
 refine GCall_of (open_pc Y _ (σ.store.length + 2) [] (Sg.get_ext ..) s g.opened hv knPos_nil (fun e he => by cases he) hg.ho hg.hm) ?_
 simp only [go_sem]
 refine hR _ _ ?_; clear hR R
 try simp only [go_sem]
 refine W_sr [2, 3, 7, 8, 29] fun R hR => ?_
 simp only [go_sem]
 refine hR _ _ ?_; clear hR R
 try simp only [go_sem]
 refine W_cond rfl (fun c3 => ?_) (fun c3 => ?_)
 ·
  try simp only [nrm] at c3
  refine W_sr [4, 5] fun R hR => ?_
  simp only [go_sem]
  refine hR _ _ ?_; clear hR R
  try simp only [go_sem]
  refine W_ret ?_
  simp only [go_sem]
  refine ⟨.inr (by trivial), ?_⟩
  first | refine Fsa hcl rfl ?_ | refine Fse hcl rfl ?_
  try simp only [go_sem]
  all_goals
   rw [← hres]; clear hres hE; simp [knownE, *]
 try simp only [nrm] at c3
 refine W_skip (K10 _ _ ?_)
 refine W_seq fun Z14 K14 => ?_
 refine W_sr [2, 3, 7, 34] fun R hR => ?_
 simp only [go_sem]
 refine hR _ _ ?_; clear hR R
 try simp only [go_sem]
 refine W_cond rfl (fun c4 => ?_) (fun c4 => ?_)
 ·
  try simp only [nrm] at c4
  refine W_sr [4, 5] fun R hR => ?_
  simp only [go_sem]
  refine hR _ _ ?_; clear hR R
  try simp only [go_sem]
  refine W_ret ?_
  simp only [go_sem]
  refine ⟨.inr (by trivial), ?_⟩
  first | refine Fsa hcl rfl ?_ | refine Fse hcl rfl ?_
  try simp only [go_sem]
  all_goals
   rw [← hres]; clear hres hE; simp [knownE, *]
 try simp only [nrm] at c4
 refine W_skip (K14 _ _ ?_)
 refine W_seq fun Z17 K17 => ?_
 refine W_sr [2, 3, 7, 9] fun R hR => ?_
 simp only [go_sem]
 refine GCall_of (miss_pc Y _ (σ.store.length + 2) (openK s g.opened []).2 (Sg.get_ext ..) s g.absent hv hg.ha) ?_
 simp only [go_sem]
 refine hR _ _ ?_; clear hR R
 try simp only [go_sem]
 refine W_sr [2, 3, 7, 9, 41] fun R hR => ?_
 simp only [go_sem]
 refine hR _ _ ?_; clear hR R
 try simp only [go_sem]
 refine W_cond rfl (fun c5 => ?_) (fun c5 => ?_)
 ·
  try simp only [nrm] at c5
  refine W_sr [4, 5] fun R hR => ?_
  simp only [go_sem]
  refine hR _ _ ?_; clear hR R
  try simp only [go_sem]
  refine W_ret ?_
  simp only [go_sem]
  refine ⟨.inr (by trivial), ?_⟩
  first | refine Fsa hcl rfl ?_ | refine Fse hcl rfl ?_
  try simp only [go_sem]
  all_goals
   rw [← hres]; clear hres hE; simp [knownE, *]
 try simp only [nrm] at c5
 simp only [hK2]
 refine W_skip (K17 _ _ ?_)
 refine W_seq fun Z21 K21 => ?_
 obtain ⟨M0, hM0⟩ : ∃ z : Nat, s.matters = z := ⟨s.matters.toNat, by omega⟩
 have mk112h : ∀ {τ : Sg}, makePV Tryz.prog τ 140 (I s.matters) (I s.matters) = some (.msl τ.store.length 0 s.matters.toNat, τ.push ((List.replicate s.matters.toNat false).map PV.bool)) := fun {τ} => by
  rw [hM0]; exact mk140 (by omega)
 refine W_region [2, 3, 7, 10] fun R hR => ?_
 simp only [go_sem, hK2, mk112h]
 refine hR _ _ (K21 _ _ ?_); clear hR R; try clear K21 Z21
 try simp only [go_sem, hK2]
 refine W_seq fun Z22 K22 => ?_
 refine W_sr [2, 3, 7, 10, 47] fun R hR => ?_
 simp only [go_sem, hK2]
 refine GCall_of (judges_pc Y _ s) ?_
 simp only [go_sem, hK2]
 refine hR _ _ ?_; clear hR R
 try simp only [go_sem, hK2]
 refine W_block ?_
 obtain ⟨M, hM⟩ : ∃ z : Nat, s.matters = z := ⟨s.matters.toNat, by omega⟩
 obtain ⟨J, hJ⟩ : ∃ z : Nat, s.judges = z := ⟨s.judges.toNat, by omega⟩
 have hMt : s.matters.toNat = M := by omega
 have hMb : M < 2 ^ 40 := by omega
 have hJb : J < 2 ^ 40 := by omega
 let L : List Bool → List (Option (List PV)) := fun p => [some (scCells s), some (ngCells g), some (.mark :: knE K), some [.map (σ.store.length + 2)], some (p.map PV.bool), some [.msl (σ.store.length + 4) 0 M], some (scCells s)]
 let so : Nat → Sg := fun t => σ.ext (L (thUp K J M t)) [] [.ready]
 have hLc : ∀ p (n r y : Nat), σ.store.length + 7 ≤ n → CleanLs n r y (L p) := fun p n r y h1 => by
  have c1 := cleans_ng (a := n) (b := r) (c := y) g
  have c2 := cleans_sc (a := n) (b := r) (c := y) s
  refine CleanL_cons c2 (CleanL_cons c1 ?_)
  have c3 : CleanAll n r y (knE K) := cA_kn.mpr trivial
  have c4 : CleanAll n r y (p.map PV.bool) := fun q hq => by obtain ⟨x, _, rfl⟩ := List.mem_map.1 hq; exact .bool _
  show CleanLs _ _ _ _
  simp only [CleanLs_cons, CleanLs_nil, CleanAll_cons, CleanAll_nil, Cl_map, Cl_mark, Cl_msl, c3, c4, true_and, and_true]
  refine ⟨by omega, by omega, ?_⟩
  intro q hq
  exact c2 q hq
 try simp only [hMt]
 refine W_rangeFunc (gf := 96) (v := .tuple []) (s := .ready) (σ5 := so (M * J)) rfl (by simp) (fun args τ b' τ' => ∃ m n : Nat, m < M ∧ n < J ∧ args = [.agg [I m, I n]] ∧ b' = true ∧ τ = so (m * J + n) ∧ τ' = so (m * J + n + 1)) ?_ ?_ ?_ ?_ ?_
 ·rintro args τ b τ' ⟨m, n, hm, hn, rfl, rfl, rfl, rfl⟩
  refine ⟨rfl, ?_, ?_⟩
  ·simp only [so, go_sem]
  simp only [so, L, go_sem]
  refine W_region [7, 10, 11] fun R hR => ?_
  simp only [go_sem, hK2, putAll]
  refine hR _ _ ?_; clear hR R
  try simp only [go_sem, hK2, putAll]
  obtain ⟨tt, htt⟩ : ∃ z, thUp K J M (m * J + n) = z := ⟨_, rfl⟩
  have htl : tt.length = M := by rw [← htt]; exact thUp_len _ _ _ _
  obtain ⟨b0, hb0⟩ : ∃ z, tt[m]? = some z := ⟨tt[m]'(by omega), by simp⟩
  have hstep := thUp_step K (J := J) (M := M) (m := m) hn (b := b0) (by rw [htt]; exact hb0)
  rw [htt] at hstep
  try rw [hstep]
  try simp only [htt, hstep]
  have hm1 : m + 1 ≤ tt.length := by omega
  have hmI : (m : Int) < (M : Int) := by omega
  refine W_post_weak ?_
  refine W_block ?_
  refine W_draw [] [0, 1, 2, 3, 4, 5, 6, 7, 8, 9, 10, 11, 12, 13, 14, 15] [(0, 15), (1, 15), (2, 15)] [[], [], [1], [], [], [4], [3, 4, 5], [3, 4, 5, 6], [3, 4, 5, 6, 7], [3, 4, 5, 6, 7, 8], [3, 4, 5, 6, 7, 8], [3, 4, 5, 6, 7, 8, 9, 10], [3, 4, 5, 6, 7, 8, 9, 10, 11], [3, 4, 5, 6, 7, 8, 9, 10, 11, 12], [0, 1, 2, 3, 4, 5, 6, 7, 8, 9, 10, 11, 12, 13], [0, 1, 2, 3, 4, 5, 6, 7, 8, 9, 10, 11, 12, 13, 14]] mixed (by kernel_rfl) fun R hR => ?_
  simp only [go_sem, hK2, putAll, hmI, iaM_nat hm, hb0, Nat.mul_one, Nat.zero_add, hm1, List.getElem?_map]
  refine GWant_split (fun g1 => ?_) (fun g1 => ?_)
  ·try simp only [Bool.not_eq_true', Bool.not_eq_false'] at g1
   have n1 := g1; try simp only [nrm] at n1
   simp only [go_sem, hK2, putAll, hmI, iaM_nat hm, hb0, Nat.mul_one, Nat.zero_add, hm1, List.getElem?_map, g1]
   refine GCall_of (absent_pc Y _ (σ.store.length + 2) K (Sg.get_ext ..) ((m : Int), (n : Int))) ?_
   simp only [go_sem, hK2, putAll, hmI, iaM_nat hm, hb0, Nat.mul_one, Nat.zero_add, hm1, List.getElem?_map, g1]
   try refine And.intro (by repeat' (first | refine And.intro ?_ ?_ | exact GOr_right (fun _ => by simp only [go_sem, hK2, putAll, hmI, iaM_nat hm, hb0, Nat.mul_one, Nat.zero_add, hm1, List.getElem?_map]))) ?_
   refine hR _ _ ?_; clear hR R
   try simp only [go_sem, hK2, putAll]
   refine ⟨[], _, Weak.cutExt 7 0 (Nat.le_refl _) (Nat.le_refl _) hcl ?_ Wk.nil_get, ?_⟩
   ·exact hLc _ _ _ _ (by simp only [L, go_sem] <;> omega)
   simp only [hstep, RoundEnd, go_sem]
   cases b0 <;> simp_all
  try simp only [Bool.not_eq_true', Bool.not_eq_false'] at g1
  have n1 := g1; try simp only [nrm] at n1
  simp only [go_sem, hK2, putAll, hmI, iaM_nat hm, hb0, Nat.mul_one, Nat.zero_add, hm1, List.getElem?_map, g1]
  try refine And.intro (by repeat' (first | refine And.intro ?_ ?_ | exact GOr_right (fun _ => by simp only [go_sem, hK2, putAll, hmI, iaM_nat hm, hb0, Nat.mul_one, Nat.zero_add, hm1, List.getElem?_map]))) ?_
  refine hR _ _ ?_; clear hR R
  try simp only [go_sem, hK2, putAll]
  refine ⟨[], _, Weak.cutExt 7 0 (Nat.le_refl _) (Nat.le_refl _) hcl ?_ Wk.nil_get, ?_⟩
  ·exact hLc _ _ _ _ (by simp only [L, go_sem] <;> omega)
  simp only [hstep, RoundEnd, go_sem]
  cases b0 <;> simp_all
 ·have hst := judges1_pc (Y.at σ.ys.length (fun args τ b' τ' => ∃ m n : Nat, m < M ∧ n < J ∧ args = [.agg [I m, I n]] ∧ b' = true ∧ τ = so (m * J + n) ∧ τ' = so (m * J + n + 1))) σ σ.ys.length (σ.store.length + 6) s so M J (M * J) false hM hJ hMb hJb
   (fun t _ => by simp only [so, L]; exact Sg.get_ext ..) (Nat.le_refl _) (fun _ => rfl) (fun h => by cases h)
   (fun m n h1 h2 _ => by rw [YEnv.at_self]; exact ⟨m, n, h1, h2, rfl, rfl, rfl, rfl⟩) (by simp only [so, L, go_sem]) (by simp only [so, L, go_sem]) (by simp only [so, L, go_sem])
   (fun _ => CleanSg_ext hcl (by refine hLc _ _ _ _ ?_; simp only [L, go_sem] <;> omega))
  have e0 : so 0 = σ.ext (L (List.replicate M false)) [] [.ready] := rfl
  rw [e0] at hst
  simp only [L, go_sem] at hst ⊢
  exact hst
 ·simp only [so, L, go_sem]
 ·simp only [go_sem]
  exact CleanCut_ext hcl (by simp only [so, L, go_sem] <;> omega) (by simp only [so, L, go_sem, Nat.le_add_right]) (by omega) (by refine hLc _ _ _ _ ?_; simp only [so, L, go_sem] <;> omega)
 simp only [AfterLoop, so, L, go_sem]
 have hsh := thUp_short s K hM hJ (by omega)
 have htl := thUp_len K J M (M * J)
 generalize thUp K J M (M * J) = tt at hsh htl ⊢
 refine K22 _ _ ?_
 refine W_seq fun Z24 K24 => ?_
 refine W_sr [2, 3, 7, 65] fun R hR => ?_
 simp only [go_sem, hK2, hsh]
 refine GCall_of (BcontainsM_pc Y _ tt false (σ.store.length + 4) M (Sg.get_ext ..) htl (by omega)) ?_
 simp only [go_sem, hK2, hsh]
 refine hR _ _ ?_; clear hR R
 try simp only [go_sem, hK2]
 refine W_cond rfl (fun c6 => ?_) (fun c6 => ?_)
 ·
  try simp only [nrm] at c6
  refine W_sr [4, 5] fun R hR => ?_
  simp only [go_sem, hK2]
  refine hR _ _ ?_; clear hR R
  try simp only [go_sem, hK2]
  refine W_ret ?_
  simp only [go_sem, hK2]
  refine ⟨.inr (by trivial), ?_⟩
  first | refine Fsa hcl rfl ?_ | refine Fse hcl rfl ?_
  try simp only [go_sem]
  all_goals
   rw [← hres]; clear hres hE; simp [knownE, *]
 try simp only [nrm] at c6
 refine W_skip (K24 _ _ ?_)
 refine W_seq fun Z27 K27 => ?_
 refine W_sr [7, 12] fun R hR => ?_
 simp only [go_sem, hK2]
 refine GCall_of (fines_pc Y _ s g.fines hv hg.hf) ?_
 simp only [go_sem, hK2]
 refine hR _ _ ?_; clear hR R
 try simp only [go_sem, hK2]
 refine W_sr [7, 12, 71] fun R hR => ?_
 simp only [go_sem, hK2]
 refine hR _ _ ?_; clear hR R
 try simp only [go_sem, hK2]
 refine W_cond rfl (fun c7 => ?_) (fun c7 => ?_)
 ·
  try simp only [nrm] at c7
  refine W_sr [4, 5] fun R hR => ?_
  simp only [go_sem, hK2]
  refine hR _ _ ?_; clear hR R
  try simp only [go_sem, hK2]
  refine W_ret ?_
  simp only [go_sem, hK2]
  refine ⟨.inr (by trivial), ?_⟩
  first | refine Fsa hcl rfl ?_ | refine Fse hcl rfl ?_
  try simp only [go_sem]
  all_goals
   rw [← hres]; clear hres hE; simp [knownE, *]
 try simp only [nrm] at c7
 exfalso
 apply hE
 clear hres hE
 simp [knownE, *]
def lays189_ren : Go.Shelf.Ren := ⟨fun | 189 => 124 | 125 => 84 | 257 => 148 | 128 => 108 | 129 => 109 | 294 => 163 | 295 => 164 | 296 => 165 | 297 => 166 | 298 => 167 | 299 => 168 | 216 => 169 | 300 => 170 | 301 => 171 | 328 => 178 | 329 => 127 | 330 => 128 | 331 => 179 | 332 => 180 | 215 => 181 | 343 => 182 | n => n, fun | 28 => 22 | 3 => 3 | 46 => 149 | 0 => 0 | 51 => 171 | 53 => 104 | 4 => 4 | 183 => 165 | 182 => 164 | 131 => 130 | 5 => 5 | 9 => 9 | 218 => 183 | 222 => 186 | 228 => 206 | 229 => 207 | n => n, fun n => n⟩
theorem lays189 : Lays.n189 Tryz.prog lays189_ren where
 mixed := by kernel_rfl
 f125 := Tryz.func84.trans (congrArg some (by kernel_rfl))
 f128 := Tryz.func108.trans (congrArg some (by kernel_rfl))
 f129 := Tryz.func109.trans (congrArg some (by kernel_rfl))
 f189 := Tryz.func124.trans (congrArg some (by kernel_rfl))
 f215 := Tryz.func181.trans (congrArg some (by kernel_rfl))
 f216 := Tryz.func169.trans (congrArg some (by kernel_rfl))
 f257 := Tryz.func148.trans (congrArg some (by kernel_rfl))
 f294 := Tryz.func163.trans (congrArg some (by kernel_rfl))
 f295 := Tryz.func164.trans (congrArg some (by kernel_rfl))
 f296 := Tryz.func165.trans (congrArg some (by kernel_rfl))
 f297 := Tryz.func166.trans (congrArg some (by kernel_rfl))
 f298 := Tryz.func167.trans (congrArg some (by kernel_rfl))
 f299 := Tryz.func168.trans (congrArg some (by kernel_rfl))
 f300 := Tryz.func170.trans (congrArg some (by kernel_rfl))
 f301 := Tryz.func171.trans (congrArg some (by kernel_rfl))
 f328 := Tryz.func178.trans (congrArg some (by kernel_rfl))
 f329 := Tryz.func127.trans (congrArg some (by kernel_rfl))
 f330 := Tryz.func128.trans (congrArg some (by kernel_rfl))
 f331 := Tryz.func179.trans (congrArg some (by kernel_rfl))
 f332 := Tryz.func180.trans (congrArg some (by kernel_rfl))
 f343 := Tryz.func182.trans (congrArg some (by kernel_rfl))
 t0 := Tryz.underlying0
 a0 := Tryz.isAgg0
 z0 := Tryz.sizeOf0
 v0 := Tryz.zeroValue0
 t3 := Tryz.underlying3
 a3 := Tryz.isAgg3
 z3 := Tryz.sizeOf3
 v3 := Tryz.zeroValue3
 t4 := Tryz.underlying4
 a4 := Tryz.isAgg4
 z4 := Tryz.sizeOf4
 v4 := Tryz.zeroValue4
 t5 := Tryz.underlying5
 a5 := Tryz.isAgg5
 z5 := Tryz.sizeOf5
 v5 := Tryz.zeroValue5
 t9 := Tryz.underlying9
 a9 := Tryz.isAgg9
 z9 := Tryz.sizeOf9
 v9 := Tryz.zeroValue9
 t28 := Tryz.underlying22
 a28 := Tryz.isAgg22
 z28 := Tryz.sizeOf22
 v28 := Tryz.zeroValue22
 t46 := Tryz.underlying149
 a46 := Tryz.isAgg149
 z46 := Tryz.sizeOf149
 v46 := Tryz.zeroValue149
 t51 := Tryz.underlying171
 a51 := Tryz.isAgg171
 z51 := Tryz.sizeOf171
 v51 := Tryz.zeroValue171
 t53 := Tryz.underlying104
 a53 := Tryz.isAgg104
 z53 := Tryz.sizeOf104
 v53 := Tryz.zeroValue104
 t131 := Tryz.underlying130
 a131 := Tryz.isAgg130
 z131 := Tryz.sizeOf130
 v131 := Tryz.zeroValue130
 t182 := Tryz.underlying164
 a182 := Tryz.isAgg164
 z182 := Tryz.sizeOf164
 v182 := Tryz.zeroValue164
 t183 := Tryz.underlying165
 a183 := Tryz.isAgg165
 z183 := Tryz.sizeOf165
 v183 := Tryz.zeroValue165
 t218 := Tryz.underlying183
 a218 := Tryz.isAgg183
 z218 := Tryz.sizeOf183
 v218 := Tryz.zeroValue183
 t222 := Tryz.underlying186
 a222 := Tryz.isAgg186
 z222 := Tryz.sizeOf186
 v222 := Tryz.zeroValue186
 t228 := Tryz.underlying206
 a228 := Tryz.isAgg206
 z228 := Tryz.sizeOf206
 v228 := Tryz.zeroValue206
 t229 := Tryz.underlying207
 a229 := Tryz.isAgg207
 z229 := Tryz.sizeOf207
 v229 := Tryz.zeroValue207
theorem sortsI : SortsI Tryz.prog 124 := ⟨by kernel_rfl, Any.slices_Sort_int_none lays189, Any.slices_Sort_int lays189⟩
theorem Fin_more {P : Program} {fn : Func} {σ σ' : Sg} {E : Env} {rs : List PV} {v : PV} (hcl : CleanSg σ') (h1 : σ.store.length ≤ σ'.store.length) (h2 : σ.rooms.length ≤ σ'.rooms.length) (h3 : σ'.ys.length = σ.ys.length)
 (hr : resPV P σ' E fn.results.toList = some rs) (hv : Wk σ'.store.length σ'.rooms.length σ.ys.length (oneOr rs) v) : Fin P fn σ v σ' E σ' := by
 refine ⟨rs, _, _, hr, h1, h2, hv, ?_, ?_, h3⟩
 ·rw [← h3]; simp [Sg.cut]
 unfold CleanSg at hcl; rw [h3] at hcl; exact hcl
theorem stX_glI0 {σ : Sg} {l : List (Option (List PV))} {rm : List Nat} {ys : List LState} {off n : Nat} {out : List Int} : stX 1 (σ.ext l rm ys) σ.store.length off (glI n out) = match l[0]? with
 | some (some cs) => if off + 1 ≤ cs.length then some (σ.ext (l.set 0 (some (putCells cs off [glI n out]))) rm ys) else none
 | _ => none := by
 have := stX_glI (σ := σ) (l := l) (rm := rm) (ys := ys) (j := 0) (off := off) (n := n) (out := out)
 exact this
attribute [go_sem high] stX_glI0
theorem take_snoc {l : List Int} {i : Nat} {x : Int} (h : l[i]? = some x) : l.take i ++ [x] = l.take (i + 1) := by rw [List.take_add_one, h]; rfl
set_option maxHeartbeats 2000000 in
theorem values1_pc (Y : YEnv) (σ : Sg) (y id pid n : Nat) (xs : List Int) (τ : Nat → Sg) (hn : n ≤ xs.length) (hnb : n < 2 ^ 40)
 (hst : ∀ t, t ≤ n → (τ t).store[id]? = some (some [.msl pid 0 n])) (hst2 : ∀ t, t ≤ n → (τ t).store[pid]? = some (some (xs.map I)))
 (hY : ∀ t x, t < n → xs[t]? = some x → Y y [I x] (τ t) true (τ (t + 1)))
 (hlen : (τ 0).store.length ≤ (τ n).store.length) (hr : (τ 0).rooms.length ≤ (τ n).rooms.length) (hy : (τ n).ys.length = (τ 0).ys.length) (hcl' : CleanSg (τ 0) → CleanSg (τ n)) :
 PC Tryz.prog Y 125 [.yield y, .ptr id 0] (τ 0) (.tuple []) (τ n) := by
 refine PC_of_W Tryz.func125 rfl (by kernel_rfl) Tryz.ntmps125 (by simp) fun hcl hca => ?_
 have hs00 := hst 0 (Nat.zero_le _)
 refine W_sr [0, 5, 6, 7] fun R hR => ?_
 simp only [go_sem, ldS_at hs00]
 refine hR _ _ ?_; clear hR R
 try simp only [go_sem]
 refine W_block ?_
 refine W_loopT (α := Nat) (fun (i : Nat) => [(7, I i)]) (fun (i : Nat) => τ i) (fun (i : Nat) => i ≤ n) (fun (i : Nat) => n - i) (0) rfl (by first | rfl | (simp only [go_sem]; done) | (simp only [go_sem]; rfl)) (Nat.zero_le _) ?_
 rintro i hi
 refine W_sr [0, 5, 6, 7, 8] fun R hR => ?_
 simp only [go_sem]
 refine hR _ _ ?_; clear hR R
 try simp only [go_sem]
 refine W_seq fun Z3 K3 => ?_
 refine W_cond rfl (fun c1 => ?_) (fun c1 => ?_)
 ·
  try simp only [nrm] at c1
  have hin0 : i < n := by first | omega | (simp at c1; omega)
  have hin : (i : Int) < (n : Int) := by omega
  have hs2 := hst2 i (by omega)
  obtain ⟨x, hx⟩ : ∃ z, xs[i]? = some z := ⟨xs[i]'(by omega), by simp⟩
  refine W_skip (K3 _ _ ?_)
  refine W_seq fun Z4 K4 => ?_
  refine W_block ?_
  refine W_sr [0, 4, 5, 6, 7] fun R hR => ?_
  simp only [go_sem, hx, hin, iaM_nat hin0, Nat.mul_one, Nat.zero_add, ldS_at hs2, List.getElem?_map]
  refine hR _ _ ?_; clear hR R
  try simp only [go_sem, hx]
  refine W_sr [0, 5, 6, 7, 14] fun R hR => ?_
  simp only [go_sem, hx]
  refine GYield_of (hY i x hin0 hx) ?_
  simp only [go_sem, hx]
  refine hR _ _ ?_; clear hR R
  try simp only [go_sem, hx]
  refine W_cond_false rfl ?_
  refine W_skip (K4 _ _ ?_)
  refine W_region [0, 5, 6, 7] fun R hR => ?_
  simp only [go_sem, hx]
  try simp (disch := omega) only [wrapI, wrapU]
  refine hR _ _ ?_; clear hR R
  try simp only [go_sem, hx]
  refine ⟨i + 1, ?_, by (try simp only []); omega, ?_⟩
  ·first | exact Weak.refl | exact Wqq
  try dsimp only
  omega
 try simp only [nrm] at c1
 have hie : i = n := by first | omega | (simp at c1; omega)
 subst hie
 refine W_exit ?_
 simp only [go_sem]
 try simp only [go_sem]
 refine ⟨.inl (by trivial), ?_⟩
 exact Fin_more (rs := []) (hcl' hcl) hlen hr hy rfl (Wk.of_clean (.tuple _ Clean.all_nil))
 try simp only [go_sem]
 all_goals
  skip
set_option maxHeartbeats 2000000 in
theorem appendSeq_pc (Y : YEnv) (σ : Sg) (id pid n : Nat) (xs : List Int) (hid : σ.store[id]? = some (some [.msl pid 0 n])) (hpid : σ.store[pid]? = some (some (xs.map I))) (hn : n ≤ xs.length) (hnb : n < 2 ^ 40) :
 PC Tryz.prog Y 147 [.isl [] .exact, .func (.func 125) [] [.ptr id 0]] σ (glI (σ.store.length + 1) (xs.take n)) (σ.ext ([some [glI (σ.store.length + 1) (xs.take n)]] ++ gsI (xs.take n)) []) := by
 refine PC_of_W Tryz.func147 rfl (by kernel_rfl) Tryz.ntmps147 (by simp) fun hcl hca => ?_
 have hxl : (xs.take n).length = n := by simp; omega
 obtain ⟨xn, hxn⟩ : ∃ z, xs.take n = z := ⟨_, rfl⟩
 rw [hxn] at hxl ⊢
 refine W_sr [1, 2] fun R hR => ?_
 simp only [go_sem]
 refine hR _ _ ?_; clear hR R
 try simp only [go_sem]
 refine W_seq fun Z2 K2 => ?_
 refine W_sr [2, 6] fun R hR => ?_
 simp only [go_sem]
 refine hR _ _ ?_; clear hR R
 try simp only [go_sem]
 refine W_block ?_
 let L : List Int → List (Option (List PV)) := fun p => [some [glI (σ.store.length + 1) p]] ++ gsI p
 let so : Nat → Sg := fun t => σ.ext (L (xs.take t)) [] [.ready]
 have hLc : ∀ p (n r y : Nat), σ.store.length + 1 + p.length ≤ n → CleanLs n r y (L p) := fun p n r y h1 => by
  refine CleanLs_append ?_ (gsI_clean _)
  have := glI_clean (a := n) (b := r) (c := y) h1
  simp only [go_sem, this]
 refine W_weak (Weak.gnilX (j := 0) (off := 0) rfl rfl) ?_
 simp only [go_sem]
 refine W_rangeFunc (gf := 125) (v := .tuple []) (s := .ready) (σ5 := so n) rfl (by simp) (fun args τ b' τ' => ∃ t x, t < n ∧ xs[t]? = some x ∧ args = [I x] ∧ b' = true ∧ τ = so t ∧ τ' = so (t + 1)) ?_ ?_ ?_ ?_ ?_
 ·rintro args τ b τ' ⟨t, x, ht, hx, rfl, rfl, rfl, rfl⟩
  refine ⟨rfl, ?_, ?_⟩
  ·simp only [so, go_sem]
  simp only [so, L, go_sem]
  refine W_region [2, 5] fun R hR => ?_
  simp only [go_sem, putAll]
  refine hR _ _ ?_; clear hR R
  try simp only [go_sem, putAll]
  have hsn := take_snoc hx
  obtain ⟨out, hout⟩ : ∃ z, xs.take t = z := ⟨_, rfl⟩
  have hol : out.length ≤ t := by rw [← hout]; simp; omega
  rw [hout] at hsn
  try simp only [← hsn, hout]
  have happ := appG_gl (σ := σ) (A := [some [glI (σ.store.length + 1) out]]) (rm := []) (ys := [.busy]) (out := out) x (by omega)
  simp only [go_sem, List.length_cons, List.length_nil] at happ
  refine W_post_weak ?_
  refine W_block ?_
  refine W_region [] fun R hR => ?_
  simp only [go_sem, putAll, happ]
  try simp (disch := first | omega | (simp only [go_sem] <;> omega)) only [wrapI, wrapU, appX_exact, appX_tok]
  try simp only [go_sem, putAll, happ]
  refine hR _ _ ?_; clear hR R
  try simp only [go_sem, putAll]
  refine ⟨[], _, Weak.keep [], ?_⟩
  simp only [RoundEnd, go_sem]
 ·have hst := values1_pc (Y.at σ.ys.length (fun args τ b' τ' => ∃ t x, t < n ∧ xs[t]? = some x ∧ args = [I x] ∧ b' = true ∧ τ = so t ∧ τ' = so (t + 1))) σ σ.ys.length id pid n xs so hn hnb
   (fun t _ => by simp only [so]; exact get_extx hid) (fun t _ => by simp only [so]; exact get_extx hpid)
   (fun t x h1 h2 => by rw [YEnv.at_self]; exact ⟨t, x, h1, h2, rfl, rfl, rfl, rfl⟩) (by simp only [so, L, List.take_zero, gsI, go_sem] <;> omega) (by simp only [so, L, go_sem] <;> omega) (by simp only [so, L, go_sem])
   (fun _ => CleanSg_ext hcl (by refine hLc _ _ _ _ ?_; simp only [L, gsI_len, go_sem] <;> omega))
  have e0 : so 0 = σ.ext (L []) [] [.ready] := rfl
  rw [e0] at hst
  simp only [L, glI, gsI, go_sem] at hst ⊢
  exact hst
 ·simp only [so, L, go_sem]
 ·simp only [go_sem]
  exact CleanCut_ext hcl (by simp only [so, L, go_sem] <;> omega) (by simp only [so, L, go_sem, Nat.le_add_right]) (by omega) (by refine hLc _ _ _ _ ?_; simp only [so, L, gsI_len, go_sem] <;> omega)
 simp only [AfterLoop, so, L, go_sem]
 simp only [hxn]
 refine K2 _ _ ?_
 refine W_sr [4] fun R hR => ?_
 simp only [go_sem]
 refine hR _ _ ?_; clear hR R
 try simp only [go_sem]
 refine W_ret ?_
 simp only [go_sem]
 refine ⟨.inr (by trivial), ?_⟩
 have hcl2 : CleanSg (σ.ext ([some [glI (σ.store.length + 1) xn]] ++ gsI xn) []) := CleanSg_ext hcl (by refine hLc _ _ _ _ ?_; simp only [L, gsI_len, go_sem] <;> omega)
 refine Fin_more (σ := σ) hcl2 (by simp only [go_sem] <;> omega) (by simp only [go_sem] <;> omega) (by simp only [go_sem]) rfl (Wk.of_clean ?_)
 simp only [go_sem]
 refine glI_clean ?_
 simp only [gsI_len, go_sem] <;> omega
 try simp only [go_sem]
 all_goals
  skip
set_option maxHeartbeats 2000000 in
theorem collect_pc (Y : YEnv) (σ : Sg) (id pid n : Nat) (xs : List Int) (hid : σ.store[id]? = some (some [.msl pid 0 n])) (hpid : σ.store[pid]? = some (some (xs.map I))) (hn : n ≤ xs.length) (hnb : n < 2 ^ 40) :
 PC Tryz.prog Y 123 [.func (.func 125) [] [.ptr id 0]] σ (glI (σ.store.length + 1) (xs.take n)) (σ.ext ([some [glI (σ.store.length + 1) (xs.take n)]] ++ gsI (xs.take n)) []) := by
 refine PC_of_W Tryz.func123 rfl (by kernel_rfl) Tryz.ntmps123 (by simp) fun hcl hca => ?_
 refine W_sr [0] fun R hR => ?_
 simp only [go_sem]
 refine hR _ _ ?_; clear hR R
 try simp only [go_sem]
 refine W_sr [2] fun R hR => ?_
 simp only [go_sem]
 refine GCall_of (appendSeq_pc Y _ id pid n xs hid hpid hn hnb) ?_
 simp only [go_sem]
 refine hR _ _ ?_; clear hR R
 try simp only [go_sem]
 refine W_ret ?_
 simp only [go_sem]
 refine ⟨.inr (by trivial), ?_⟩
 have hol : (xs.take n).length = n := by simp; omega
 generalize xs.take n = out at hol ⊢
 have hcl2 : CleanSg (σ.ext ([some [glI (σ.store.length + 1) out]] ++ gsI out) []) := CleanSg_ext hcl (by
  refine CleanLs_append ?_ (gsI_clean _)
  have := glI_clean (a := σ.store.length + ([some [glI (σ.store.length + 1) out]] ++ gsI out).length) (b := σ.rooms.length + ([] : List Nat).length) (c := σ.ys.length) (n := σ.store.length + 1) (out := out) (by simp only [gsI_len, go_sem] <;> omega)
  simp only [go_sem] at this ⊢
  simp only [this])
 refine Fin_more (σ := σ) hcl2 (by simp only [go_sem] <;> omega) (by simp only [go_sem] <;> omega) (by simp only [go_sem]) rfl (Wk.of_clean ?_)
 simp only [go_sem]
 refine glI_clean ?_
 simp only [gsI_len, go_sem] <;> omega
 try simp only [go_sem]
 all_goals
  skip
set_option maxHeartbeats 2000000 in
theorem sorted_pc (Y : YEnv) (σ : Sg) (id pid n : Nat) (xs : List Int) (hid : σ.store[id]? = some (some [.msl pid 0 n])) (hpid : σ.store[pid]? = some (some (xs.map I))) (hn : n ≤ xs.length) (hnb : n < 2 ^ 40) (hn0 : 0 < n) :
 PC Tryz.prog Y 98 [.func (.func 125) [] [.ptr id 0]] σ (ints (sortI (xs.take n))) (σ) := by
 refine PC_of_W Tryz.func98 rfl (by kernel_rfl) Tryz.ntmps98 (by simp) fun hcl hca => ?_
 have hol : (xs.take n).length = n := by simp; omega
 obtain ⟨out, hout⟩ : ∃ z, xs.take n = z := ⟨_, rfl⟩
 have hcoll := collect_pc Y σ id pid n xs hid hpid hn hnb
 rw [hout] at hcoll hol ⊢
 refine W_sr [0] fun R hR => ?_
 simp only [go_sem]
 refine hR _ _ ?_; clear hR R
 try simp only [go_sem]
 refine W_sr [3] fun R hR => ?_
 simp only [go_sem]
 refine GCall_of (hcoll) ?_
 simp only [go_sem]
 refine hR _ _ ?_; clear hR R
 try simp only [go_sem]
 refine W_sr [3] fun R hR => ?_
 simp only [go_sem]
 refine GCall_of (sort_gl (A := [_]) sortsI (by omega)) ?_
 simp only [go_sem]
 refine hR _ _ ?_; clear hR R
 try simp only [go_sem]
 refine W_seq fun Z4 K4 => ?_
 have hsl := sortI_len out
 obtain ⟨z, zs, hz⟩ : ∃ z zs, sortI out = z :: zs := by cases h : sortI out with
  | nil => rw [h] at hsl; simp at hsl; omega
  | cons z zs => exact ⟨z, zs, rfl⟩
 refine W_weak (Weak.keep [3]) ?_
 have hE3 : glI (σ.store.length + 1) out = .gsl (σ.store.length + (1 + zs.length)) (zs.length + 1) 1 := by rw [← glI_sort, hz]; simp only [glI, Nat.add_assoc]
 simp only [go_sem, hE3, hz]
 refine W_weak (Weak.freeze (t := 3) (id := σ.store.length + (1 + zs.length)) (len := zs.length + 1) (es := 1) (l := (z :: zs).map I) rfl (by rw [Sg.get_ext, rowC_ints]; exact gsI_get (A := [_])) (by simp) (fun q hq => by obtain ⟨x, _, rfl⟩ := List.mem_map.1 hq; rfl)) ?_
 simp only [go_sem]
 refine W_region [2] fun R hR => ?_
 simp only [go_sem]
 refine hR _ _ (K4 _ _ ?_); clear hR R; try clear K4 Z4
 try simp only [go_sem]
 refine W_ret ?_
 simp only [go_sem]
 refine ⟨.inr (by trivial), ?_⟩
 rw [hz]; refine Fin_same hcl rfl (Wk_eq rfl ?_)
 try simp only [go_sem]
 all_goals
  simp only [go_sem]
attribute [go_sem] List.length_range
set_option maxHeartbeats 2000000 in
theorem cnE_pc (Y : YEnv) (σ : Sg) (s : Scale) (g : Night) (hs : s.Ok) (hg : g.Ok) (hE : knownE s g ≠ 0) :
 PC Tryz.prog Y 11 [scPV s, ngPV g] σ (I (knownE s g)) (σ) := by
 refine PC_of_W Tryz.func11 rfl (by kernel_rfl) Tryz.ntmps11 (by simp) fun hcl hca => ?_
 refine W_sr [2, 3] fun R hR => ?_
 simp only [go_sem]
 refine hR _ _ ?_; clear hR R
 try simp only [go_sem]
 refine W_sr [6] fun R hR => ?_
 simp only [go_sem]
 refine GCall_of (knownOf_err Y _ s g hs hg hE) ?_
 simp only [go_sem]
 refine hR _ _ ?_; clear hR R
 try simp only [go_sem]
 refine W_sr [4] fun R hR => ?_
 simp only [go_sem]
 refine hR _ _ ?_; clear hR R
 try simp only [go_sem]
 refine W_ret ?_
 simp only [go_sem]
 refine ⟨.inr (by trivial), ?_⟩
 first | refine Fsa hcl rfl ?_ | refine Fse hcl rfl ?_
 try simp only [go_sem]
 all_goals
  first | rfl | (simp_all; done) | (simp_all; omega)
set_option maxHeartbeats 2000000 in
theorem cnO_pc (Y : YEnv) (σ : Sg) (s : Scale) (g : Night) (hs : s.Ok) (hg : g.Ok) (hE : knownE s g = 0) :
 PC Tryz.prog Y 11 [scPV s, ngPV g] σ (I (knownE s g)) (σ) := by
 refine PC_of_W Tryz.func11 rfl (by kernel_rfl) Tryz.ntmps11 (by simp) fun hcl hca => ?_
 rw [hE]
 refine W_sr [2, 3] fun R hR => ?_
 simp only [go_sem]
 refine hR _ _ ?_; clear hR R
 try simp only [go_sem]
 refine W_sr [6] fun R hR => ?_
 simp only [go_sem]
 refine GCall_of (knownOf_ok Y _ s g hs hg hE) ?_
 simp only [go_sem]
 refine hR _ _ ?_; clear hR R
 try simp only [go_sem]
 refine W_sr [4] fun R hR => ?_
 simp only [go_sem]
 refine hR _ _ ?_; clear hR R
 try simp only [go_sem]
 refine W_ret ?_
 simp only [go_sem]
 refine ⟨.inr (by trivial), ?_⟩
 first | refine Fsa hcl rfl ?_ | refine Fse hcl rfl ?_
 try simp only [go_sem]
 all_goals
  first | rfl | (simp_all; done) | (simp_all; omega)
theorem CheckNight_pc (Y : YEnv) (σ : Sg) (s : Scale) (g : Night) (hs : s.Ok) (hg : g.Ok) : PC Tryz.prog Y 11 [scPV s, ngPV g] σ (I (knownE s g)) σ := by
 by_cases h : knownE s g = 0
 ·exact cnO_pc Y σ s g hs hg h
 exact cnE_pc Y σ s g hs hg h
theorem cA_row3 {a b c : Nat} {l : List Stand} : CleanAll a b c (rowC (l.map sdPV)) = True := eq_true fun p hp => by
 simp only [rowC, List.mem_flatMap, List.mem_map] at hp
 obtain ⟨q, ⟨x, _, rfl⟩, hp⟩ := hp
 exact cleans_sd x p hp
attribute [go_sem] cA_row3
/-- Standings that grow in place: nothing yet, or the last of a row of variables (those before it are gone). -/
def glS (n : Nat) (out : List Stand) : PV := match out with
 | [] => .gnil
 | _ :: t => .gsl (n + t.length) (t.length + 1) 3
theorem appendAny_gs {P : Program} {σ : Sg} {t t' : TypeId} {n : Nat} {out : List Stand} {m : List PV} {o : Own} : appendAny P σ t t' (glS n out) (.isl m o) = appendG P σ t t' (glS n out) (.isl m o) := by cases out <;> rfl
attribute [go_sem] appendAny_gs
section
variable {σ : Sg} {A : List (Option (List PV))} {rm : List Nat} {ys : List LState} {out : List Stand}
end
set_option maxHeartbeats 2000000 in
theorem EqInts_pc (Y : YEnv) (σ : Sg) (xs ys : List Int) (o o2 : Own) (hx : xs.length < 2 ^ 50) :
 PC Tryz.prog Y 67 [.isl (xs.map I) o, .isl (ys.map I) o2] σ (.bool (decide (xs = ys))) (σ) := by
 refine PC_of_W Tryz.func67 rfl (by kernel_rfl) Tryz.ntmps67 (by simp) fun hcl hca => ?_
 refine W_sr [0, 1] fun R hR => ?_
 simp only [go_sem]
 refine hR _ _ ?_; clear hR R
 try simp only [go_sem]
 refine W_seq fun Z2 K2 => ?_
 refine W_sr [0, 1, 10] fun R hR => ?_
 simp only [go_sem]
 refine hR _ _ ?_; clear hR R
 try simp only [go_sem]
 refine W_cond rfl (fun c1 => ?_) (fun c1 => ?_)
 ·
  try simp only [nrm] at c1
  refine W_sr [4] fun R hR => ?_
  simp only [go_sem]
  refine hR _ _ ?_; clear hR R
  try simp only [go_sem]
  refine W_ret ?_
  simp only [go_sem]
  refine ⟨.inr (by trivial), ?_⟩
  first | refine Fsa hcl rfl ?_ | refine Fse hcl rfl ?_
  try simp only [go_sem]
  all_goals
   simp; intro h; subst h; exact c1 rfl
 try simp only [nrm] at c1
 refine W_skip (K2 _ _ ?_)
 refine W_seq fun Z5 K5 => ?_
 refine W_sr [0, 1, 5] fun R hR => ?_
 simp only [go_sem]
 refine hR _ _ ?_; clear hR R
 try simp only [go_sem]
 refine W_block ?_
 refine W_loopS (α := Nat) (fun (i : Nat) => [(5, I i)]) (fun (i : Nat) => i ≤ xs.length ∧ xs.take i = ys.take i) (fun (i : Nat) => xs.length - i) (0) rfl (⟨Nat.zero_le _, rfl⟩) ?_
 rintro i ⟨hi, ht⟩
 refine W_seq fun Z7 K7 => ?_
 refine W_sr [0, 1, 5, 14] fun R hR => ?_
 simp only [go_sem]
 refine hR _ _ ?_; clear hR R
 try simp only [go_sem]
 refine W_cond rfl (fun c2 => ?_) (fun c2 => ?_)
 ·
  try simp only [nrm] at c2
  have hi' : i < xs.length := by first | assumption | omega
  obtain ⟨x, hxi⟩ : ∃ x, xs[i]? = some x := ⟨xs[i], by simp⟩
  obtain ⟨y, hyi⟩ : ∃ y, ys[i]? = some y := ⟨ys[i]'(by omega), by simp⟩
  refine W_skip (K7 _ _ ?_)
  refine W_seq fun Z9 K9 => ?_
  refine W_block ?_
  refine W_seq fun Z10 K10 => ?_
  refine W_draw [0, 1, 5, 25] [0, 1, 2, 3, 4, 5, 6, 7, 8] [] [[], [], [0, 1], [0, 1, 2], [], [], [4, 5], [4, 5, 6], [0, 1, 2, 3, 4, 5, 6, 7]] mixed (by kernel_rfl) fun R hR => ?_
  simp only [go_sem, hxi, hyi]
  try refine And.intro (by repeat' (first | refine And.intro ?_ ?_ | exact GOr_right (fun _ => by simp only [go_sem, hxi, hyi]))) ?_
  refine hR _ _ (K10 _ _ ?_); clear hR R; try clear K10 Z10
  try simp only [go_sem, hxi, hyi]
  refine W_cond rfl (fun c3 => ?_) (fun c3 => ?_)
  ·
   try simp only [nrm] at c3
   refine W_sr [4] fun R hR => ?_
   simp only [go_sem, hxi, hyi]
   refine hR _ _ ?_; clear hR R
   try simp only [go_sem, hxi, hyi]
   refine W_ret ?_
   simp only [go_sem, hxi, hyi]
   refine ⟨.inr (by trivial), ?_⟩
   first | refine Fsa hcl rfl ?_ | refine Fse hcl rfl ?_
   try simp only [go_sem]
   all_goals
    simp; intro h; subst h; rw [hxi] at hyi; injection hyi with h; exact c3 h
  try simp only [nrm] at c3
  refine W_skip (K9 _ _ ?_)
  refine W_region [0, 1, 5] fun R hR => ?_
  simp only [go_sem, hxi, hyi]
  try simp (disch := omega) only [wrapI, wrapU]
  refine hR _ _ ?_; clear hR R
  try simp only [go_sem, hxi, hyi]
  refine ⟨i + 1, ?_, by (try simp only []); omega, ?_⟩
  ·first | exact Weak.refl | exact Weak.eq (by first | rfl | (simp only [go_sem]; done) | (simp only [go_sem]; rfl) | (simp [go_sem]; done) | (simp [go_sem] <;> omega)) (by first | rfl | (simp only [go_sem]; done) | (simp [go_sem]; done))
  try dsimp only
  refine ⟨hi', ?_⟩
  rw [List.take_add_one, List.take_add_one, ht, hxi, hyi, c3]
 try simp only [nrm] at c2
 have hie : i = xs.length := by omega
 subst hie
 have hxy : xs = ys := by rw [List.take_length] at ht; rw [c1, List.take_length] at ht; exact ht
 refine W_exit ?_
 simp only [go_sem]
 refine K5 _ _ ?_
 refine W_sr [4] fun R hR => ?_
 simp only [go_sem]
 refine hR _ _ ?_; clear hR R
 try simp only [go_sem]
 refine W_ret ?_
 simp only [go_sem]
 refine ⟨.inr (by trivial), ?_⟩
 first | refine Fsa hcl rfl ?_ | refine Fse hcl rfl ?_
 try simp only [go_sem]
 all_goals
  simp [hxy]
theorem eqSp {a b c d : Int} : eqPV Tryz.prog 45 (.agg [.int .i64 a, .int .i64 b]) (.agg [.int .i64 c, .int .i64 d]) = some (decide ((a, b) = (c, d))) := by
 rw [eqs45]
 refine congrArg some ?_
 rw [Bool.eq_iff_iff]
 simp
attribute [go_sem high] eqSp
def wideB (s : Scale) (n : Night) : Bool := (n.opened.take 70).any (fun x => decide (20 < (x.marks.length : Int))) || (decide (20 < (s.order.length : Int)) || (decide (70 < (n.opened.length : Int)) || (decide (70 < (n.absent.length : Int)) || decide (20 < (n.fines.length : Int)))))
structure Few (s : Scale) (n : Night) : Prop where
 od : s.order.length ≤ 20
 op : n.opened.length ≤ 70
 ab : n.absent.length ≤ 70
 fi : n.fines.length ≤ 20
 mm : ∀ x, x ∈ n.opened → x.marks.length ≤ 20
theorem wide_not {s : Scale} {n : Night} (h : wideB s n = false) : Few s n := by
 unfold wideB at h
 simp only [Bool.or_eq_false_iff, decide_eq_false_iff_not, List.any_eq_false, decide_eq_true_eq] at h
 obtain ⟨h1, h2, h3, h4, h5⟩ := h
 refine ⟨by omega, by omega, by omega, by omega, fun x hx => ?_⟩
 rw [List.take_of_length_le (by omega)] at h1
 have := h1 x hx
 omega
theorem Few.okS {s : Scale} {n : Night} (h : Few s n) : s.Ok := ⟨by have := h.od; omega⟩
theorem Few.okN {s : Scale} {n : Night} (h : Few s n) : n.Ok := ⟨by have := h.op; omega, by have := h.ab; omega, by have := h.fi; omega, fun x hx => by have := h.mm x hx; omega⟩
theorem eqAb {a b c d : Int} : eqPV Tryz.prog 40 (.agg [.int .i64 a, .int .i64 b]) (.agg [.int .i64 c, .int .i64 d]) = some (decide ((a, b) = (c, d))) := by
 rw [eqs40]
 refine congrArg some ?_
 rw [Bool.eq_iff_iff]
 simp
theorem eqFi {a b c d : Int} : eqPV Tryz.prog 43 (.agg [.int .i64 a, .int .i64 b]) (.agg [.int .i64 c, .int .i64 d]) = some (decide ((a, b) = (c, d))) := by
 rw [eqs43]
 refine congrArg some ?_
 rw [Bool.eq_iff_iff]
 simp
attribute [go_sem high] eqAb eqFi
set_option maxHeartbeats 2000000 in
theorem EqAbsent_pc (Y : YEnv) (σ : Sg) (xs ys : List (Int × Int)) (o o2 : Own) (hx : xs.length < 2 ^ 50) :
 PC Tryz.prog Y 18 [.isl (xs.map stPV) o, .isl (ys.map stPV) o2] σ (.bool (decide (xs = ys))) (σ) := by
 refine PC_of_W Tryz.func18 rfl (by kernel_rfl) Tryz.ntmps18 (by simp) fun hcl hca => ?_
 refine W_sr [0, 1] fun R hR => ?_
 simp only [go_sem]
 refine hR _ _ ?_; clear hR R
 try simp only [go_sem]
 refine W_seq fun Z2 K2 => ?_
 refine W_sr [0, 1, 10] fun R hR => ?_
 simp only [go_sem]
 refine hR _ _ ?_; clear hR R
 try simp only [go_sem]
 refine W_cond rfl (fun c1 => ?_) (fun c1 => ?_)
 ·
  try simp only [nrm] at c1
  refine W_sr [4] fun R hR => ?_
  simp only [go_sem]
  refine hR _ _ ?_; clear hR R
  try simp only [go_sem]
  refine W_ret ?_
  simp only [go_sem]
  refine ⟨.inr (by trivial), ?_⟩
  first | refine Fsa hcl rfl ?_ | refine Fse hcl rfl ?_
  try simp only [go_sem]
  all_goals
   simp; intro h; subst h; exact c1 rfl
 try simp only [nrm] at c1
 refine W_skip (K2 _ _ ?_)
 refine W_seq fun Z5 K5 => ?_
 refine W_sr [0, 1, 5] fun R hR => ?_
 simp only [go_sem]
 refine hR _ _ ?_; clear hR R
 try simp only [go_sem]
 refine W_block ?_
 refine W_loopS (α := Nat) (fun (i : Nat) => [(5, I i)]) (fun (i : Nat) => i ≤ xs.length ∧ xs.take i = ys.take i) (fun (i : Nat) => xs.length - i) (0) rfl (⟨Nat.zero_le _, rfl⟩) ?_
 rintro i ⟨hi, ht⟩
 refine W_seq fun Z7 K7 => ?_
 refine W_sr [0, 1, 5, 14] fun R hR => ?_
 simp only [go_sem]
 refine hR _ _ ?_; clear hR R
 try simp only [go_sem]
 refine W_cond rfl (fun c2 => ?_) (fun c2 => ?_)
 ·
  try simp only [nrm] at c2
  have hi' : i < xs.length := by first | assumption | omega
  obtain ⟨x, hxi⟩ : ∃ x, xs[i]? = some x := ⟨xs[i], by simp⟩
  obtain ⟨y, hyi⟩ : ∃ y, ys[i]? = some y := ⟨ys[i]'(by omega), by simp⟩
  refine W_skip (K7 _ _ ?_)
  refine W_seq fun Z9 K9 => ?_
  refine W_block ?_
  refine W_seq fun Z10 K10 => ?_
  refine W_draw [0, 1, 5, 25] [0, 1, 2, 3, 4, 5, 6, 7, 8] [] [[], [], [0, 1], [0, 1, 2], [], [], [4, 5], [4, 5, 6], [0, 1, 2, 3, 4, 5, 6, 7]] mixed (by kernel_rfl) fun R hR => ?_
  simp only [go_sem, hxi, hyi]
  try refine And.intro (by repeat' (first | refine And.intro ?_ ?_ | exact GOr_right (fun _ => by simp only [go_sem, hxi, hyi]))) ?_
  refine hR _ _ (K10 _ _ ?_); clear hR R; try clear K10 Z10
  try simp only [go_sem, hxi, hyi]
  refine W_cond rfl (fun c3 => ?_) (fun c3 => ?_)
  ·
   try simp only [nrm] at c3
   refine W_sr [4] fun R hR => ?_
   simp only [go_sem, hxi, hyi]
   refine hR _ _ ?_; clear hR R
   try simp only [go_sem, hxi, hyi]
   refine W_ret ?_
   simp only [go_sem, hxi, hyi]
   refine ⟨.inr (by trivial), ?_⟩
   first | refine Fsa hcl rfl ?_ | refine Fse hcl rfl ?_
   try simp only [go_sem]
   all_goals
    simp; intro h; subst h; rw [hxi] at hyi; injection hyi with h; subst h; simp at c3
  try simp only [nrm] at c3
  refine W_skip (K9 _ _ ?_)
  refine W_region [0, 1, 5] fun R hR => ?_
  simp only [go_sem, hxi, hyi]
  try simp (disch := omega) only [wrapI, wrapU]
  refine hR _ _ ?_; clear hR R
  try simp only [go_sem, hxi, hyi]
  refine ⟨i + 1, ?_, by (try simp only []); omega, ?_⟩
  ·first | exact Weak.refl | exact Wqq
  try dsimp only
  refine ⟨hi', ?_⟩
  rw [List.take_add_one, List.take_add_one, ht, hxi, hyi, show x = y by obtain ⟨a, b⟩ := x; obtain ⟨c, d⟩ := y; simpa using c3]
 try simp only [nrm] at c2
 have hie : i = xs.length := by omega
 subst hie
 have hxy : xs = ys := by rw [List.take_length] at ht; rw [c1, List.take_length] at ht; exact ht
 refine W_exit ?_
 simp only [go_sem]
 refine K5 _ _ ?_
 refine W_sr [4] fun R hR => ?_
 simp only [go_sem]
 refine hR _ _ ?_; clear hR R
 try simp only [go_sem]
 refine W_ret ?_
 simp only [go_sem]
 refine ⟨.inr (by trivial), ?_⟩
 first | refine Fsa hcl rfl ?_ | refine Fse hcl rfl ?_
 try simp only [go_sem]
 all_goals
  simp [hxy]
set_option maxHeartbeats 2000000 in
theorem EqScales_pc (Y : YEnv) (σ : Sg) (s : Scale) (hs : s.Ok) :
 PC Tryz.prog Y 30 [scPV s, scPV s] σ (.bool true) (σ) := by
 refine PC_of_W Tryz.func30 rfl (by kernel_rfl) Tryz.ntmps30 (by simp) fun hcl hca => ?_
 refine W_sr [2, 3] fun R hR => ?_
 simp only [go_sem]
 refine hR _ _ ?_; clear hR R
 try simp only [go_sem]
 refine W_sr [4] fun R hR => ?_
 simp only [go_sem]
 refine GCall_of (PC.val (v' := .bool true) (EqInts_pc Y _ s.order s.order .ro .ro (by have := hs.ho; omega)) (by simp)) ?_
 simp only [go_sem]
 refine hR _ _ ?_; clear hR R
 try simp only [go_sem]
 refine W_ret ?_
 simp only [go_sem]
 refine ⟨.inr (by trivial), ?_⟩
 first | refine Fsa hcl rfl ?_ | refine Fse hcl rfl ?_
 try simp only [go_sem]
 all_goals
  first | rfl | (simp_all; done) | (simp_all; omega)
set_option maxHeartbeats 2000000 in
theorem EqNights_pc (Y : YEnv) (σ : Sg) (n : Night) (hn : n.Ok) :
 PC Tryz.prog Y 31 [ngPV n, ngPV n] σ (.bool true) (σ) := by
 refine PC_of_W Tryz.func31 rfl (by kernel_rfl) Tryz.ntmps31 (by simp) fun hcl hca => ?_
 have ho := hn.ho
 have ha := hn.ha
 have hf := hn.hf
 have hm := hn.hm
 refine W_sr [2, 3] fun R hR => ?_
 simp only [go_sem]
 refine hR _ _ ?_; clear hR R
 try simp only [go_sem]
 refine W_seq fun Z2 K2 => ?_
 refine W_seq fun Z3 K3 => ?_
 refine W_regionJ [2, 3, 32] [(32, .bool false)] ?_ fun R hR => ?_
 ·refine K3 _ _ ?_
  simp only [go_sem]
  refine W_cond rfl (fun c1 => ?_) (fun c1 => ?_)
  ·
   try simp only [nrm] at c1
   exfalso
   simp at c1
  try simp only [nrm] at c1
  refine W_skip (K2 _ _ ?_)
  refine W_seq fun Z4 K4 => ?_
  refine W_sr [2, 3, 5] fun R hR => ?_
  simp only [go_sem]
  refine hR _ _ ?_; clear hR R
  try simp only [go_sem]
  refine W_block ?_
  refine W_loopS (α := Nat) (fun (i : Nat) => [(5, I i)]) (fun (i : Nat) => i ≤ n.opened.length) (fun (i : Nat) => n.opened.length - i) (0) rfl (Nat.zero_le _) ?_
  rintro i hi
  refine W_seq fun Z6 K6 => ?_
  refine W_sr [2, 3, 5, 37] fun R hR => ?_
  simp only [go_sem]
  refine hR _ _ ?_; clear hR R
  try simp only [go_sem]
  refine W_cond rfl (fun c2 => ?_) (fun c2 => ?_)
  ·
   try simp only [nrm] at c2
   have hi' : i < n.opened.length := by first | assumption | omega
   obtain ⟨x, hx⟩ : ∃ x, n.opened[i]? = some x := ⟨n.opened[i], by simp [hi']⟩
   have hdrop : n.opened.drop i = x :: n.opened.drop (i + 1) := by
    rw [List.drop_eq_getElem_cons hi']; congr 1; exact (List.getElem?_eq_some_iff.1 hx).2
   refine W_skip (K6 _ _ ?_)
   refine W_seq fun Z8 K8 => ?_
   refine W_block ?_
   refine W_seq fun Z9 K9 => ?_
   refine W_draw [2, 3, 5, 6, 7] [0, 1, 2, 3, 4, 5, 6, 7, 8, 9, 10, 11, 12, 13] [(0, 11), (0, 12), (1, 11), (1, 12), (2, 11), (2, 12), (3, 11), (3, 12), (4, 11), (4, 12), (5, 11), (5, 12), (5, 13), (6, 11), (6, 12), (6, 13), (7, 11), (7, 12), (7, 13), (8, 11), (8, 12), (8, 13), (9, 11), (9, 12), (9, 13)] [[], [0], [], [0, 1, 2], [0, 1, 2, 3], [], [5], [], [5, 6, 7], [5, 6, 7, 8], [], [], [0, 1, 2, 3, 4, 10, 11], [0, 1, 2, 3, 4, 5, 6, 7, 8, 9, 10, 11, 12]] mixed (by kernel_rfl) fun R hR => ?_
   simp only [go_sem, hx]
   try refine And.intro (by repeat' (first | refine And.intro ?_ ?_ | exact GOr_right (fun _ => by simp only [go_sem, hx]))) ?_
   refine hR _ _ (K9 _ _ ?_); clear hR R; try clear K9 Z9
   try simp only [go_sem, hx]
   refine W_seq fun Z10 K10 => ?_
   refine W_regionJ [2, 3, 5, 76] [(76, .bool false)] ?_ fun R hR => ?_
   ·refine K10 _ _ ?_
    simp only [go_sem, hx]
    refine W_cond rfl (fun c3 => ?_) (fun c3 => ?_)
    ·
     try simp only [nrm] at c3
     exfalso
     simp at c3
    try simp only [nrm] at c3
    refine W_skip (K8 _ _ ?_)
    refine W_region [2, 3, 5] fun R hR => ?_
    simp only [go_sem, hx]
    try simp (disch := omega) only [wrapI, wrapU]
    refine hR _ _ ?_; clear hR R
    try simp only [go_sem, hx]
    refine ⟨i + 1, ?_, by (try simp only []); omega, ?_⟩
    ·refine Weak.trans (Weak.cutX 2 0 (by omega) (by omega) hcl (by simp only [go_sem] <;> omega) (by simp only [go_sem] <;> omega)) ?_
     simp only [go_sem]
     exact Weak.eq (by first | rfl | (simp only [go_sem]; done) | (simp only [go_sem]; rfl) | (simp [go_sem]; done) | (simp [go_sem]; omega)) (by first | rfl | (simp only [go_sem]; done) | (simp [go_sem]; done))
    try dsimp only
    omega
   simp only [go_sem, hx]
   refine GCall_of (PC.val (v' := .bool true) (EqInts_pc Y _ x.marks x.marks .ro .ro (by have := hm x (List.mem_of_getElem? hx); omega)) (by simp)) ?_
   simp only [go_sem, hx]
   refine hR _ ?_
   all_goals try simp only [go_sem, hx]
   all_goals
    first | rfl | (simp_all; done)
  try simp only [nrm] at c2
  have hdrop : n.opened.drop i = [] := List.drop_eq_nil_of_le (by omega)
  refine W_exit ?_
  simp only [go_sem]
  refine K4 _ _ ?_
  refine W_seq fun Z11 K11 => ?_
  refine W_sr [2, 3, 8] fun R hR => ?_
  simp only [go_sem]
  refine hR _ _ ?_; clear hR R
  try simp only [go_sem]
  refine W_block ?_
  refine W_loopS (α := Nat) (fun (i : Nat) => [(8, I i)]) (fun (i : Nat) => i ≤ n.fines.length) (fun (i : Nat) => n.fines.length - i) (0) rfl (Nat.zero_le _) ?_
  rintro i hi
  refine W_seq fun Z13 K13 => ?_
  refine W_sr [2, 3, 8, 81] fun R hR => ?_
  simp only [go_sem]
  refine hR _ _ ?_; clear hR R
  try simp only [go_sem]
  refine W_cond rfl (fun c4 => ?_) (fun c4 => ?_)
  ·
   try simp only [nrm] at c4
   have hi' : i < n.fines.length := by first | assumption | omega
   obtain ⟨x, hx⟩ : ∃ x, n.fines[i]? = some x := ⟨n.fines[i], by simp [hi']⟩
   have hdrop : n.fines.drop i = x :: n.fines.drop (i + 1) := by
    rw [List.drop_eq_getElem_cons hi']; congr 1; exact (List.getElem?_eq_some_iff.1 hx).2
   refine W_skip (K13 _ _ ?_)
   refine W_seq fun Z15 K15 => ?_
   refine W_block ?_
   refine W_seq fun Z16 K16 => ?_
   refine W_draw [2, 3, 8, 94] [0, 1, 2, 3, 4, 5, 6, 7, 8, 9, 10] [] [[], [0], [], [0, 1, 2], [0, 1, 2, 3], [], [5], [], [5, 6, 7], [5, 6, 7, 8], [0, 1, 2, 3, 4, 5, 6, 7, 8, 9]] mixed (by kernel_rfl) fun R hR => ?_
   simp only [go_sem, hx]
   try refine And.intro (by repeat' (first | refine And.intro ?_ ?_ | exact GOr_right (fun _ => by simp only [go_sem, hx]))) ?_
   refine hR _ _ (K16 _ _ ?_); clear hR R; try clear K16 Z16
   try simp only [go_sem, hx]
   refine W_cond rfl (fun c5 => ?_) (fun c5 => ?_)
   ·
    try simp only [nrm] at c5
    exfalso
    simp at c5
   try simp only [nrm] at c5
   refine W_skip (K15 _ _ ?_)
   refine W_region [2, 3, 8] fun R hR => ?_
   simp only [go_sem, hx]
   try simp (disch := omega) only [wrapI, wrapU]
   refine hR _ _ ?_; clear hR R
   try simp only [go_sem, hx]
   refine ⟨i + 1, ?_, by (try simp only []); omega, ?_⟩
   ·first | exact Weak.refl | exact Wqq
   try dsimp only
   omega
  try simp only [nrm] at c4
  have hdrop : n.fines.drop i = [] := List.drop_eq_nil_of_le (by omega)
  refine W_exit ?_
  simp only [go_sem]
  refine K11 _ _ ?_
  refine W_sr [4] fun R hR => ?_
  simp only [go_sem]
  refine hR _ _ ?_; clear hR R
  try simp only [go_sem]
  refine W_ret ?_
  simp only [go_sem]
  refine ⟨.inr (by trivial), ?_⟩
  first | refine Fsa hcl rfl ?_ | refine Fse hcl rfl ?_
  try simp only [go_sem]
  all_goals
   first | rfl | (simp_all; done) | (simp_all; omega)
 simp only [go_sem]
 refine GCall_of (PC.val (v' := .bool true) (EqAbsent_pc Y _ n.absent n.absent .ro .ro (by omega)) (by simp)) ?_
 simp only [go_sem]
 refine hR _ ?_
 all_goals try simp only [go_sem]
 all_goals
  first | rfl | (simp_all; done)
set_option maxHeartbeats 2000000 in
theorem wide_pc (Y : YEnv) (σ : Sg) (s : Scale) (n : Night) (hs : s.order.length < 2 ^ 50) (ho : n.opened.length < 2 ^ 50) (ha : n.absent.length < 2 ^ 50) (hf : n.fines.length < 2 ^ 50) (hm : ∀ x, x ∈ n.opened → x.marks.length < 2 ^ 50) :
 PC Tryz.prog Y 20 [scPV s, ngPV n] σ (.bool (wideB s n)) (σ) := by
 refine PC_of_W Tryz.func20 rfl (by kernel_rfl) Tryz.ntmps20 (by simp) fun hcl hca => ?_
 obtain ⟨res, hres⟩ : ∃ r, wideB s n = r := ⟨_, rfl⟩
 rw [hres]
 refine W_sr [2, 3] fun R hR => ?_
 simp only [go_sem]
 refine hR _ _ ?_; clear hR R
 try simp only [go_sem]
 refine W_seq fun Z2 K2 => ?_
 refine W_sr [2, 3, 5] fun R hR => ?_
 simp only [go_sem]
 refine hR _ _ ?_; clear hR R
 try simp only [go_sem]
 refine W_block ?_
 refine W_loopS (α := Nat) (fun (i : Nat) => [(5, I i)]) (fun (i : Nat) => i ≤ n.opened.length ∧ i ≤ 70 ∧ ∀ x, x ∈ n.opened.take i → ¬ (20 < (x.marks.length : Int))) (fun (i : Nat) => n.opened.length - i) (0) rfl (⟨Nat.zero_le _, by omega, fun x hx => by simp at hx⟩) ?_
 rintro i ⟨hi, hi7, hal⟩
 refine W_seq fun Z4 K4 => ?_
 refine W_seq fun Z5 K5 => ?_
 refine W_regionJ [2, 3, 5, 14] [(14, .bool (decide (i < n.opened.length) && decide (i < 70)))] ?_ fun R hR => ?_
 ·refine K5 _ _ ?_
  simp only [go_sem]
  refine W_cond rfl (fun c1 => ?_) (fun c1 => ?_)
  ·
   try simp only [nrm] at c1
   have hb' : i < n.opened.length ∧ i < 70 := by simpa using c1
   have hi' := hb'.1
   have hi70 := hb'.2
   obtain ⟨x, hx⟩ : ∃ x, n.opened[i]? = some x := ⟨n.opened[i], by simp⟩
   have hxl := hm x (List.mem_of_getElem? hx)
   refine W_skip (K4 _ _ ?_)
   refine W_seq fun Z6 K6 => ?_
   refine W_block ?_
   refine W_sr [2, 3, 5, 24] fun R hR => ?_
   simp only [go_sem, hx]
   refine hR _ _ ?_; clear hR R
   try simp only [go_sem, hx]
   refine W_cond rfl (fun c2 => ?_) (fun c2 => ?_)
   ·
    try simp only [nrm] at c2
    refine W_sr [4] fun R hR => ?_
    simp only [go_sem, hx]
    refine hR _ _ ?_; clear hR R
    try simp only [go_sem, hx]
    refine W_ret ?_
    simp only [go_sem, hx]
    refine ⟨.inr (by trivial), ?_⟩
    first | refine Fsa hcl rfl ?_ | refine Fse hcl rfl ?_
    try simp only [go_sem]
    all_goals
     have hany : (n.opened.take 70).any (fun x => decide (20 < (x.marks.length : Int))) = true := by
      rw [List.any_eq_true]
      refine ⟨x, List.mem_of_getElem? (i := i) (by rw [List.getElem?_take_of_lt hi70]; exact hx), ?_⟩
      rw [decide_eq_true_eq]; first | exact c2 | omega
     rw [← hres]; unfold wideB; rw [hany]; rfl
   try simp only [nrm] at c2
   refine W_skip (K6 _ _ ?_)
   refine W_region [2, 3, 5] fun R hR => ?_
   simp only [go_sem, hx]
   try simp (disch := omega) only [wrapI, wrapU]
   refine hR _ _ ?_; clear hR R
   try simp only [go_sem, hx]
   refine ⟨i + 1, ?_, by (try simp only []); omega, ?_⟩
   ·first | exact Weak.refl | exact Wqq
   try dsimp only
   refine ⟨by omega, by omega, fun y hy => ?_⟩
   rw [List.take_add_one, hx] at hy
   rcases List.mem_append.1 hy with h | h
   ·exact hal y h
   simp at h; subst h; first | exact c2 | omega | (simp at c2; omega)
  try simp only [nrm] at c1
  have hb' : ¬ (i < n.opened.length ∧ i < 70) := by simpa using c1
  have htk : n.opened.take 70 = n.opened.take i := by
   by_cases e : i = n.opened.length
   ·rw [e, List.take_length, List.take_of_length_le (by omega)]
   have : i = 70 := by omega
   rw [this]
  have hany : (n.opened.take 70).any (fun x => decide (20 < (x.marks.length : Int))) = false := by
   rw [List.any_eq_false, htk]
   intro x hx
   simpa using hal x hx
  unfold wideB at hres
  rw [hany, Bool.false_or] at hres
  refine W_exit ?_
  simp only [go_sem]
  refine K2 _ _ ?_
  refine W_sr [4] fun R hR => ?_
  simp only [go_sem]
  refine GWant_split (fun g1 => ?_) (fun g1 => ?_)
  ·try simp only [Bool.not_eq_true', Bool.not_eq_false'] at g1
   have n1 := g1; try simp only [nrm] at n1
   simp only [go_sem, g1]
   refine GWant_split (fun g2 => ?_) (fun g2 => ?_)
   ·try simp only [Bool.not_eq_true', Bool.not_eq_false'] at g2
    have n2 := g2; try simp only [nrm] at n2
    simp only [go_sem, g1, g2]
    refine GWant_split (fun g3 => ?_) (fun g3 => ?_)
    ·try simp only [Bool.not_eq_true', Bool.not_eq_false'] at g3
     have n3 := g3; try simp only [nrm] at n3
     simp only [go_sem, g1, g2, g3]
     refine hR _ _ ?_; clear hR R
     try simp only [go_sem]
     refine W_ret ?_
     simp only [go_sem]
     refine ⟨.inr (by trivial), ?_⟩
     first | refine Fsa hcl rfl ?_ | refine Fse hcl rfl ?_
     try simp only [go_sem]
     all_goals
      rw [← hres]; first | rfl | (simp [*]; done) | (simp_all; done)
    try simp only [Bool.not_eq_true', Bool.not_eq_false'] at g3
    have n3 := g3; try simp only [nrm] at n3
    simp only [go_sem, g1, g2, g3]
    refine hR _ _ ?_; clear hR R
    try simp only [go_sem]
    refine W_ret ?_
    simp only [go_sem]
    refine ⟨.inr (by trivial), ?_⟩
    first | refine Fsa hcl rfl ?_ | refine Fse hcl rfl ?_
    try simp only [go_sem]
    all_goals
     rw [← hres]; first | rfl | (simp [*]; done) | (simp_all; done)
   try simp only [Bool.not_eq_true', Bool.not_eq_false'] at g2
   have n2 := g2; try simp only [nrm] at n2
   simp only [go_sem, g1, g2]
   refine hR _ _ ?_; clear hR R
   try simp only [go_sem]
   refine W_ret ?_
   simp only [go_sem]
   refine ⟨.inr (by trivial), ?_⟩
   first | refine Fsa hcl rfl ?_ | refine Fse hcl rfl ?_
   try simp only [go_sem]
   all_goals
    rw [← hres]; first | rfl | (simp [*]; done) | (simp_all; done)
  try simp only [Bool.not_eq_true', Bool.not_eq_false'] at g1
  have n1 := g1; try simp only [nrm] at n1
  simp only [go_sem, g1]
  refine hR _ _ ?_; clear hR R
  try simp only [go_sem]
  refine W_ret ?_
  simp only [go_sem]
  refine ⟨.inr (by trivial), ?_⟩
  first | refine Fsa hcl rfl ?_ | refine Fse hcl rfl ?_
  try simp only [go_sem]
  all_goals
   rw [← hres]; first | rfl | (simp [*]; done) | (simp_all; done)
 simp only [go_sem]
 refine GWant_split (fun g4 => ?_) (fun g4 => ?_)
 ·try simp only [Bool.not_eq_true', Bool.not_eq_false'] at g4
  have n4 := g4; try simp only [nrm] at n4
  simp only [go_sem, g4]
  refine hR _ ?_
  all_goals try simp only [go_sem]
  all_goals
   first | (simp [*]; done) | (simp_all; done) | (simp_all; omega)
 try simp only [Bool.not_eq_true', Bool.not_eq_false'] at g4
 have n4 := g4; try simp only [nrm] at n4
 simp only [go_sem, g4]
 refine hR _ ?_
 all_goals try simp only [go_sem]
 all_goals
  first | (simp [*]; done) | (simp_all; done) | (simp_all; omega)
def jdE (x : Envl) : Int × Int := (x.matter, x.judge)
structure GoodE (s : Scale) (x : Envl) : Prop where
 m : marked s (jdE x) x.marks = 0
 sl : x.sl = sealOf (jdE x) x.marks
def SameE (l : List Envl) : Prop := ∀ x, x ∈ l → ∀ y, y ∈ l → jdE x = jdE y → x.marks = y.marks
/-- The first envelope of a judge. -/
def findE (l : List Envl) (j : Int × Int) : Option (List Int) := (l.find? fun x => decide (jdE x = j)).map (·.marks)
theorem findE_nil (j : Int × Int) : findE [] j = none := rfl
theorem findE_cons (x : Envl) (l : List Envl) (j : Int × Int) : findE (x :: l) j = if jdE x = j then some x.marks else findE l j := by
 unfold findE
 rw [List.find?_cons]
 by_cases h : jdE x = j <;> simp [h]
theorem findE_some {l : List Envl} {j : Int × Int} {v : List Int} (h : findE l j = some v) : ∃ x, x ∈ l ∧ jdE x = j ∧ x.marks = v := by
 induction l with
 | nil => cases h
 | cons x l ih =>
  rw [findE_cons] at h
  split at h
  ·cases h; exact ⟨x, by simp, by assumption, rfl⟩
  obtain ⟨y, h1, h2⟩ := ih h; exact ⟨y, by simp [h1], h2⟩
theorem findE_none {l : List Envl} {j : Int × Int} : findE l j = none ↔ ∀ x, x ∈ l → jdE x ≠ j := by
 induction l with
 | nil => simp [findE_nil]
 | cons x l ih =>
  rw [findE_cons]
  split
  ·constructor
   ·intro h; cases h
   intro h; exact absurd (by assumption) (h x (by simp))
  rw [ih]
  constructor
  ·intro h y hy
   rcases List.mem_cons.1 hy with rfl | hy
   ·assumption
   exact h y hy
  intro h y hy; exact h y (by simp [hy])
theorem findE_mem {l : List Envl} (hs : SameE l) {x : Envl} (hx : x ∈ l) : findE l (jdE x) = some x.marks := by
 cases h : findE l (jdE x) with
 | none => exact absurd rfl (findE_none.1 h x hx)
 | some v =>
  obtain ⟨y, h1, h2, rfl⟩ := findE_some h
  rw [hs y h1 x hx h2]
theorem openK_zero {s : Scale} : ∀ {l : List Envl} {k : Kn}, (openK s l k).1 = 0 ↔ (∀ x, x ∈ l → GoodE s x) ∧ SameE l ∧ ∀ x, x ∈ l → ∀ o, aget (jdE x) k = some o → o = x.marks := by
 intro l
 induction l with
 | nil => intro k; simp [openK, SameE]
 | cons x l ih =>
  intro k
  have hj : (x.matter, x.judge) = jdE x := rfl
  simp only [openK, hj]
  by_cases h1 : marked s (jdE x) x.marks = 0
  ·rw [if_neg (by simp [h1])]
   by_cases h2 : x.sl = sealOf (jdE x) x.marks
   ·rw [if_neg (by simp [h2])]
    cases ho : aget (jdE x) k with
    | none =>
     simp only [Bool.false_eq_true, if_false]
     rw [ih]
     constructor
     ·rintro ⟨a, b, c⟩
      refine ⟨fun y hy => ?_, fun y hy z hz e => ?_, fun y hy o hoo => ?_⟩
      ·rcases List.mem_cons.1 hy with rfl | hy
       ·exact ⟨h1, h2⟩
       exact a y hy
      ·rcases List.mem_cons.1 hy with rfl | hy'
       ·rcases List.mem_cons.1 hz with rfl | hz
        ·rfl
        exact c z hz _ (by rw [aget_put, if_pos e.symm])
       rcases List.mem_cons.1 hz with rfl | hz
       ·exact (c y hy' _ (by rw [aget_put, if_pos e])).symm
       exact b y hy' z hz e
      rcases List.mem_cons.1 hy with rfl | hy
      ·rw [ho] at hoo; cases hoo
      by_cases e : jdE y = jdE x
      ·rw [e, ho] at hoo; cases hoo
      exact c y hy o (by rw [aget_put, if_neg e]; exact hoo)
     rintro ⟨a, b, c⟩
     refine ⟨fun y hy => a y (by simp [hy]), fun y hy z hz e => b y (by simp [hy]) z (by simp [hz]) e, fun y hy o hoo => ?_⟩
     rw [aget_put] at hoo
     split at hoo
     ·cases hoo; exact b x (by simp) y (by simp [hy]) (by symm; assumption)
     exact c y (by simp [hy]) o hoo
    | some old =>
     by_cases h3 : old = x.marks
     ·subst h3
      simp only [ne_eq, not_true_eq_false, decide_false, Bool.false_eq_true, if_false]
      rw [ih]
      constructor
      ·rintro ⟨a, b, c⟩
       refine ⟨fun y hy => ?_, fun y hy z hz e => ?_, fun y hy o hoo => ?_⟩
       ·rcases List.mem_cons.1 hy with rfl | hy
        ·exact ⟨h1, h2⟩
        exact a y hy
       ·rcases List.mem_cons.1 hy with rfl | hy'
        ·rcases List.mem_cons.1 hz with rfl | hz
         ·rfl
         exact c z hz _ (by rw [aget_put, if_pos e.symm])
        rcases List.mem_cons.1 hz with rfl | hz
        ·exact (c y hy' _ (by rw [aget_put, if_pos e])).symm
        exact b y hy' z hz e
       rcases List.mem_cons.1 hy with rfl | hy
       ·rw [ho] at hoo; cases hoo; rfl
       by_cases e : jdE y = jdE x
       ·rw [e, ho] at hoo; cases hoo; exact c y hy _ (by rw [aget_put, if_pos e])
       exact c y hy o (by rw [aget_put, if_neg e]; exact hoo)
      rintro ⟨a, b, c⟩
      refine ⟨fun y hy => a y (by simp [hy]), fun y hy z hz e => b y (by simp [hy]) z (by simp [hz]) e, fun y hy o hoo => ?_⟩
      rw [aget_put] at hoo
      split at hoo
      ·cases hoo; exact b x (by simp) y (by simp [hy]) (by symm; assumption)
      exact c y (by simp [hy]) o hoo
     simp only [ne_eq, h3, not_false_eq_true, decide_true, if_true]
     constructor
     ·intro h; cases h
     rintro ⟨_, _, c⟩; exact absurd (c x (by simp) old ho) h3
   rw [if_pos (by simpa using h2)]
   constructor
   ·intro h; cases h
   rintro ⟨a, _⟩; exact absurd (a x (by simp)).sl h2
  rw [if_pos (by simpa using h1)]
  constructor
  ·intro h; exact absurd h h1
  rintro ⟨a, _⟩; exact absurd (a x (by simp)).m h1
theorem openK_get {s : Scale} : ∀ {l : List Envl} {k : Kn}, (openK s l k).1 = 0 → ∀ j, aget j (openK s l k).2 = match findE l j with | some v => some v | none => aget j k := by
 intro l
 induction l with
 | nil => intro k _ j; rfl
 | cons x l ih =>
  intro k h j
  have hz := openK_zero.1 h
  have hj : (x.matter, x.judge) = jdE x := rfl
  simp only [openK, hj] at h ⊢
  obtain ⟨g1, g2⟩ := hz.1 x (by simp)
  rw [if_neg (by simp [g1]), if_neg (by simp [g2])] at h ⊢
  have key : (openK s l (aput (jdE x) x.marks k)).1 = 0 → aget j (openK s l (aput (jdE x) x.marks k)).2 = match findE (x :: l) j with | some v => some v | none => aget j k := by
   intro h
   rw [ih h j, findE_cons, aget_put]
   by_cases e : jdE x = j
   ·subst e
    rw [if_pos rfl, if_pos rfl]
    cases hf : findE l (jdE x) with
    | none => rfl
    | some v =>
     obtain ⟨y, h1, h2, rfl⟩ := findE_some hf
     show some y.marks = some x.marks
     rw [hz.2.1 y (by simp [h1]) x (by simp) h2]
   rw [if_neg e, if_neg (fun h => e h.symm)]
  cases ho : aget (jdE x) k with
  | none =>
   simp only [ho, Bool.false_eq_true, if_false] at h ⊢
   have := key h
   simpa only [ho] using this
  | some old =>
   have e := hz.2.2 x (by simp) old ho
   subst e
   simp only [ho, ne_eq, not_true_eq_false, decide_false, Bool.false_eq_true, if_false] at h ⊢
   have := key h
   simpa only [ho] using this
theorem missK_zero {s : Scale} : ∀ {l : List (Int × Int)} {k : Kn}, (missK s l k).1 = 0 ↔ ∀ j, j ∈ l → ofSc s j = true ∧ (aget j k).getD [] = [] := by
 intro l
 induction l with
 | nil => intro k; simp [missK]
 | cons x l ih =>
  intro k
  simp only [missK]
  by_cases h1 : ofSc s x = true
  ·rw [h1]
   simp only [Bool.not_true, Bool.false_eq_true, if_false]
   by_cases h2 : (aget x k).getD [] = []
   ·rw [if_neg (by simp [h2]), ih]
    constructor
    ·intro a j hj
     rcases List.mem_cons.1 hj with rfl | hj
     ·exact ⟨h1, h2⟩
     refine ⟨(a j hj).1, ?_⟩
     have := (a j hj).2
     rw [aget_put] at this
     split at this
     ·rename_i e; rw [e]; exact h2
     exact this
    intro a j hj
    refine ⟨(a j (by simp [hj])).1, ?_⟩
    rw [aget_put]
    split
    ·rfl
    exact (a j (by simp [hj])).2
   rw [if_pos h2]
   constructor
   ·intro h; cases h
   intro a; exact absurd (a x (by simp)).2 h2
  have : ofSc s x = false := by simpa using h1
  rw [this]
  constructor
  ·intro h; cases h
  intro a; exact absurd (a x (by simp)).1 h1
theorem missK_get {s : Scale} : ∀ {l : List (Int × Int)} {k : Kn}, (missK s l k).1 = 0 → ∀ j, aget j (missK s l k).2 = if j ∈ l then some [] else aget j k := by
 intro l
 induction l with
 | nil => intro k _ j; simp [missK]
 | cons x l ih =>
  intro k h j
  obtain ⟨g1, g2⟩ := missK_zero.1 h x (by simp)
  simp only [missK] at h ⊢
  rw [g1, if_neg (by simp), if_neg (by simp [g2])] at h ⊢
  rw [ih h j, aget_put]
  by_cases e : j ∈ l
  ·rw [if_pos e, if_pos (by simp [e])]
  rw [if_neg e]
  by_cases e2 : j = x
  ·rw [if_pos e2, if_pos (by simp [e2])]
  rw [if_neg e2, if_neg (by simp [e, e2])]
/-- What a night tells of a judge. -/
def kOf (n : Night) (j : Int × Int) : Option (List Int) := match findE n.opened j with
 | some v => some v
 | none => if j ∈ n.absent then some [] else none
structure NightV (s : Scale) (n : Night) : Prop where
 c : chkSc s = 0
 o60 : n.opened.length ≤ 60
 op : ∀ x, x ∈ n.opened → GoodE s x
 cs : SameE n.opened
 a60 : n.absent.length ≤ 60
 ab : ∀ j, j ∈ n.absent → ofSc s j = true ∧ ∀ x, x ∈ n.opened → jdE x ≠ j
 sh : ∀ m, 0 ≤ m → m < s.matters → ∃ q, (0 ≤ q ∧ q < s.judges) ∧ (m, q) ∉ n.absent
 fi : finesE s n.fines = 0
theorem GoodE.ne {s : Scale} (hv : s.V) {x : Envl} (h : GoodE s x) : x.marks ≠ [] := fun e => by
 obtain ⟨_, h2, _⟩ := marked_ok h.m
 have := hv.sc
 rw [e] at h2
 simp at h2
 omega
theorem pre_get {s : Scale} {n : Night} (h1 : (openK s n.opened []).1 = 0) (h2 : (missK s n.absent (openK s n.opened []).2).1 = 0) (j : Int × Int) : aget j (knownK s n) = kOf n j := by
 unfold knownK kOf
 rw [missK_get h2, openK_get h1]
 have hm := missK_zero.1 h2
 cases hf : findE n.opened j with
 | none => rfl
 | some v =>
  simp only
  by_cases e : j ∈ n.absent
  ·rw [if_pos e]
   have := (hm j e).2
   rw [openK_get h1, hf] at this
   simp at this
   rw [this]
  rw [if_neg e]
theorem absentK_iff {k : Kn} {j : Int × Int} : absentK k j = true ↔ aget j k = some [] := by
 unfold absentK
 cases aget j k with
 | none => simp
 | some l => cases l <;> simp
theorem kOf_nil {s : Scale} (hv : s.V) {n : Night} (hop : ∀ x, x ∈ n.opened → GoodE s x) (hab : ∀ j, j ∈ n.absent → ∀ x, x ∈ n.opened → jdE x ≠ j) (j : Int × Int) : kOf n j = some [] ↔ j ∈ n.absent := by
 unfold kOf
 cases hf : findE n.opened j with
 | none => simp
 | some v =>
  obtain ⟨x, h1, h2, rfl⟩ := findE_some hf
  simp only [Option.some.injEq]
  constructor
  ·intro e; exact absurd e ((hop x h1).ne hv)
  intro e; exact absurd h2 (hab j e x h1)
/-- What depends on the drum's beat, and the beat behind it. -/
abbrev D (α : Type) := Int → α × Int
def dret {α : Type} (a : α) : D α := fun b => (a, b)
def dbind {α β : Type} (m : D α) (f : α → D β) : D β := fun b => f (m b).1 (m b).2
def Holds {α : Type} (m : D α) (R : α → Prop) : Prop := ∀ b, R (m b).1
theorem Holds.ret {α : Type} {a : α} {R : α → Prop} (h : R a) : Holds (dret a) R := fun _ => h
theorem Holds.bind {α β : Type} {m : D α} {f : α → D β} {R : α → Prop} {S : β → Prop} (h : Holds m R) (k : ∀ a, R a → Holds (f a) S) : Holds (dbind m f) S := fun b => k _ (h b) _
theorem Holds.mono {α : Type} {m : D α} {R S : α → Prop} (h : Holds m R) (k : ∀ a, R a → S a) : Holds m S := fun b => k _ (h b)
def xorU (a b : Int) : Int := match arith .xor .u64 a b with | some (.int _ n) => n | _ => 0
def hitB (b : Int) : Int := IntKind.u64.wrap (IntKind.u64.wrap (b * 15074714826142052245) + 11400714819323198485)
def hitM (x : Int) : Int := IntKind.u64.wrap (xorU x (x.fdiv 4294967296) * 15760922415973212899)
def hitX (b : Int) : Int := xorU (hitM (hitM (hitB b))) ((hitM (hitM (hitB b))).fdiv 4294967296)
theorem wrapU_bd (n : Int) : 0 ≤ IntKind.u64.wrap n ∧ IntKind.u64.wrap n ≤ 18446744073709551615 := by
 have h : IntKind.u64.wrap n = n % 18446744073709551616 := rfl
 rw [h]; omega
theorem hitX_bd (b : Int) : 0 ≤ hitX b ∧ hitX b ≤ 18446744073709551615 := wrapU_bd _
def roll0 (n : Int) : D Int := fun b => if n < 2 then (0, b) else ((hitX b / 2) % n, hitB b)
/-- A number drawn: sealed, so that nobody computes with it. -/
noncomputable def roll : Int → D Int := Classical.choose (⟨roll0, rfl⟩ : ∃ f, f = roll0)
theorem roll_eq : roll = fun n b => if n < 2 then (0, b) else ((hitX b / 2) % n, hitB b) := Classical.choose_spec (⟨roll0, rfl⟩ : ∃ f, f = roll0)
noncomputable def mid (lo hi : Int) : D Int := fun b => (lo + (roll (hi - lo + 1) b).1, (roll (hi - lo + 1) b).2)
noncomputable def anyOf (l : List Int) : D Int := fun b => ((l[(roll l.length b).1.toNat]?).getD 0, (roll l.length b).2)
theorem roll_bd (n : Int) : Holds (roll n) fun r => 0 ≤ r ∧ r < max n 1 := by
 intro b
 rw [roll_eq]
 dsimp only
 have := hitX_bd b
 by_cases h : n < 2
 ·rw [if_pos h]; simp only []; omega
 rw [if_neg h]
 have h1 := Int.emod_nonneg (hitX b / 2) (show n ≠ 0 by omega)
 have h2 := Int.emod_lt_of_pos (hitX b / 2) (show 0 < n by omega)
 simp only []; omega
theorem mid_bd (lo hi : Int) (h : lo ≤ hi) : Holds (mid lo hi) fun r => lo ≤ r ∧ r ≤ hi := by
 intro b
 have := roll_bd (hi - lo + 1) b
 simp only [mid] at *
 omega
theorem anyOf_mem (l : List Int) (h : l ≠ []) : Holds (anyOf l) fun r => r ∈ l := by
 intro b
 have := roll_bd l.length b
 simp only [anyOf] at *
 have hl : 0 < l.length := by cases l with | nil => exact absurd rfl h | cons => simp
 have hlt : (roll (l.length : Int) b).1.toNat < l.length := by omega
 rw [List.getElem?_eq_getElem hlt]
 exact List.getElem_mem hlt
set_option maxHeartbeats 2000000 in
theorem hit_pc (Y : YEnv) (σ : Sg) (d : Nat) (b : Int) (hd : σ.store[d]? = some (some [.int .u64 b])) :
 PC Tryz.prog Y 47 [.ptr d 0] σ (.int .u64 (hitX b)) (σ.setVar d [.int .u64 (hitB b)]) := by
 refine PC_of_W Tryz.func47 rfl (by kernel_rfl) Tryz.ntmps47 (by simp) fun hcl hca => ?_
 have hlt := lt_of_get hd
 refine W_sr [0] fun R hR => ?_
 simp only [go_sem, ldS_at hd, stX_at hd, ldS_sv hlt, stX_sv hlt, sv_ext hlt, sv_ext_sv hlt]
 refine hR _ _ ?_; clear hR R
 try simp only [go_sem, ldS_at hd, stX_at hd, ldS_sv hlt, stX_sv hlt, sv_ext hlt, sv_ext_sv hlt]
 refine W_sr [0] fun R hR => ?_
 simp only [go_sem, ldS_at hd, stX_at hd, ldS_sv hlt, stX_sv hlt, sv_ext hlt, sv_ext_sv hlt]
 try simp (disch := omega) only [wrapI, wrapU]
 refine hR _ _ ?_; clear hR R
 try simp only [go_sem, ldS_at hd, stX_at hd, ldS_sv hlt, stX_sv hlt, sv_ext hlt, sv_ext_sv hlt]
 refine W_sr [3] fun R hR => ?_
 simp only [go_sem, ldS_at hd, stX_at hd, ldS_sv hlt, stX_sv hlt, sv_ext hlt, sv_ext_sv hlt]
 refine hR _ _ ?_; clear hR R
 try simp only [go_sem, ldS_at hd, stX_at hd, ldS_sv hlt, stX_sv hlt, sv_ext hlt, sv_ext_sv hlt]
 refine W_sr [3] fun R hR => ?_
 simp only [go_sem, ldS_at hd, stX_at hd, ldS_sv hlt, stX_sv hlt, sv_ext hlt, sv_ext_sv hlt]
 try simp (disch := omega) only [wrapI, wrapU]
 refine hR _ _ ?_; clear hR R
 try simp only [go_sem, ldS_at hd, stX_at hd, ldS_sv hlt, stX_sv hlt, sv_ext hlt, sv_ext_sv hlt]
 refine W_sr [3] fun R hR => ?_
 simp only [go_sem, ldS_at hd, stX_at hd, ldS_sv hlt, stX_sv hlt, sv_ext hlt, sv_ext_sv hlt]
 try simp (disch := omega) only [wrapI, wrapU]
 refine hR _ _ ?_; clear hR R
 try simp only [go_sem, ldS_at hd, stX_at hd, ldS_sv hlt, stX_sv hlt, sv_ext hlt, sv_ext_sv hlt]
 refine W_sr [2] fun R hR => ?_
 simp only [go_sem, ldS_at hd, stX_at hd, ldS_sv hlt, stX_sv hlt, sv_ext hlt, sv_ext_sv hlt]
 refine hR _ _ ?_; clear hR R
 try simp only [go_sem, ldS_at hd, stX_at hd, ldS_sv hlt, stX_sv hlt, sv_ext hlt, sv_ext_sv hlt]
 refine W_ret ?_
 simp only [go_sem, ldS_at hd, stX_at hd, ldS_sv hlt, stX_sv hlt, sv_ext hlt, sv_ext_sv hlt]
 refine ⟨.inr (by trivial), ?_⟩
 first | refine Fin_set hcl (by simp only [go_sem]) rfl (Wk_eq ?_ (by simp only [go_sem])) | refine Fin_set0 hcl (by simp only [go_sem]) rfl (Wk_eq ?_ (by simp only [go_sem]))
 try simp only [go_sem]
 all_goals
  simp only [hitX, hitM, hitB, xorU, go_sem]; simp (disch := omega) only [wrapU]
set_option maxHeartbeats 2000000 in
theorem Roll_lo (Y : YEnv) (σ : Sg) (d : Nat) (n : Int) (hn : n < 2) :
 PC Tryz.prog Y 50 [.ptr d 0, I n] σ (I 0) (σ) := by
 refine PC_of_W Tryz.func50 rfl (by kernel_rfl) Tryz.ntmps50 (by simp) fun hcl hca => ?_
 refine W_sr [0, 1] fun R hR => ?_
 simp only [go_sem]
 refine hR _ _ ?_; clear hR R
 try simp only [go_sem]
 refine W_seq fun Z2 K2 => ?_
 refine W_sr [0, 1, 6] fun R hR => ?_
 simp only [go_sem]
 refine hR _ _ ?_; clear hR R
 try simp only [go_sem]
 refine W_cond rfl (fun c1 => ?_) (fun c1 => ?_)
 ·
  try simp only [nrm] at c1
  refine W_sr [4] fun R hR => ?_
  simp only [go_sem]
  refine hR _ _ ?_; clear hR R
  try simp only [go_sem]
  refine W_ret ?_
  simp only [go_sem]
  refine ⟨.inr (by trivial), ?_⟩
  first | refine Fsa hcl rfl ?_ | refine Fse hcl rfl ?_
  try simp only [go_sem]
  all_goals
   first | rfl | (simp_all; done) | (simp_all; omega)
 try simp only [nrm] at c1
 exfalso
 omega
set_option maxHeartbeats 2000000 in
theorem Roll_hi (Y : YEnv) (σ : Sg) (d : Nat) (b : Int) (hd : σ.store[d]? = some (some [.int .u64 b])) (n : Int) (hn : 2 ≤ n) (hn2 : n < 2 ^ 62) :
 PC Tryz.prog Y 50 [.ptr d 0, I n] σ (I ((hitX b / 2) % n)) (σ.setVar d [.int .u64 (hitB b)]) := by
 refine PC_of_W Tryz.func50 rfl (by kernel_rfl) Tryz.ntmps50 (by simp) fun hcl hca => ?_
 have hlt := lt_of_get hd
 have hb := hitX_bd b
 have e1 : (hitX b).fdiv 2 = hitX b / 2 := Int.fdiv_eq_ediv_of_nonneg _ (by omega)
 have e2 : (hitX b / 2).tmod n = (hitX b / 2) % n := Int.tmod_eq_emod_of_nonneg (by omega)
 have h1 := Int.emod_nonneg (hitX b / 2) (show n ≠ 0 by omega)
 have h2 := Int.emod_lt_of_pos (hitX b / 2) (show 0 < n by omega)
 have e3 : ¬ n = 0 := by omega
 have e4 : IntKind.u64.wrap n = n := wrapU (by omega) (by omega)
 refine W_sr [0, 1] fun R hR => ?_
 simp only [go_sem, ldS_at hd, stX_at hd, ldS_sv hlt, stX_sv hlt, sv_ext hlt, sv_ext_sv hlt]
 refine hR _ _ ?_; clear hR R
 try simp only [go_sem, ldS_at hd, stX_at hd, ldS_sv hlt, stX_sv hlt, sv_ext hlt, sv_ext_sv hlt]
 refine W_seq fun Z2 K2 => ?_
 refine W_sr [0, 1, 6] fun R hR => ?_
 simp only [go_sem, ldS_at hd, stX_at hd, ldS_sv hlt, stX_sv hlt, sv_ext hlt, sv_ext_sv hlt]
 refine hR _ _ ?_; clear hR R
 try simp only [go_sem, ldS_at hd, stX_at hd, ldS_sv hlt, stX_sv hlt, sv_ext hlt, sv_ext_sv hlt]
 refine W_cond rfl (fun c1 => ?_) (fun c1 => ?_)
 ·
  try simp only [nrm] at c1
  exfalso
  omega
 try simp only [nrm] at c1
 refine W_skip (K2 _ _ ?_)
 refine W_sr [4] fun R hR => ?_
 simp only [go_sem, ldS_at hd, stX_at hd, ldS_sv hlt, stX_sv hlt, sv_ext hlt, sv_ext_sv hlt, e4, e1, e2, e3]
 refine GCall_of (hit_pc Y _ d b hd) ?_
 simp only [go_sem, ldS_at hd, stX_at hd, ldS_sv hlt, stX_sv hlt, sv_ext hlt, sv_ext_sv hlt, e4, e1, e2, e3]
 try simp (disch := omega) only [wrapI, wrapU]
 refine hR _ _ ?_; clear hR R
 try simp only [go_sem, ldS_at hd, stX_at hd, ldS_sv hlt, stX_sv hlt, sv_ext hlt, sv_ext_sv hlt]
 refine W_ret ?_
 simp only [go_sem, ldS_at hd, stX_at hd, ldS_sv hlt, stX_sv hlt, sv_ext hlt, sv_ext_sv hlt]
 refine ⟨.inr (by trivial), ?_⟩
 first | refine Fin_set hcl (by simp only [go_sem]) rfl (Wk_eq ?_ (by simp only [go_sem])) | refine Fin_set0 hcl (by simp only [go_sem]) rfl (Wk_eq ?_ (by simp only [go_sem]))
 try simp only [go_sem]
 all_goals
  first | rfl | (simp_all; done) | (simp_all; omega)
theorem Roll_pc (Y : YEnv) (σ : Sg) (d : Nat) (b : Int) (hd : σ.store[d]? = some (some [.int .u64 b])) (n : Int) (hn2 : n < 2 ^ 62) : PC Tryz.prog Y 50 [.ptr d 0, I n] σ (I (roll n b).1) (σ.setVar d [.int .u64 (roll n b).2]) := by
 rw [roll_eq]
 dsimp only
 by_cases h : n < 2
 ·rw [if_pos h]; simp only []; rw [sv_self hd]; exact Roll_lo Y σ d n h
 rw [if_neg h]; exact Roll_hi Y σ d b hd n (by omega) hn2
set_option maxHeartbeats 2000000 in
theorem Mid_pc (Y : YEnv) (σ : Sg) (d : Nat) (b : Int) (hd : σ.store[d]? = some (some [.int .u64 b])) (lo hi : Int) (h1 : -2 ^ 60 ≤ lo) (h2 : lo ≤ 2 ^ 60) (h3 : -2 ^ 60 ≤ hi) (h4 : hi ≤ 2 ^ 60) :
 PC Tryz.prog Y 48 [.ptr d 0, I lo, I hi] σ (I (mid lo hi b).1) (σ.setVar d [.int .u64 (mid lo hi b).2]) := by
 refine PC_of_W Tryz.func48 rfl (by kernel_rfl) Tryz.ntmps48 (by simp) fun hcl hca => ?_
 have hlt := lt_of_get hd
 have hr := roll_bd (hi - lo + 1) b
 simp only [] at hr
 refine W_sr [0, 1, 2] fun R hR => ?_
 simp only [go_sem, ldS_at hd, stX_at hd, ldS_sv hlt, stX_sv hlt, sv_ext hlt, sv_ext_sv hlt]
 refine hR _ _ ?_; clear hR R
 try simp only [go_sem, ldS_at hd, stX_at hd, ldS_sv hlt, stX_sv hlt, sv_ext hlt, sv_ext_sv hlt]
 refine W_sr [6] fun R hR => ?_
 simp only [go_sem, ldS_at hd, stX_at hd, ldS_sv hlt, stX_sv hlt, sv_ext hlt, sv_ext_sv hlt]
 try simp (disch := omega) only [wrapI, wrapU]
 refine GCall_of (Roll_pc Y _ d b (by first | exact hd | exact sv_get hlt | exact get_svx hlt | exact get_extx hd) _ (by omega)) ?_
 simp only [go_sem, ldS_at hd, stX_at hd, ldS_sv hlt, stX_sv hlt, sv_ext hlt, sv_ext_sv hlt]
 try simp (disch := omega) only [wrapI, wrapU]
 refine hR _ _ ?_; clear hR R
 try simp only [go_sem, ldS_at hd, stX_at hd, ldS_sv hlt, stX_sv hlt, sv_ext hlt, sv_ext_sv hlt]
 refine W_ret ?_
 simp only [go_sem, ldS_at hd, stX_at hd, ldS_sv hlt, stX_sv hlt, sv_ext hlt, sv_ext_sv hlt]
 refine ⟨.inr (by trivial), ?_⟩
 first | refine Fin_set hcl (by simp only [go_sem]) rfl (Wk_eq ?_ (by simp only [go_sem])) | refine Fin_set0 hcl (by simp only [go_sem]) rfl (Wk_eq ?_ (by simp only [go_sem]))
 try simp only [go_sem]
 all_goals
  first | rfl | (simp_all; done) | (simp_all; omega)
set_option maxHeartbeats 2000000 in
theorem Any_pc (Y : YEnv) (σ : Sg) (d : Nat) (b : Int) (hd : σ.store[d]? = some (some [.int .u64 b])) (l : List Int) (hl : l ≠ []) (hl2 : l.length < 2 ^ 50) :
 PC Tryz.prog Y 49 [.ptr d 0, .isl (l.map I) .exact] σ (I (anyOf l b).1) (σ.setVar d [.int .u64 (anyOf l b).2]) := by
 refine PC_of_W Tryz.func49 rfl (by kernel_rfl) Tryz.ntmps49 (by simp) fun hcl hca => ?_
 have hlt := lt_of_get hd
 have hr := roll_bd l.length b
 simp only [] at hr
 have hl0 : 0 < l.length := by cases l with | nil => exact absurd rfl hl | cons => simp
 have hlt2 : (roll (l.length : Int) b).1.toNat < l.length := by omega
 obtain ⟨x, hx⟩ : ∃ x, l[(roll (l.length : Int) b).1.toNat]? = some x := ⟨_, List.getElem?_eq_getElem hlt2⟩
 have hnn := hr.1
 refine W_sr [0, 1] fun R hR => ?_
 simp only [go_sem, ldS_at hd, stX_at hd, ldS_sv hlt, stX_sv hlt, sv_ext hlt, sv_ext_sv hlt]
 refine hR _ _ ?_; clear hR R
 try simp only [go_sem, ldS_at hd, stX_at hd, ldS_sv hlt, stX_sv hlt, sv_ext hlt, sv_ext_sv hlt]
 refine W_seq fun Z2 K2 => ?_
 refine W_sr [0, 1, 7] fun R hR => ?_
 simp only [go_sem, ldS_at hd, stX_at hd, ldS_sv hlt, stX_sv hlt, sv_ext hlt, sv_ext_sv hlt]
 refine hR _ _ ?_; clear hR R
 try simp only [go_sem, ldS_at hd, stX_at hd, ldS_sv hlt, stX_sv hlt, sv_ext hlt, sv_ext_sv hlt]
 refine W_cond rfl (fun c1 => ?_) (fun c1 => ?_)
 ·
  try simp only [nrm] at c1
  exfalso
  omega
 try simp only [nrm] at c1
 refine W_skip (K2 _ _ ?_)
 refine W_sr [4] fun R hR => ?_
 simp only [go_sem, ldS_at hd, stX_at hd, ldS_sv hlt, stX_sv hlt, sv_ext hlt, sv_ext_sv hlt, hnn, hx]
 refine GCall_of (Roll_pc Y _ d b (by first | exact hd | exact sv_get hlt | exact get_svx hlt | exact get_extx hd) _ (by omega)) ?_
 simp only [go_sem, ldS_at hd, stX_at hd, ldS_sv hlt, stX_sv hlt, sv_ext hlt, sv_ext_sv hlt, hnn, hx]
 refine hR _ _ ?_; clear hR R
 try simp only [go_sem, ldS_at hd, stX_at hd, ldS_sv hlt, stX_sv hlt, sv_ext hlt, sv_ext_sv hlt]
 refine W_ret ?_
 simp only [go_sem, ldS_at hd, stX_at hd, ldS_sv hlt, stX_sv hlt, sv_ext hlt, sv_ext_sv hlt]
 refine ⟨.inr (by trivial), ?_⟩
 first | refine Fin_set hcl (by simp only [go_sem]) rfl (Wk_eq ?_ (by simp only [go_sem])) | refine Fin_set0 hcl (by simp only [go_sem]) rfl (Wk_eq ?_ (by simp only [go_sem]))
 try simp only [go_sem]
 all_goals
  simp only [anyOf, hx, Option.getD_some]
def drumB : List Int → Int → Int
 | [], b => b
 | x :: r, b => drumB r (hitB (xorU b (IntKind.u64.wrap x)))
def fit (x n : Int) : Int := if n < 2 then 0 else if x.tmod n < 0 then x.tmod n + n else x.tmod n
theorem fit_bd (x n : Int) : 0 ≤ fit x n ∧ fit x n < max n 1 := by
 unfold fit
 split
 ·omega
 have h1 := Int.tmod_lt_of_pos x (show 0 < n by omega)
 have h2 := Int.lt_tmod_of_pos x (show 0 < n by omega)
 split <;> omega
set_option maxHeartbeats 2000000 in
theorem DrumOf_pc (Y : YEnv) (σ : Sg) (nums : List Int) (hl : nums.length < 2 ^ 60) :
 PC Tryz.prog Y 21 [ints nums] σ (.ptr σ.store.length 0) (σ.ext [some [.int .u64 (drumB nums 2685821657736338717)]] []) := by
 refine PC_of_W Tryz.func21 rfl (by kernel_rfl) Tryz.ntmps21 (by simp) fun hcl hca => ?_
 refine W_sr [0] fun R hR => ?_
 simp only [go_sem]
 refine hR _ _ ?_; clear hR R
 try simp only [go_sem]
 refine W_sr [0, 3] fun R hR => ?_
 simp only [go_sem]
 refine hR _ _ ?_; clear hR R
 try simp only [go_sem]
 refine W_seq fun Z3 K3 => ?_
 refine W_sr [0, 3, 4] fun R hR => ?_
 simp only [go_sem]
 refine hR _ _ ?_; clear hR R
 try simp only [go_sem]
 refine W_block ?_
 refine W_loopT (α := Nat × Int) (fun ⟨i, b⟩ => [(4, I i)]) (fun ⟨i, b⟩ => σ.ext [some [.int .u64 b]] []) (fun ⟨i, b⟩ => i ≤ nums.length ∧ drumB nums 2685821657736338717 = drumB (nums.drop i) b) (fun ⟨i, b⟩ => nums.length - i) ((0, 2685821657736338717)) rfl (by first | rfl | (simp only [go_sem]; done) | (simp only [go_sem]; rfl)) (⟨Nat.zero_le _, rfl⟩) ?_
 rintro ⟨i, b⟩ ⟨hi, hb⟩
 refine W_seq fun Z5 K5 => ?_
 refine W_sr [0, 3, 4, 10] fun R hR => ?_
 simp only [go_sem]
 refine hR _ _ ?_; clear hR R
 try simp only [go_sem]
 refine W_cond rfl (fun c1 => ?_) (fun c1 => ?_)
 ·
  try simp only [nrm] at c1
  have hi' : i < nums.length := by first | assumption | omega
  obtain ⟨x, hx⟩ : ∃ x, nums[i]? = some x := ⟨nums[i], by simp [hi']⟩
  have hdrop : nums.drop i = x :: nums.drop (i + 1) := by
   rw [List.drop_eq_getElem_cons hi']; congr 1; exact (List.getElem?_eq_some_iff.1 hx).2
  rw [hdrop] at hb
  simp only [drumB] at hb
  refine W_skip (K5 _ _ ?_)
  refine W_seq fun Z7 K7 => ?_
  refine W_block ?_
  refine W_seq fun Z8 K8 => ?_
  refine W_draw [0, 3, 4] [0, 1, 2, 3, 4, 5, 6, 7, 8, 9, 10, 11, 12, 13] [] [[], [], [1], [1, 2], [1, 2, 3], [], [], [5, 6], [5, 6, 7], [5, 6, 7, 8], [1, 2, 3, 4, 5, 6, 7, 8, 9], [0, 1, 2, 3, 4, 5, 6, 7, 8, 9, 10], [0, 1, 2, 3, 4, 5, 6, 7, 8, 9, 10, 11], [0, 1, 2, 3, 4, 5, 6, 7, 8, 9, 10, 11, 12]] mixed (by kernel_rfl) fun R hR => ?_
  simp only [go_sem, hx]
  try simp (disch := omega) only [wrapI, wrapU]
  try refine And.intro (by repeat' (first | refine And.intro ?_ ?_ | exact GOr_right (fun _ => by simp only [go_sem, hx]))) ?_
  refine hR _ _ (K8 _ _ ?_); clear hR R; try clear K8 Z8
  try simp only [go_sem, hx]
  refine W_region [0, 3, 4] fun R hR => ?_
  simp only [go_sem, hx]
  refine GCall_of (hit_pc Y _ _ _ (Sg.get_ext0 _ _ _ _)) ?_
  simp only [go_sem, hx]
  refine hR _ _ (K7 _ _ ?_); clear hR R; try clear K7 Z7
  try simp only [go_sem, hx]
  refine W_region [0, 3, 4] fun R hR => ?_
  simp only [go_sem, hx]
  try simp (disch := omega) only [wrapI, wrapU]
  refine hR _ _ ?_; clear hR R
  try simp only [go_sem, hx]
  refine ⟨(i + 1, hitB (xorU b (IntKind.u64.wrap x))), ?_, by (try simp only []); omega, ?_⟩
  ·exact Weak.eq (by rfl) (by simp only [xorU, go_sem]; simp (disch := omega) only [wrapU])
  try dsimp only
  exact ⟨hi', hb⟩
 try simp only [nrm] at c1
 have hdrop : nums.drop i = [] := List.drop_eq_nil_of_le (by omega)
 rw [hdrop] at hb
 simp only [drumB] at hb
 refine W_exit ?_
 simp only [go_sem]
 refine K3 _ _ ?_
 refine W_sr [2] fun R hR => ?_
 simp only [go_sem]
 refine hR _ _ ?_; clear hR R
 try simp only [go_sem]
 refine W_ret ?_
 simp only [go_sem]
 refine ⟨.inr (by trivial), ?_⟩
 rw [hb]; exact Fin_ext 1 0 hcl rfl (Wk_eq rfl (by simp only [go_sem] <;> omega)) (by show CleanLs _ _ _ _; simp only [go_sem])
 try simp only [go_sem]
 all_goals
  skip
noncomputable def rare (n : Int) : D Bool := fun b => (decide ((roll n b).1 = 0), (roll n b).2)
set_option maxHeartbeats 2000000 in
theorem Rare_pc (Y : YEnv) (σ : Sg) (d : Nat) (b : Int) (hd : σ.store[d]? = some (some [.int .u64 b])) (n : Int) (hn : n < 2 ^ 62) :
 PC Tryz.prog Y 24 [.ptr d 0, I n] σ (.bool (rare n b).1) (σ.setVar d [.int .u64 (rare n b).2]) := by
 refine PC_of_W Tryz.func24 rfl (by kernel_rfl) Tryz.ntmps24 (by simp) fun hcl hca => ?_
 have hlt := lt_of_get hd
 refine W_sr [0, 1] fun R hR => ?_
 simp only [go_sem, ldS_at hd, stX_at hd, ldS_sv hlt, stX_sv hlt, sv_ext hlt, sv_ext_sv hlt]
 refine hR _ _ ?_; clear hR R
 try simp only [go_sem, ldS_at hd, stX_at hd, ldS_sv hlt, stX_sv hlt, sv_ext hlt, sv_ext_sv hlt]
 refine W_sr [4] fun R hR => ?_
 simp only [go_sem, ldS_at hd, stX_at hd, ldS_sv hlt, stX_sv hlt, sv_ext hlt, sv_ext_sv hlt]
 refine GCall_of (Roll_pc Y _ d b (by first | exact hd | exact sv_get hlt | exact get_svx hlt | exact get_extx hd) n hn) ?_
 simp only [go_sem, ldS_at hd, stX_at hd, ldS_sv hlt, stX_sv hlt, sv_ext hlt, sv_ext_sv hlt]
 refine hR _ _ ?_; clear hR R
 try simp only [go_sem, ldS_at hd, stX_at hd, ldS_sv hlt, stX_sv hlt, sv_ext hlt, sv_ext_sv hlt]
 refine W_ret ?_
 simp only [go_sem, ldS_at hd, stX_at hd, ldS_sv hlt, stX_sv hlt, sv_ext hlt, sv_ext_sv hlt]
 refine ⟨.inr (by trivial), ?_⟩
 first | refine Fin_set hcl (by simp only [go_sem]) rfl (Wk_eq ?_ (by simp only [go_sem])) | refine Fin_set0 hcl (by simp only [go_sem]) rfl (Wk_eq ?_ (by simp only [go_sem]))
 try simp only [go_sem]
 all_goals
  congr 1
/-- Two places exchanged. -/
def swapAt (l : List Int) (i k : Nat) : List Int := (l.set i ((l[k]?).getD 0)).set k ((l[i]?).getD 0)
theorem swapAt_len (l : List Int) (i k : Nat) : (swapAt l i k).length = l.length := by simp [swapAt]
theorem swapAt_perm {l : List Int} {i k : Nat} (hi : i < l.length) (hk : k < l.length) : (swapAt l i k).Perm l := by
 unfold swapAt
 rw [List.getElem?_eq_getElem hi, List.getElem?_eq_getElem hk]
 exact List.set_set_perm hi hk
noncomputable def orderA (n : Nat) : Nat → List Int → D (List Int)
 | 0, acc => dret acc
 | j + 1, acc => dbind (roll (((n - (j + 1) : Nat) : Int) + 1)) fun k => orderA n j (swapAt (acc ++ [((n - (j + 1) : Nat) : Int)]) (n - (j + 1)) k.toNat)
noncomputable def orderDm (n : Nat) : D (List Int) := orderA n n []
theorem orderA_perm (n : Nat) : ∀ (j : Nat) (acc : List Int), j ≤ n → acc.Perm ((List.range (n - j)).map fun (i : Nat) => (i : Int)) → Holds (orderA n j acc) fun l => l.Perm ((List.range n).map fun (i : Nat) => (i : Int)) := by
 intro j
 induction j with
 | zero => intro acc _ h; exact .ret h
 | succ j ih =>
  intro acc hj h
  refine (roll_bd _).bind fun k hk => ih _ (by omega) ?_
  have hl : acc.length = n - (j + 1) := by rw [h.length_eq]; simp
  have hkl : k.toNat < (acc ++ [((n - (j + 1) : Nat) : Int)]).length := by simp; omega
  refine (swapAt_perm (by simp; omega) hkl).trans ?_
  have e : n - j = (n - (j + 1)) + 1 := by omega
  rw [e, List.range_succ, List.map_append]
  exact h.append_right _
theorem orderDm_perm (n : Nat) : Holds (orderDm n) fun l => l.Perm ((List.range n).map fun (i : Nat) => (i : Int)) := orderA_perm n n [] (Nat.le_refl _) (by simp)
theorem glI_of {l : List Int} {m : Nat} (h : l.length = m + 1) (n : Nat) : glI n l = .gsl (n + m) (m + 1) 1 := by
 cases l with
 | nil => simp at h
 | cons x l => simp only [List.length_cons] at h; simp only [glI]; rw [show l.length = m by omega]
theorem gsI_of {l : List Int} {m : Nat} (h : l.length = m + 1) : gsI l = List.replicate m none ++ [some (l.map I)] := by
 cases l with
 | nil => simp at h
 | cons x l => simp only [List.length_cons] at h; simp only [gsI]; rw [show l.length = m by omega]
theorem Weak.ungnilT {N : Nat} {lo : Nat × Nat} {E : Env} {σ : Sg} {t : Nat} (ht : E.get t = .gnil) : Weak N lo E σ (E.put (some t) (.isl [] .ro)) σ := by
 intro Ψ0 Ψ D a w hb le hr
 refine ⟨Ψ, le, hr.size, fun t' => ?_, hr.sg, hr.dsub, hr.defs⟩
 rw [get_put1]
 split
 ·rename_i e
  subst e
  have hv := hr.env t'
  rw [ht] at hv
  exact VR.of_gnil hv
 exact hr.env t'
/-- Read at last. -/
theorem Weak.readI {N : Nat} {lo : Nat × Nat} {E : Env} {σ : Sg} {t : Nat} {A : List (Option (List PV))} {rm : List Nat} {ys : List LState} {out : List Int} (ht : E.get t = glI (σ.store.length + A.length) out) :
 Weak N lo E (σ.ext (A ++ gsI out) rm ys) (E.put (some t) (ints out)) (σ.ext (A ++ List.replicate out.length none) rm ys) := by
 cases out with
 | nil =>
  have h := Weak.ungnilT (N := N) (lo := lo) (E := E) (σ := σ.ext A rm ys) (t := t) ht
  simp only [gsI, List.append_nil, List.length_nil, List.replicate_zero]
  exact h
 | cons z zs =>
  have h := Weak.freeze (N := N) (lo := lo) (E := E) (σ := σ.ext (A ++ gsI (z :: zs)) rm ys) (t := t) (id := σ.store.length + (A.length + zs.length)) (len := zs.length + 1) (es := 1) (l := (z :: zs).map I) (by rw [ht]; simp only [glI, Nat.add_assoc]) (by rw [Sg.get_ext, rowC_ints]; exact gsI_get) (by simp) (fun q hq => by obtain ⟨x, _, rfl⟩ := List.mem_map.1 hq; rfl)
  rw [Sg.drop_ext, gsI_set] at h
  have e : List.replicate (z :: zs).length (none : Option (List PV)) = List.replicate zs.length none ++ [none] := by simp [List.replicate_succ']
  rw [e]
  exact h
set_option maxHeartbeats 4000000 in
theorem Order_pc (Y : YEnv) (σ : Sg) (d : Nat) (b : Int) (hd : σ.store[d]? = some (some [.int .u64 b])) (n : Nat) (hn : n < 2 ^ 40) :
 PC Tryz.prog Y 51 [.ptr d 0, I n] σ (ints (orderDm n b).1) (σ.setVar d [.int .u64 (orderDm n b).2]) := by
 refine PC_of_W Tryz.func51 rfl (by kernel_rfl) Tryz.ntmps51 (by simp) fun hcl hca => ?_
 have hlt := lt_of_get hd
 obtain ⟨res, hres⟩ : ∃ r, orderDm n b = r := ⟨_, rfl⟩
 rw [hres]
 refine W_sr [0, 1] fun R hR => ?_
 simp only [go_sem, ldS_at hd, stX_at hd, ldS_sv hlt, stX_sv hlt, sv_ext hlt, sv_ext_sv hlt]
 refine hR _ _ ?_; clear hR R
 try simp only [go_sem, ldS_at hd, stX_at hd, ldS_sv hlt, stX_sv hlt, sv_ext hlt, sv_ext_sv hlt]
 refine W_sr [0, 1, 5] fun R hR => ?_
 simp only [go_sem, ldS_at hd, stX_at hd, ldS_sv hlt, stX_sv hlt, sv_ext hlt, sv_ext_sv hlt]
 refine hR _ _ ?_; clear hR R
 try simp only [go_sem, ldS_at hd, stX_at hd, ldS_sv hlt, stX_sv hlt, sv_ext hlt, sv_ext_sv hlt]
 refine W_seq fun Z3 K3 => ?_
 refine W_sr [0, 1, 5, 6] fun R hR => ?_
 simp only [go_sem, ldS_at hd, stX_at hd, ldS_sv hlt, stX_sv hlt, sv_ext hlt, sv_ext_sv hlt]
 refine hR _ _ ?_; clear hR R
 try simp only [go_sem, ldS_at hd, stX_at hd, ldS_sv hlt, stX_sv hlt, sv_ext hlt, sv_ext_sv hlt]
 refine W_block ?_
 refine W_weak (Weak.gnil (t := 5) rfl) ?_
 refine W_weak (Weak.keep [0, 1, 5, 6]) ?_
 simp only [go_sem]
 refine W_loopT (α := Nat × (List Int) × Int) (fun ⟨i, acc, b⟩ => [(5, glI σ.store.length acc), (6, I i)]) (fun ⟨i, acc, b⟩ => (σ.setVar d [.int .u64 b]).ext (gsI acc) []) (fun ⟨i, acc, b⟩ => i ≤ n ∧ acc.length = i ∧ res = orderA n (n - i) acc b) (fun ⟨i, acc, b⟩ => n - i) ((0, [], b)) rfl (by simp only [gsI, go_sem, sv_self hd]) (⟨Nat.zero_le _, rfl, hres.symm⟩) ?_
 rintro ⟨i, acc, b⟩ ⟨hi, hal, hinv⟩
 refine W_seq fun Z5 K5 => ?_
 refine W_sr [0, 1, 5, 6, 10] fun R hR => ?_
 simp only [go_sem, ldS_at hd, stX_at hd, ldS_sv hlt, stX_sv hlt, sv_ext hlt, sv_ext_sv hlt]
 refine hR _ _ ?_; clear hR R
 try simp only [go_sem, ldS_at hd, stX_at hd, ldS_sv hlt, stX_sv hlt, sv_ext hlt, sv_ext_sv hlt]
 refine W_cond rfl (fun c1 => ?_) (fun c1 => ?_)
 ·
  try simp only [nrm] at c1
  have hin : i < n := by first | omega | (simp at c1; omega)
  rw [show n - i = (n - (i + 1)) + 1 by omega] at hinv
  simp only [orderA, dbind] at hinv
  rw [show (n - (n - (i + 1) + 1) : Nat) = i by omega] at hinv
  have hkb := roll_bd ((i : Int) + 1) b
  obtain ⟨kz, hkz⟩ : ∃ z, (roll ((i : Int) + 1) b).1 = z := ⟨_, rfl⟩
  obtain ⟨b1, hb1⟩ : ∃ z, (roll ((i : Int) + 1) b).2 = z := ⟨_, rfl⟩
  simp only [hkz] at hkb
  obtain ⟨k, rfl⟩ : ∃ k : Nat, kz = k := ⟨kz.toNat, by omega⟩
  rw [hkz, hb1, Int.toNat_natCast] at hinv
  have hki : k < i + 1 := by omega
  have hL : (σ.setVar d [.int .u64 b1]).store.length = σ.store.length := sv_len
  have happ := appG_gl (σ := σ.setVar d [.int .u64 b1]) (A := []) (rm := []) (ys := []) (out := acc) (i : Int) (by omega)
  have hal2 : (acc ++ [(i : Int)]).length = i + 1 := by simp [hal]
  rw [glI_of hal2, gsI_of hal2] at happ
  obtain ⟨ac2, hac2⟩ : ∃ z, acc ++ [(i : Int)] = z := ⟨_, rfl⟩
  rw [hac2] at happ hal2 hinv
  simp only [go_sem, List.length_nil, hL] at happ
  obtain ⟨x, hx⟩ : ∃ z, ac2[i]? = some z := ⟨ac2[i]'(by omega), by simp⟩
  obtain ⟨y, hy⟩ : ∃ z, ac2[k]? = some z := ⟨ac2[k]'(by omega), by simp⟩
  have hsw : swapAt ac2 i k = (ac2.set i y).set k x := by simp only [swapAt, hx, hy, Option.getD_some]
  have hI1 : (i : Int) < ((i + 1 : Nat) : Int) := by omega
  have hI2 : (k : Int) < ((i + 1 : Nat) : Int) := by omega
  have hg1 : ∀ c : Option (List PV), (List.replicate i none ++ [c])[i]? = some c := fun c => by rw [List.getElem?_append_right (by simp)]; simp
  have hg2 : ∀ c c2 : Option (List PV), (List.replicate i none ++ [c]).set i c2 = List.replicate i none ++ [c2] := fun c c2 => by rw [List.set_append_right _ _ (by simp)]; simp
  have hm1 : i + 1 ≤ ac2.length := by omega
  have hm2 : k + 1 ≤ ac2.length := by omega
  have hsl : (swapAt ac2 i k).length = i + 1 := by rw [swapAt_len]; exact hal2
  refine W_skip (K5 _ _ ?_)
  refine W_seq fun Z7 K7 => ?_
  refine W_block ?_
  refine W_sr [0, 1, 5, 6, 7] fun R hR => ?_
  simp only [go_sem, ldS_at hd, stX_at hd, ldS_sv hlt, stX_sv hlt, sv_ext hlt, sv_ext_sv hlt, hkz, hb1, hL]
  try simp (disch := omega) only [wrapI, wrapU]
  refine GCall_of (Roll_pc Y _ d b (by first | exact hd | exact sv_get hlt | exact get_svx hlt | exact get_extx hd) ((i : Int) + 1) (by omega)) ?_
  simp only [go_sem, ldS_at hd, stX_at hd, ldS_sv hlt, stX_sv hlt, sv_ext hlt, sv_ext_sv hlt, hkz, hb1, hL]
  try simp (disch := omega) only [wrapI, wrapU]
  refine hR _ _ ?_; clear hR R
  try simp only [go_sem, ldS_at hd, stX_at hd, ldS_sv hlt, stX_sv hlt, sv_ext hlt, sv_ext_sv hlt, hkz, hb1, hL]
  refine W_sr [0, 1, 5, 6, 7] fun R hR => ?_
  simp only [go_sem, ldS_at hd, stX_at hd, ldS_sv hlt, stX_sv hlt, sv_ext hlt, sv_ext_sv hlt, hkz, hb1, hL, happ]
  try simp (disch := first | omega | (simp only [go_sem] <;> omega)) only [wrapI, wrapU, appX_exact, appX_tok]
  try simp only [go_sem, ldS_at hd, stX_at hd, ldS_sv hlt, stX_sv hlt, sv_ext hlt, sv_ext_sv hlt, hkz, hb1, hL, happ]
  refine hR _ _ ?_; clear hR R
  try simp only [go_sem, ldS_at hd, stX_at hd, ldS_sv hlt, stX_sv hlt, sv_ext hlt, sv_ext_sv hlt, hkz, hb1, hL]
  refine W_draw [0, 1, 5, 6] [0, 1, 2, 3, 4, 5, 6, 7, 8, 9, 10, 11, 12, 13, 14, 15] [(2, 15), (3, 15)] [[], [], [], [], [], [], [4, 5], [4, 5, 6], [], [], [8, 9], [8, 9, 10], [0, 1, 4, 5, 6, 7, 8, 9, 10, 11], [0, 1, 4, 5, 6, 7, 8, 9, 10, 11, 12], [0, 1, 2, 3, 4, 5, 6, 7, 8, 9, 10, 11, 12, 13], [0, 1, 2, 3, 4, 5, 6, 7, 8, 9, 10, 11, 12, 13, 14]] mixed (by kernel_rfl) fun R hR => ?_
  simp only [go_sem, ldS_at hd, stX_at hd, ldS_sv hlt, stX_sv hlt, sv_ext hlt, sv_ext_sv hlt, hkz, hb1, hL, hI1, hI2, iaM_nat (Int.ofNat_lt.1 hI1), iaM_nat (Int.ofNat_lt.1 hI2), Nat.mul_one, Nat.zero_add, hg1, hg2, hx, hy, hm1, hm2, List.getElem?_map, List.length_set]
  try refine And.intro (by repeat' (first | refine And.intro ?_ ?_ | exact GOr_right (fun _ => by simp only [go_sem, ldS_at hd, stX_at hd, ldS_sv hlt, stX_sv hlt, sv_ext hlt, sv_ext_sv hlt, hkz, hb1, hL, hI1, hI2, iaM_nat (Int.ofNat_lt.1 hI1), iaM_nat (Int.ofNat_lt.1 hI2), Nat.mul_one, Nat.zero_add, hg1, hg2, hx, hy, hm1, hm2, List.getElem?_map, List.length_set]))) ?_
  refine hR _ _ (K7 _ _ ?_); clear hR R; try clear K7 Z7
  try simp only [go_sem, ldS_at hd, stX_at hd, ldS_sv hlt, stX_sv hlt, sv_ext hlt, sv_ext_sv hlt, hkz, hb1, hL]
  refine W_region [0, 1, 5, 6] fun R hR => ?_
  simp only [go_sem, ldS_at hd, stX_at hd, ldS_sv hlt, stX_sv hlt, sv_ext hlt, sv_ext_sv hlt, hkz, hb1, hL]
  try simp (disch := omega) only [wrapI, wrapU]
  refine hR _ _ ?_; clear hR R
  try simp only [go_sem, ldS_at hd, stX_at hd, ldS_sv hlt, stX_sv hlt, sv_ext hlt, sv_ext_sv hlt, hkz, hb1, hL]
  refine ⟨(i + 1, swapAt ac2 i k, b1), ?_, by (try simp only []); omega, ?_⟩
  ·refine Weak.eq ?_ ?_
   ·simp only [go_sem, glI_of hsl]
    first | done | rfl | simp
   rw [gsI_of hsl, hsw]
  try dsimp only
  exact ⟨by omega, hsl, by rw [hinv]⟩
 try simp only [nrm] at c1
 have hie : n = i := by first | omega | (simp at c1; omega)
 subst hie
 rw [Nat.sub_self] at hinv
 simp only [orderA, dret] at hinv
 refine W_exit ?_
 simp only [go_sem, ldS_at hd, stX_at hd, ldS_sv hlt, stX_sv hlt, sv_ext hlt, sv_ext_sv hlt]
 refine K3 _ _ ?_
 refine W_seq fun Z10 K10 => ?_
 refine W_weak (Weak.readI (t := 5) (A := []) (out := acc) (by simp only [go_sem, sv_len])) ?_
 refine W_weak (Weak.keep [5]) ?_
 simp only [go_sem]
 refine W_region [4] fun R hR => ?_
 simp only [go_sem, ldS_at hd, stX_at hd, ldS_sv hlt, stX_sv hlt, sv_ext hlt, sv_ext_sv hlt]
 refine hR _ _ (K10 _ _ ?_); clear hR R; try clear K10 Z10
 try simp only [go_sem, ldS_at hd, stX_at hd, ldS_sv hlt, stX_sv hlt, sv_ext hlt, sv_ext_sv hlt]
 refine W_ret ?_
 simp only [go_sem, ldS_at hd, stX_at hd, ldS_sv hlt, stX_sv hlt, sv_ext hlt, sv_ext_sv hlt]
 refine ⟨.inr (by trivial), ?_⟩
 rw [hinv]; refine Fin_set hcl (by simp only [go_sem]) rfl (Wk_eq rfl ?_)
 try simp only [go_sem]
 all_goals
  simp only [go_sem]
def rJudge (s : Scale) (j : Int × Int) : Int := if ofSc s j then 0 else 7
def rMarks (s : Scale) (l : List Int) : Int := if (l.length : Int) ≠ s.schools then 1 else if outMarks s l then 2 else 0
theorem marked_r (s : Scale) (j : Int × Int) (l : List Int) : marked s j l = if rJudge s j ≠ 0 then rJudge s j else rMarks s l := by
 unfold marked rJudge rMarks
 cases ofSc s j <;> simp
theorem has_take {l : List Int} {k : Nat} {z v : Int} (h : l[k]? = some z) : has (l.take (k + 1)) v = (has (l.take k) v || decide (z = v)) := by
 rw [List.take_add_one, h]
 simp [has, List.any_append]
theorem outMarks_cons (s : Scale) (x : Int) (l : List Int) : outMarks s (x :: l) = (!(inR x s.low s.high) || outMarks s l) := rfl
theorem outMarks_nil (s : Scale) : outMarks s [] = false := rfl
set_option maxHeartbeats 2000000 in
theorem rin_pc (Y : YEnv) (σ : Sg) (n lo hi : Int) :
 PC Tryz.prog Y 115 [I n, I lo, I hi] σ (.bool (inR n lo hi)) (σ) := by
 refine PC_of_W Tryz.func115 rfl (by kernel_rfl) Tryz.ntmps115 (by simp) fun hcl hca => ?_
 refine W_sr [0, 1, 2] fun R hR => ?_
 simp only [go_sem]
 refine hR _ _ ?_; clear hR R
 try simp only [go_sem]
 refine W_sr [6] fun R hR => ?_
 simp only [go_sem]
 refine GWant_split (fun g1 => ?_) (fun g1 => ?_)
 ·try simp only [Bool.not_eq_true', Bool.not_eq_false'] at g1
  have n1 := g1; try simp only [nrm] at n1
  simp only [go_sem, g1]
  refine hR _ _ ?_; clear hR R
  try simp only [go_sem]
  refine W_ret ?_
  simp only [go_sem]
  refine ⟨.inr (by trivial), ?_⟩
  first | refine Fsa hcl rfl ?_ | refine Fse hcl rfl ?_
  try simp only [go_sem]
  all_goals
   simp [inR, *]
 try simp only [Bool.not_eq_true', Bool.not_eq_false'] at g1
 have n1 := g1; try simp only [nrm] at n1
 simp only [go_sem, g1]
 refine hR _ _ ?_; clear hR R
 try simp only [go_sem]
 refine W_ret ?_
 simp only [go_sem]
 refine ⟨.inr (by trivial), ?_⟩
 first | refine Fsa hcl rfl ?_ | refine Fse hcl rfl ?_
 try simp only [go_sem]
 all_goals
  simp [inR, *]
set_option maxHeartbeats 4000000 in
theorem rCheck_pc (Y : YEnv) (σ : Sg) (s : Scale) (hs : s.Ok) :
 PC Tryz.prog Y 89 [scPV s] σ (I (chkSc s)) (σ) := by
 refine PC_of_W Tryz.func89 rfl (by kernel_rfl) Tryz.ntmps89 (by simp) fun hcl hca => ?_
 have ho := hs.ho
 obtain ⟨res, hres⟩ : ∃ r, chkSc s = r := ⟨_, rfl⟩
 rw [hres]
 refine W_sr [1] fun R hR => ?_
 simp only [go_sem]
 refine hR _ _ ?_; clear hR R
 try simp only [go_sem]
 refine W_seq fun Z2 K2 => ?_
 refine W_seq fun Z3 K3 => ?_
 refine W_regionJ [1, 41] [(41, .bool (!scRange s))] ?_ fun R hR => ?_
 ·refine K3 _ _ ?_
  simp only [go_sem]
  refine W_cond rfl (fun c1 => ?_) (fun c1 => ?_)
  ·
   try simp only [nrm] at c1
   refine W_sr [2] fun R hR => ?_
   simp only [go_sem]
   refine hR _ _ ?_; clear hR R
   try simp only [go_sem]
   refine W_ret ?_
   simp only [go_sem]
   refine ⟨.inr (by trivial), ?_⟩
   first | refine Fsa hcl rfl ?_ | refine Fse hcl rfl ?_
   try simp only [go_sem]
   all_goals
    first | rfl | (simp_all; done) | (simp_all; omega) | (rw [← hres]; simp only [chkSc]; (repeat' split) <;> ((first | rfl | omega | (simp_all; done) | (simp_all; omega))))
  try simp only [nrm] at c1
  have d2 : scRange s = true := by simpa using c1
  have d4 := d2
  simp only [scRange, Bool.and_eq_true, inR_true] at d4
  refine W_skip (K2 _ _ ?_)
  refine W_seq fun Z5 K5 => ?_
  refine W_sr [1, 46] fun R hR => ?_
  simp only [go_sem]
  refine hR _ _ ?_; clear hR R
  try simp only [go_sem]
  refine W_cond rfl (fun c2 => ?_) (fun c2 => ?_)
  ·
   try simp only [nrm] at c2
   refine W_sr [2] fun R hR => ?_
   simp only [go_sem]
   refine hR _ _ ?_; clear hR R
   try simp only [go_sem]
   refine W_ret ?_
   simp only [go_sem]
   refine ⟨.inr (by trivial), ?_⟩
   first | refine Fsa hcl rfl ?_ | refine Fse hcl rfl ?_
   try simp only [go_sem]
   all_goals
    first | rfl | (simp_all; done) | (simp_all; omega) | (rw [← hres]; simp only [chkSc]; (repeat' split) <;> ((first | rfl | omega | (simp_all; done) | (simp_all; omega))))
  try simp only [nrm] at c2
  refine W_skip (K5 _ _ ?_)
  refine W_seq fun Z8 K8 => ?_
  refine W_sr [1, 52] fun R hR => ?_
  simp only [go_sem]
  refine hR _ _ ?_; clear hR R
  try simp only [go_sem]
  refine W_cond rfl (fun c3 => ?_) (fun c3 => ?_)
  ·
   try simp only [nrm] at c3
   refine W_sr [2] fun R hR => ?_
   simp only [go_sem]
   refine hR _ _ ?_; clear hR R
   try simp only [go_sem]
   refine W_ret ?_
   simp only [go_sem]
   refine ⟨.inr (by trivial), ?_⟩
   first | refine Fsa hcl rfl ?_ | refine Fse hcl rfl ?_
   try simp only [go_sem]
   all_goals
    first | rfl | (simp_all; done) | (simp_all; omega) | (rw [← hres]; simp only [chkSc]; (repeat' split) <;> ((first | rfl | omega | (simp_all; done) | (simp_all; omega))))
  try simp only [nrm] at c3
  refine W_skip (K8 _ _ ?_)
  refine W_seq fun Z11 K11 => ?_
  refine W_sr [1, 3] fun R hR => ?_
  simp only [go_sem]
  refine hR _ _ ?_; clear hR R
  try simp only [go_sem]
  refine W_block ?_
  refine W_loopS (α := Nat) (fun (i : Nat) => [(3, I i)]) (fun (i : Nat) => i ≤ s.order.length ∧ res = chkOrd s.matters (s.order.take i) (s.order.drop i)) (fun (i : Nat) => s.order.length - i) (0) rfl (⟨Nat.zero_le _, by rw [← hres]; simp [chkSc, *] <;> omega⟩) ?_
  rintro i ⟨hi, hinv⟩
  refine W_seq fun Z13 K13 => ?_
  refine W_sr [1, 3, 57] fun R hR => ?_
  simp only [go_sem]
  refine hR _ _ ?_; clear hR R
  try simp only [go_sem]
  refine W_cond rfl (fun c4 => ?_) (fun c4 => ?_)
  ·
   try simp only [nrm] at c4
   have hi' : i < s.order.length := by first | assumption | omega
   obtain ⟨x, hx⟩ : ∃ x, s.order[i]? = some x := ⟨s.order[i], by simp [hi']⟩
   have hdrop : s.order.drop i = x :: s.order.drop (i + 1) := by
    rw [List.drop_eq_getElem_cons hi']; congr 1; exact (List.getElem?_eq_some_iff.1 hx).2
   rw [hdrop] at hinv
   simp only [chkOrd] at hinv
   have htk : s.order.take i ++ [x] = s.order.take (i + 1) := by rw [List.take_add_one, hx]; rfl
   rw [htk] at hinv
   refine W_skip (K13 _ _ ?_)
   refine W_seq fun Z15 K15 => ?_
   refine W_block ?_
   refine W_seq fun Z16 K16 => ?_
   refine W_seq fun Z17 K17 => ?_
   refine W_draw [1, 3, 69] [0, 1, 2, 3, 4, 5, 6, 7, 8, 9] [] [[], [0], [], [0, 1, 2], [0, 1, 2, 3], [], [5], [5, 6], [0, 1, 2, 3, 4, 5, 6, 7], [0, 1, 2, 3, 4, 5, 6, 7, 8]] mixed (by kernel_rfl) fun R hR => ?_
   simp only [go_sem, hx]
   try simp (disch := omega) only [wrapI, wrapU]
   refine GCall_of (rin_pc Y _ x 0 _) ?_
   simp only [go_sem, hx]
   try simp (disch := omega) only [wrapI, wrapU]
   try refine And.intro (by repeat' (first | refine And.intro ?_ ?_ | exact GOr_right (fun _ => by simp only [go_sem, hx]))) ?_
   refine hR _ _ (K17 _ _ ?_); clear hR R; try clear K17 Z17
   try simp only [go_sem, hx]
   refine W_cond rfl (fun c5 => ?_) (fun c5 => ?_)
   ·
    try simp only [nrm] at c5
    refine W_sr [2] fun R hR => ?_
    simp only [go_sem, hx]
    refine hR _ _ ?_; clear hR R
    try simp only [go_sem, hx]
    refine W_ret ?_
    simp only [go_sem, hx]
    refine ⟨.inr (by trivial), ?_⟩
    first | refine Fsa hcl rfl ?_ | refine Fse hcl rfl ?_
    try simp only [go_sem]
    all_goals
     first | rfl | (simp_all; done) | (simp_all; omega) | (rw [← hres]; simp only [chkSc]; (repeat' split) <;> ((first | rfl | omega | (simp_all; done) | (simp_all; omega))))
   try simp only [nrm] at c5
   refine W_skip (K16 _ _ ?_)
   refine W_sr [1, 3, 4] fun R hR => ?_
   simp only [go_sem, hx]
   refine hR _ _ ?_; clear hR R
   try simp only [go_sem, hx]
   refine W_block ?_
   refine W_loopS (α := Nat) (fun (k : Nat) => [(4, I k)]) (fun (k : Nat) => k ≤ i ∧ has (s.order.take k) x = false) (fun (k : Nat) => i - k) (0) rfl (⟨Nat.zero_le _, rfl⟩) ?_
   rintro k ⟨hk, hh⟩
   refine W_seq fun Z20 K20 => ?_
   refine W_sr [1, 3, 4, 72] fun R hR => ?_
   simp only [go_sem, hx]
   refine hR _ _ ?_; clear hR R
   try simp only [go_sem, hx]
   refine W_cond rfl (fun c6 => ?_) (fun c6 => ?_)
   ·
    try simp only [nrm] at c6
    have hk' : k < i := by first | assumption | omega | (simp at c6; omega)
    obtain ⟨z, hz⟩ : ∃ z, s.order[k]? = some z := ⟨s.order[k]'(by omega), by simp⟩
    have hht := has_take hz (v := x)
    refine W_skip (K20 _ _ ?_)
    refine W_seq fun Z22 K22 => ?_
    refine W_block ?_
    refine W_seq fun Z23 K23 => ?_
    refine W_draw [1, 3, 4, 85] [0, 1, 2, 3, 4, 5, 6, 7, 8, 9, 10] [] [[], [0], [], [0, 1, 2], [0, 1, 2, 3], [], [5], [], [5, 6, 7], [5, 6, 7, 8], [0, 1, 2, 3, 4, 5, 6, 7, 8, 9]] mixed (by kernel_rfl) fun R hR => ?_
    simp only [go_sem, hx, hz]
    try refine And.intro (by repeat' (first | refine And.intro ?_ ?_ | exact GOr_right (fun _ => by simp only [go_sem, hx, hz]))) ?_
    refine hR _ _ (K23 _ _ ?_); clear hR R; try clear K23 Z23
    try simp only [go_sem, hx, hz]
    refine W_cond rfl (fun c7 => ?_) (fun c7 => ?_)
    ·
     try simp only [nrm] at c7
     refine W_sr [2] fun R hR => ?_
     simp only [go_sem, hx, hz]
     refine hR _ _ ?_; clear hR R
     try simp only [go_sem, hx, hz]
     refine W_ret ?_
     simp only [go_sem, hx, hz]
     refine ⟨.inr (by trivial), ?_⟩
     first | refine Fsa hcl rfl ?_ | refine Fse hcl rfl ?_
     try simp only [go_sem]
     all_goals
      have hall : has (s.order.take i) x = true := by
       rw [has_iff]
       have h1 : z = x := by first | exact c7 | simpa using c7
       rw [← h1]
       refine List.mem_of_getElem? (i := k) ?_
       rw [List.getElem?_take_of_lt hk']; exact hz
      simp_all
    try simp only [nrm] at c7
    refine W_skip (K22 _ _ ?_)
    refine W_region [1, 3, 4] fun R hR => ?_
    simp only [go_sem, hx, hz]
    try simp (disch := omega) only [wrapI, wrapU]
    refine hR _ _ ?_; clear hR R
    try simp only [go_sem, hx, hz]
    refine ⟨k + 1, ?_, by (try simp only []); omega, ?_⟩
    ·first | exact Weak.refl | exact Wqq
    try dsimp only
    exact ⟨hk', by rw [hht, hh]; simp [*]⟩
   try simp only [nrm] at c6
   have hke : i = k := by first | omega | (simp at c6; omega)
   have hhi : has (s.order.take i) x = false := by rw [hke]; exact hh
   refine W_exit ?_
   simp only [go_sem, hx]
   refine K15 _ _ ?_
   refine W_region [1, 3] fun R hR => ?_
   simp only [go_sem, hx]
   try simp (disch := omega) only [wrapI, wrapU]
   refine hR _ _ ?_; clear hR R
   try simp only [go_sem, hx]
   refine ⟨i + 1, ?_, by (try simp only []); omega, ?_⟩
   ·first | exact Weak.refl | exact Wqq
   try dsimp only
   exact ⟨hi', by simp_all⟩
  try simp only [nrm] at c4
  have hdrop : s.order.drop i = [] := List.drop_eq_nil_of_le (by omega)
  rw [hdrop] at hinv
  simp only [chkOrd] at hinv
  refine W_exit ?_
  simp only [go_sem]
  refine K11 _ _ ?_
  refine W_sr [2] fun R hR => ?_
  simp only [go_sem]
  refine hR _ _ ?_; clear hR R
  try simp only [go_sem]
  refine W_ret ?_
  simp only [go_sem]
  refine ⟨.inr (by trivial), ?_⟩
  first | refine Fsa hcl rfl ?_ | refine Fse hcl rfl ?_
  try simp only [go_sem]
  all_goals
   first | rfl | (simp_all; done) | (simp_all; omega) | (rw [← hres]; simp only [chkSc]; (repeat' split) <;> ((first | rfl | omega | (simp_all; done) | (simp_all; omega))))
 simp only [go_sem]
 refine GCall_of (rin_pc Y _ s.schools 1 8) ?_
 simp only [go_sem]
 refine GWant_split (fun g1 => ?_) (fun g1 => ?_)
 ·try simp only [Bool.not_eq_true', Bool.not_eq_false'] at g1
  have n1 := g1; try simp only [nrm] at n1
  simp only [go_sem, g1]
  refine GCall_of (rin_pc Y _ s.matters 1 6) ?_
  simp only [go_sem, g1]
  refine GWant_split (fun g2 => ?_) (fun g2 => ?_)
  ·try simp only [Bool.not_eq_true', Bool.not_eq_false'] at g2
   have n2 := g2; try simp only [nrm] at n2
   simp only [go_sem, g1, g2]
   refine GCall_of (rin_pc Y _ s.judges 1 5) ?_
   simp only [go_sem, g1, g2]
   refine GWant_split (fun g3 => ?_) (fun g3 => ?_)
   ·try simp only [Bool.not_eq_true', Bool.not_eq_false'] at g3
    have n3 := g3; try simp only [nrm] at n3
    have d3 : inR s.judges 1 5 = true := by simp_all
    simp only [inR_true] at d3
    simp only [go_sem, g1, g2, g3]
    try simp (disch := omega) only [wrapI, wrapU]
    refine GCall_of (rin_pc Y _ s.drop 0 _) ?_
    simp only [go_sem, g1, g2, g3]
    refine GWant_split (fun g4 => ?_) (fun g4 => ?_)
    ·try simp only [Bool.not_eq_true', Bool.not_eq_false'] at g4
     have n4 := g4; try simp only [nrm] at n4
     try simp (disch := omega) only [wrapI, wrapU] at n4
     simp only [go_sem, g1, g2, g3, g4]
     try simp (disch := omega) only [wrapI, wrapU]
     refine GCall_of (rin_pc Y _ s.low 0 100) ?_
     simp only [go_sem, g1, g2, g3, g4]
     refine GWant_split (fun g5 => ?_) (fun g5 => ?_)
     ·try simp only [Bool.not_eq_true', Bool.not_eq_false'] at g5
      have n5 := g5; try simp only [nrm] at n5
      try simp (disch := omega) only [wrapI, wrapU] at n5
      simp only [go_sem, g1, g2, g3, g4, g5]
      try simp (disch := omega) only [wrapI, wrapU]
      refine GCall_of (rin_pc Y _ s.high 0 100) ?_
      simp only [go_sem, g1, g2, g3, g4, g5]
      try simp (disch := omega) only [wrapI, wrapU]
      refine hR _ ?_
      try simp only [go_sem]
      all_goals
       simp [scRange, *]
     try simp only [Bool.not_eq_true', Bool.not_eq_false'] at g5
     have n5 := g5; try simp only [nrm] at n5
     try simp (disch := omega) only [wrapI, wrapU] at n5
     simp only [go_sem, g1, g2, g3, g4, g5]
     try simp (disch := omega) only [wrapI, wrapU]
     refine hR _ ?_
     try simp only [go_sem]
     all_goals
      simp [scRange, *]
    try simp only [Bool.not_eq_true', Bool.not_eq_false'] at g4
    have n4 := g4; try simp only [nrm] at n4
    try simp (disch := omega) only [wrapI, wrapU] at n4
    simp only [go_sem, g1, g2, g3, g4]
    try simp (disch := omega) only [wrapI, wrapU]
    refine hR _ ?_
    try simp only [go_sem]
    all_goals
     simp [scRange, *]
   try simp only [Bool.not_eq_true', Bool.not_eq_false'] at g3
   have n3 := g3; try simp only [nrm] at n3
   simp only [go_sem, g1, g2, g3]
   try simp (disch := omega) only [wrapI, wrapU]
   refine hR _ ?_
   try simp only [go_sem]
   all_goals
    simp [scRange, *]
  try simp only [Bool.not_eq_true', Bool.not_eq_false'] at g2
  have n2 := g2; try simp only [nrm] at n2
  simp only [go_sem, g1, g2]
  try simp (disch := omega) only [wrapI, wrapU]
  refine hR _ ?_
  try simp only [go_sem]
  all_goals
   simp [scRange, *]
 try simp only [Bool.not_eq_true', Bool.not_eq_false'] at g1
 have n1 := g1; try simp only [nrm] at n1
 simp only [go_sem, g1]
 try simp (disch := omega) only [wrapI, wrapU]
 refine hR _ ?_
 try simp only [go_sem]
 all_goals
  simp [scRange, *]
set_option maxHeartbeats 2000000 in
theorem rJudge_pc (Y : YEnv) (σ : Sg) (s : Scale) (a b : Int) (h : s.V) :
 PC Tryz.prog Y 110 [scPV s, I a, I b] σ (I (rJudge s (a, b))) (σ) := by
 refine PC_of_W Tryz.func110 rfl (by kernel_rfl) Tryz.ntmps110 (by simp) fun hcl hca => ?_
 have h1 := h.mt
 have h2 := h.jd
 refine W_sr [1, 2, 3] fun R hR => ?_
 simp only [go_sem]
 refine hR _ _ ?_; clear hR R
 try simp only [go_sem]
 refine W_seq fun Z2 K2 => ?_
 refine W_sr [20] fun R hR => ?_
 simp only [go_sem]
 try simp (disch := omega) only [wrapI, wrapU]
 refine GCall_of (rin_pc Y _ a 0 _) ?_
 simp only [go_sem]
 refine GWant_split (fun g1 => ?_) (fun g1 => ?_)
 ·try simp only [Bool.not_eq_true', Bool.not_eq_false'] at g1
  have n1 := g1; try simp only [nrm] at n1
  try simp (disch := omega) only [wrapI, wrapU] at n1
  simp only [go_sem, g1]
  try simp (disch := omega) only [wrapI, wrapU]
  refine GCall_of (rin_pc Y _ b 0 _) ?_
  simp only [go_sem, g1]
  try simp (disch := omega) only [wrapI, wrapU]
  refine hR _ _ ?_; clear hR R
  try simp only [go_sem]
  refine W_cond rfl (fun c1 => ?_) (fun c1 => ?_)
  ·
   try simp only [nrm] at c1
   refine W_sr [6] fun R hR => ?_
   simp only [go_sem]
   refine hR _ _ ?_; clear hR R
   try simp only [go_sem]
   refine W_ret ?_
   simp only [go_sem]
   refine ⟨.inr (by trivial), ?_⟩
   first | refine Fsa hcl rfl ?_ | refine Fse hcl rfl ?_
   try simp only [go_sem]
   all_goals
    simp [rJudge, ofSc, *]
  try simp only [nrm] at c1
  refine W_skip (K2 _ _ ?_)
  refine W_sr [6] fun R hR => ?_
  simp only [go_sem]
  refine hR _ _ ?_; clear hR R
  try simp only [go_sem]
  refine W_ret ?_
  simp only [go_sem]
  refine ⟨.inr (by trivial), ?_⟩
  first | refine Fsa hcl rfl ?_ | refine Fse hcl rfl ?_
  try simp only [go_sem]
  all_goals
   simp [rJudge, ofSc, *]
 try simp only [Bool.not_eq_true', Bool.not_eq_false'] at g1
 have n1 := g1; try simp only [nrm] at n1
 try simp (disch := omega) only [wrapI, wrapU] at n1
 simp only [go_sem, g1]
 try simp (disch := omega) only [wrapI, wrapU]
 refine hR _ _ ?_; clear hR R
 try simp only [go_sem]
 refine W_cond_true rfl ?_
 refine W_sr [6] fun R hR => ?_
 simp only [go_sem]
 refine hR _ _ ?_; clear hR R
 try simp only [go_sem]
 refine W_ret ?_
 simp only [go_sem]
 refine ⟨.inr (by trivial), ?_⟩
 first | refine Fsa hcl rfl ?_ | refine Fse hcl rfl ?_
 try simp only [go_sem]
 all_goals
  simp [rJudge, ofSc, *]
set_option maxHeartbeats 2000000 in
theorem rMarks_pc (Y : YEnv) (σ : Sg) (s : Scale) (l : List Int) (o : Own) (hl : l.length < 2 ^ 40) :
 PC Tryz.prog Y 111 [scPV s, intsO o l] σ (I (rMarks s l)) (σ) := by
 refine PC_of_W Tryz.func111 rfl (by kernel_rfl) Tryz.ntmps111 (by simp) fun hcl hca => ?_
 obtain ⟨res, hres⟩ : ∃ r, rMarks s l = r := ⟨_, rfl⟩
 rw [hres]
 refine W_sr [1, 2] fun R hR => ?_
 simp only [go_sem]
 refine hR _ _ ?_; clear hR R
 try simp only [go_sem]
 refine W_seq fun Z2 K2 => ?_
 refine W_sr [1, 2, 10] fun R hR => ?_
 simp only [go_sem]
 refine hR _ _ ?_; clear hR R
 try simp only [go_sem]
 refine W_cond rfl (fun c1 => ?_) (fun c1 => ?_)
 ·
  try simp only [nrm] at c1
  refine W_sr [4] fun R hR => ?_
  simp only [go_sem]
  refine hR _ _ ?_; clear hR R
  try simp only [go_sem]
  refine W_ret ?_
  simp only [go_sem]
  refine ⟨.inr (by trivial), ?_⟩
  first | refine Fsa hcl rfl ?_ | refine Fse hcl rfl ?_
  try simp only [go_sem]
  all_goals
   rw [← hres]; simp [rMarks, *]
 try simp only [nrm] at c1
 refine W_skip (K2 _ _ ?_)
 refine W_seq fun Z5 K5 => ?_
 refine W_sr [1, 2, 5] fun R hR => ?_
 simp only [go_sem]
 refine hR _ _ ?_; clear hR R
 try simp only [go_sem]
 refine W_block ?_
 refine W_loopS (α := Nat) (fun (i : Nat) => [(5, I i)]) (fun (i : Nat) => i ≤ l.length ∧ outMarks s l = outMarks s (l.drop i)) (fun (i : Nat) => l.length - i) (0) rfl (⟨Nat.zero_le _, rfl⟩) ?_
 rintro i ⟨hi, hinv⟩
 refine W_seq fun Z7 K7 => ?_
 refine W_sr [1, 2, 5, 14] fun R hR => ?_
 simp only [go_sem]
 refine hR _ _ ?_; clear hR R
 try simp only [go_sem]
 refine W_cond rfl (fun c2 => ?_) (fun c2 => ?_)
 ·
  try simp only [nrm] at c2
  have hi' : i < l.length := by first | assumption | omega
  obtain ⟨x, hx⟩ : ∃ x, l[i]? = some x := ⟨l[i], by simp [hi']⟩
  have hdrop : l.drop i = x :: l.drop (i + 1) := by
   rw [List.drop_eq_getElem_cons hi']; congr 1; exact (List.getElem?_eq_some_iff.1 hx).2
  rw [hdrop, outMarks_cons] at hinv
  refine W_skip (K7 _ _ ?_)
  refine W_seq fun Z9 K9 => ?_
  refine W_block ?_
  refine W_seq fun Z10 K10 => ?_
  refine W_draw [1, 2, 5, 26] [0, 1, 2, 3, 4, 5, 6, 7, 8, 9] [] [[], [], [0, 1], [0, 1, 2], [], [4], [], [6], [0, 1, 2, 3, 4, 5, 6, 7], [0, 1, 2, 3, 4, 5, 6, 7, 8]] mixed (by kernel_rfl) fun R hR => ?_
  simp only [go_sem, hx]
  refine GCall_of (rin_pc Y _ x s.low s.high) ?_
  simp only [go_sem, hx]
  try refine And.intro (by repeat' (first | refine And.intro ?_ ?_ | exact GOr_right (fun _ => by simp only [go_sem, hx]))) ?_
  refine hR _ _ (K10 _ _ ?_); clear hR R; try clear K10 Z10
  try simp only [go_sem, hx]
  refine W_cond rfl (fun c3 => ?_) (fun c3 => ?_)
  ·
   try simp only [nrm] at c3
   refine W_sr [4] fun R hR => ?_
   simp only [go_sem, hx]
   refine hR _ _ ?_; clear hR R
   try simp only [go_sem, hx]
   refine W_ret ?_
   simp only [go_sem, hx]
   refine ⟨.inr (by trivial), ?_⟩
   first | refine Fsa hcl rfl ?_ | refine Fse hcl rfl ?_
   try simp only [go_sem]
   all_goals
    rw [← hres]; simp [rMarks, *]
  try simp only [nrm] at c3
  refine W_skip (K9 _ _ ?_)
  refine W_region [1, 2, 5] fun R hR => ?_
  simp only [go_sem, hx]
  try simp (disch := omega) only [wrapI, wrapU]
  refine hR _ _ ?_; clear hR R
  try simp only [go_sem, hx]
  refine ⟨i + 1, ?_, by (try simp only []); omega, ?_⟩
  ·first | exact Weak.refl | exact Wqq
  try dsimp only
  exact ⟨hi', by simp_all⟩
 try simp only [nrm] at c2
 have hdrop : l.drop i = [] := List.drop_eq_nil_of_le (by omega)
 rw [hdrop, outMarks_nil] at hinv
 refine W_exit ?_
 simp only [go_sem]
 refine K5 _ _ ?_
 refine W_sr [4] fun R hR => ?_
 simp only [go_sem]
 refine hR _ _ ?_; clear hR R
 try simp only [go_sem]
 refine W_ret ?_
 simp only [go_sem]
 refine ⟨.inr (by trivial), ?_⟩
 first | refine Fsa hcl rfl ?_ | refine Fse hcl rfl ?_
 try simp only [go_sem]
 all_goals
  rw [← hres]; simp [rMarks, *]
set_option maxHeartbeats 2000000 in
theorem rseal_pc (Y : YEnv) (σ : Sg) (a b : Int) (l : List Int) (o : Own) (h1 : 0 ≤ a ∧ a ≤ 5) (h2 : 0 ≤ b ∧ b ≤ 4) (h3 : l.length ≤ 8) (h4 : ∀ x, x ∈ l → 0 ≤ x ∧ x ≤ 100) :
 PC Tryz.prog Y 112 [I a, I b, intsO o l] σ (I (sealOf (a, b) l)) (σ) := by
 refine PC_of_W Tryz.func112 rfl (by kernel_rfl) Tryz.ntmps112 (by simp) fun hcl hca => ?_
 obtain ⟨res, hres⟩ : ∃ r, sealOf (a, b) l = r := ⟨_, rfl⟩
 rw [hres]
 have hz : ¬ ((997 : Int) = 0) := by omega
 refine W_sr [0, 1, 2] fun R hR => ?_
 simp only [go_sem, hz]
 refine hR _ _ ?_; clear hR R
 try simp only [go_sem, hz]
 refine W_sr [2, 7] fun R hR => ?_
 simp only [go_sem, hz]
 try simp (disch := omega) only [wrapI, wrapU]
 refine hR _ _ ?_; clear hR R
 try simp only [go_sem, hz]
 refine W_seq fun Z3 K3 => ?_
 refine W_sr [2, 7, 8] fun R hR => ?_
 simp only [go_sem, hz]
 refine hR _ _ ?_; clear hR R
 try simp only [go_sem, hz]
 refine W_block ?_
 refine W_loopS (α := Nat × Int) (fun ⟨i, n⟩ => [(7, I n), (8, I i)]) (fun ⟨i, n⟩ => i ≤ l.length ∧ res = (n + sealSum i (l.drop i)).tmod 997 ∧ 0 ≤ n ∧ n ≤ 10000 + i * 800) (fun ⟨i, n⟩ => l.length - i) ((0, (a + 1) * 101 + (b + 1) * 1009)) rfl (⟨Nat.zero_le _, by rw [← hres]; simp [sealOf], by omega, by simp; omega⟩) ?_
 rintro ⟨i, n⟩ ⟨hi, hinv, hn1, hn2⟩
 have hi8 : i ≤ 8 := by omega
 refine W_seq fun Z5 K5 => ?_
 refine W_sr [2, 7, 8, 19] fun R hR => ?_
 simp only [go_sem, hz]
 refine hR _ _ ?_; clear hR R
 try simp only [go_sem, hz]
 refine W_cond rfl (fun c1 => ?_) (fun c1 => ?_)
 ·
  try simp only [nrm] at c1
  have hi' : i < l.length := by first | assumption | omega
  obtain ⟨x, hx⟩ : ∃ x, l[i]? = some x := ⟨l[i], by simp [hi']⟩
  have hdrop : l.drop i = x :: l.drop (i + 1) := by
   rw [List.drop_eq_getElem_cons hi']; congr 1; exact (List.getElem?_eq_some_iff.1 hx).2
  rw [hdrop] at hinv
  simp only [sealSum] at hinv
  have hxb := h4 x (List.mem_of_getElem? hx)
  have hp1 : 0 ≤ ((i : Int) + 1) * x := Int.mul_nonneg (by omega) hxb.1
  have hp2 : ((i : Int) + 1) * x ≤ ((i : Int) + 1) * 100 := Int.mul_le_mul_of_nonneg_left hxb.2 (by omega)
  refine W_skip (K5 _ _ ?_)
  refine W_seq fun Z7 K7 => ?_
  refine W_block ?_
  refine W_region [2, 7, 8] fun R hR => ?_
  simp only [go_sem, hz, hx]
  try simp (disch := omega) only [wrapI, wrapU]
  refine hR _ _ (K7 _ _ ?_); clear hR R; try clear K7 Z7
  try simp only [go_sem, hz, hx]
  refine W_region [2, 7, 8] fun R hR => ?_
  simp only [go_sem, hz, hx]
  try simp (disch := omega) only [wrapI, wrapU]
  refine hR _ _ ?_; clear hR R
  try simp only [go_sem, hz, hx]
  refine ⟨(i + 1, n + ((i : Int) + 1) * x), ?_, by (try simp only []); omega, ?_⟩
  ·first | exact Weak.refl | exact Wqq
  try dsimp only
  refine ⟨hi', ?_, by omega, by simp; omega⟩
  rw [hinv]; congr 1; omega
 try simp only [nrm] at c1
 have hdrop : l.drop i = [] := List.drop_eq_nil_of_le (by omega)
 rw [hdrop] at hinv
 simp only [sealSum] at hinv
 refine W_exit ?_
 simp only [go_sem, hz]
 refine K3 _ _ ?_
 refine W_sr [6] fun R hR => ?_
 simp only [go_sem, hz]
 try simp (disch := omega) only [wrapI, wrapU]
 refine hR _ _ ?_; clear hR R
 try simp only [go_sem, hz]
 refine W_ret ?_
 simp only [go_sem, hz]
 refine ⟨.inr (by trivial), ?_⟩
 first | refine Fsa hcl rfl ?_ | refine Fse hcl rfl ?_
 try simp only [go_sem]
 all_goals
  rw [hinv, Int.add_zero]
set_option maxHeartbeats 2000000 in
theorem rSeal_pc (Y : YEnv) (σ : Sg) (s : Scale) (a b : Int) (l : List Int) (o : Own) (hl : l.length < 2 ^ 40) (hs : s.Ok) :
 PC Tryz.prog Y 86 [scPV s, I a, I b, intsO o l] σ (.tuple [I (sealAns s (a, b) l).1, I (sealAns s (a, b) l).2]) (σ) := by
 refine PC_of_W Tryz.func86 rfl (by kernel_rfl) Tryz.ntmps86 (by simp) fun hcl hca => ?_
 refine W_sr [1, 2, 3, 4] fun R hR => ?_
 simp only [go_sem]
 refine hR _ _ ?_; clear hR R
 try simp only [go_sem]
 refine W_seq fun Z2 K2 => ?_
 refine W_sr [1, 2, 3, 4, 10] fun R hR => ?_
 simp only [go_sem]
 refine GCall_of (rCheck_pc Y _ s hs) ?_
 simp only [go_sem]
 refine hR _ _ ?_; clear hR R
 try simp only [go_sem]
 refine W_sr [1, 2, 3, 4, 10, 16] fun R hR => ?_
 simp only [go_sem]
 refine hR _ _ ?_; clear hR R
 try simp only [go_sem]
 refine W_cond rfl (fun c1 => ?_) (fun c1 => ?_)
 ·
  try simp only [nrm] at c1
  refine W_sr [8, 9] fun R hR => ?_
  simp only [go_sem]
  refine hR _ _ ?_; clear hR R
  try simp only [go_sem]
  refine W_ret ?_
  simp only [go_sem]
  refine ⟨.inr (by trivial), ?_⟩
  first | refine Fsa hcl rfl ?_ | refine Fse hcl rfl ?_
  try simp only [go_sem]
  all_goals
   simp [sealAns, marked_r, *]
 try simp only [nrm] at c1
 refine W_skip (K2 _ _ ?_)
 refine W_seq fun Z6 K6 => ?_
 refine W_sr [1, 2, 3, 4, 11] fun R hR => ?_
 simp only [go_sem]
 have hv := Scale.v c1
 refine GCall_of (rJudge_pc Y _ s a b hv) ?_
 simp only [go_sem]
 refine hR _ _ ?_; clear hR R
 try simp only [go_sem]
 refine W_sr [1, 2, 3, 4, 11, 23] fun R hR => ?_
 simp only [go_sem]
 refine hR _ _ ?_; clear hR R
 try simp only [go_sem]
 refine W_cond rfl (fun c2 => ?_) (fun c2 => ?_)
 ·
  try simp only [nrm] at c2
  refine W_sr [8, 9] fun R hR => ?_
  simp only [go_sem]
  refine hR _ _ ?_; clear hR R
  try simp only [go_sem]
  refine W_ret ?_
  simp only [go_sem]
  refine ⟨.inr (by trivial), ?_⟩
  first | refine Fsa hcl rfl ?_ | refine Fse hcl rfl ?_
  try simp only [go_sem]
  all_goals
   simp [sealAns, marked_r, *]
 try simp only [nrm] at c2
 refine W_skip (K6 _ _ ?_)
 refine W_seq fun Z10 K10 => ?_
 refine W_sr [1, 2, 3, 12] fun R hR => ?_
 simp only [go_sem]
 refine GCall_of (rMarks_pc Y _ s l o hl) ?_
 simp only [go_sem]
 refine hR _ _ ?_; clear hR R
 try simp only [go_sem]
 refine W_sr [1, 2, 3, 12, 29] fun R hR => ?_
 simp only [go_sem]
 refine hR _ _ ?_; clear hR R
 try simp only [go_sem]
 refine W_cond rfl (fun c3 => ?_) (fun c3 => ?_)
 ·
  try simp only [nrm] at c3
  refine W_sr [8, 9] fun R hR => ?_
  simp only [go_sem]
  refine hR _ _ ?_; clear hR R
  try simp only [go_sem]
  refine W_ret ?_
  simp only [go_sem]
  refine ⟨.inr (by trivial), ?_⟩
  first | refine Fsa hcl rfl ?_ | refine Fse hcl rfl ?_
  try simp only [go_sem]
  all_goals
   simp [sealAns, marked_r, *]
 try simp only [nrm] at c3
 refine W_skip (K10 _ _ ?_)
 refine W_sr [8, 9] fun R hR => ?_
 simp only [go_sem]
 have hmk : marked s (a, b) l = 0 := by rw [marked_r]; simp [*]
 obtain ⟨k1, k2, k3⟩ := marked_ok hmk
 simp only [ofSc_true] at k1
 have q1 := hv.mt
 have q2 := hv.jd
 have q3 := hv.sc
 have q4 := hv.lo
 have q5 := hv.hi
 refine GCall_of (rseal_pc Y _ a b l o (by omega) (by omega) (by omega) (fun x hx => by have := k3 x hx; omega)) ?_
 simp only [go_sem]
 refine hR _ _ ?_; clear hR R
 try simp only [go_sem]
 refine W_ret ?_
 simp only [go_sem]
 refine ⟨.inr (by trivial), ?_⟩
 first | refine Fsa hcl rfl ?_ | refine Fse hcl rfl ?_
 try simp only [go_sem]
 all_goals
  simp [sealAns, marked_r, *]
theorem mem2 {a b r : Int} (h : r ∈ [a, b]) : r = a ∨ r = b := by simpa using h
theorem mem3 {a b c r : Int} (h : r ∈ [a, b, c]) : r = a ∨ r = b ∨ r = c := by simpa using h
noncomputable def scaleD (n : Int) : D Scale := dbind (mid 1 n) fun a => dbind (mid 1 3) fun mt => dbind (mid 1 3) fun jd => dbind (anyOf [0, 70, 98]) fun lo => dbind (roll jd) fun dr => dbind (anyOf [2, 30]) fun e => dbind (mid lo (min 100 (lo + e))) fun hi => dbind (orderDm mt.toNat) fun od => dret ⟨a, mt, jd, dr, lo, hi, od⟩
theorem chkOrd_of {m : Int} : ∀ {l p : List Int}, (∀ x, x ∈ l → 0 ≤ x ∧ x ≤ m - 1) → l.Nodup → (∀ x, x ∈ l → x ∉ p) → chkOrd m p l = 0 := by
 intro l
 induction l with
 | nil => intro p _ _ _; rfl
 | cons n l ih =>
  intro p h1 h2 h3
  obtain ⟨a1, a2⟩ := List.nodup_cons.1 h2
  have hn := h1 n (by simp)
  have hin : inR n 0 (m - 1) = true := by rw [inR_true]; exact hn
  have hh : has p n = false := by
   cases h : has p n with
   | false => rfl
   | true => exact absurd (has_iff.1 h) (h3 n (by simp))
  simp only [chkOrd, hin, hh]
  refine ih (fun x hx => h1 x (by simp [hx])) a2 (fun x hx hp => ?_)
  rcases List.mem_append.1 hp with hp | hp
  ·exact h3 x (by simp [hx]) hp
  simp only [List.mem_singleton] at hp
  subst hp
  exact a1 hx
theorem nodup_range (n : Nat) : ((List.range n).map fun (i : Nat) => (i : Int)).Nodup := by
 rw [List.nodup_iff_pairwise_ne, List.pairwise_map]
 refine List.Pairwise.imp ?_ (List.nodup_range (n := n))
 intro a b h e
 exact h (by omega)
theorem order_ok {mt : Int} {od : List Int} (h : od.Perm ((List.range mt.toNat).map fun (i : Nat) => (i : Int))) : chkOrd mt [] od = 0 := by
 refine chkOrd_of (fun x hx => ?_) (h.nodup_iff.2 (nodup_range _)) (fun x _ hx => by cases hx)
 obtain ⟨i, hi, rfl⟩ := List.mem_map.1 (h.mem_iff.1 hx)
 have := List.mem_range.1 hi
 omega
theorem scaleD_ok (n : Int) (h1 : 1 ≤ n) (h2 : n ≤ 8) : Holds (scaleD n) fun s => chkSc s = 0 ∧ s.schools ≤ n ∧ s.matters ≤ 3 ∧ s.judges ≤ 3 := by
 unfold scaleD
 refine (mid_bd 1 n h1).bind fun a ha => (mid_bd 1 3 (by omega)).bind fun mt hmt => (mid_bd 1 3 (by omega)).bind fun jd hjd => (anyOf_mem [0, 70, 98] (by simp)).bind fun lo hlo => (roll_bd jd).bind fun dr hdr => (anyOf_mem [2, 30] (by simp)).bind fun e he => ?_
 have hlo' : 0 ≤ lo ∧ lo ≤ 98 := by rcases mem3 hlo with h | h | h <;> omega
 have he' : 2 ≤ e ∧ e ≤ 30 := by rcases mem2 he with h | h <;> omega
 refine (mid_bd lo (min 100 (lo + e)) (by omega)).bind fun hi hhi => (orderDm_perm mt.toNat).bind fun od hod => .ret ⟨?_, by simp only []; omega, by simp only []; omega, by simp only []; omega⟩
 have hl : od.length = mt.toNat := by rw [hod.length_eq]; simp
 have hr : scRange ⟨a, mt, jd, dr, lo, hi, od⟩ = true := by
  simp only [scRange, Bool.and_eq_true, inR_true]
  omega
 unfold chkSc
 rw [hr]
 simp only [Bool.not_true, Bool.false_eq_true, if_false]
 rw [if_neg (by omega), if_neg (by omega)]
 exact order_ok hod
noncomputable def marksC (s : Scale) : Nat → List Int → D (List Int)
 | 0, acc => dret acc
 | k + 1, acc => dbind (mid s.low s.high) fun m => dbind (anyOf [s.low, s.high, m]) fun x => marksC s k (acc ++ [x])
noncomputable def marksD (s : Scale) : D (List Int) := marksC s s.schools.toNat []
theorem marksC_ok {s : Scale} (h : s.low ≤ s.high) : ∀ (k : Nat) (acc : List Int), (∀ x, x ∈ acc → s.low ≤ x ∧ x ≤ s.high) → Holds (marksC s k acc) fun l => l.length = acc.length + k ∧ ∀ x, x ∈ l → s.low ≤ x ∧ x ≤ s.high := by
 intro k
 induction k with
 | zero => intro acc ha; exact .ret ⟨rfl, ha⟩
 | succ k ih =>
  intro acc ha
  refine (mid_bd s.low s.high h).bind fun m hm => (anyOf_mem [s.low, s.high, m] (by simp)).bind fun x hx => (ih (acc ++ [x]) fun y hy => ?_).mono fun l hl => ⟨by rw [hl.1]; simp; omega, hl.2⟩
  rcases List.mem_append.1 hy with hy | hy
  ·exact ha y hy
  simp only [List.mem_singleton] at hy
  subst hy
  rcases mem3 hx with h | h | h <;> omega
theorem marksD_ok {s : Scale} (hv : s.V) : Holds (marksD s) fun l => (l.length : Int) = s.schools ∧ ∀ x, x ∈ l → s.low ≤ x ∧ x ≤ s.high := by
 have q := hv.sc
 exact (marksC_ok hv.lh s.schools.toNat [] (fun x hx => by cases hx)).mono fun l hl => ⟨by rw [hl.1]; simp; omega, hl.2⟩
def sealedE (s : Scale) (m j : Int) (l : List Int) : Envl := ⟨m, j, l, (sealAns s (m, j) l).1⟩
set_option maxHeartbeats 8000000 in
theorem ScaleOf_pc (Y : YEnv) (σ : Sg) (d : Nat) (b : Int) (hd : σ.store[d]? = some (some [.int .u64 b])) (n : Int) (h1 : 1 ≤ n) (h2 : n ≤ 8) :
 PC Tryz.prog Y 22 [.ptr d 0, I n] σ (scPV (scaleD n b).1) (σ.setVar d [.int .u64 (scaleD n b).2]) := by
 refine PC_of_W Tryz.func22 rfl (by kernel_rfl) Tryz.ntmps22 (by simp) fun hcl hca => ?_
 have hlt := lt_of_get hd
 obtain ⟨a, ha⟩ : ∃ zz, (mid 1 n b).1 = zz := ⟨_, rfl⟩
 obtain ⟨b1, hb1⟩ : ∃ zz, (mid 1 n b).2 = zz := ⟨_, rfl⟩
 have da := mid_bd 1 n h1 b
 simp only [ha] at da
 obtain ⟨mt, hmt⟩ : ∃ zz, (mid 1 3 b1).1 = zz := ⟨_, rfl⟩
 obtain ⟨b2, hb2⟩ : ∃ zz, (mid 1 3 b1).2 = zz := ⟨_, rfl⟩
 have dmt := mid_bd 1 3 (by omega) b1
 simp only [hmt] at dmt
 obtain ⟨jd, hjd⟩ : ∃ zz, (mid 1 3 b2).1 = zz := ⟨_, rfl⟩
 obtain ⟨b3, hb3⟩ : ∃ zz, (mid 1 3 b2).2 = zz := ⟨_, rfl⟩
 have djd := mid_bd 1 3 (by omega) b2
 simp only [hjd] at djd
 obtain ⟨lo, hlo⟩ : ∃ zz, (anyOf [0, 70, 98] b3).1 = zz := ⟨_, rfl⟩
 obtain ⟨b4, hb4⟩ : ∃ zz, (anyOf [0, 70, 98] b3).2 = zz := ⟨_, rfl⟩
 have dlo := anyOf_mem [0, 70, 98] (by simp) b3
 simp only [hlo] at dlo
 obtain ⟨dr, hdr⟩ : ∃ zz, (roll jd b4).1 = zz := ⟨_, rfl⟩
 obtain ⟨b5, hb5⟩ : ∃ zz, (roll jd b4).2 = zz := ⟨_, rfl⟩
 have ddr := roll_bd jd b4
 simp only [hdr] at ddr
 obtain ⟨e, he⟩ : ∃ zz, (anyOf [2, 30] b5).1 = zz := ⟨_, rfl⟩
 obtain ⟨b6, hb6⟩ : ∃ zz, (anyOf [2, 30] b5).2 = zz := ⟨_, rfl⟩
 have de := anyOf_mem [2, 30] (by simp) b5
 simp only [he] at de
 have hlo' : 0 ≤ lo ∧ lo ≤ 98 := by rcases mem3 dlo with h | h | h <;> omega
 have he' : 2 ≤ e ∧ e ≤ 30 := by rcases mem2 de with h | h <;> omega
 obtain ⟨mtn, hmtn⟩ : ∃ z : Nat, mt = z := ⟨mt.toNat, by omega⟩
 subst hmtn
 obtain ⟨hi, hhi⟩ : ∃ zz, (mid lo (min 100 (lo + e)) b6).1 = zz := ⟨_, rfl⟩
 obtain ⟨b7, hb7⟩ : ∃ zz, (mid lo (min 100 (lo + e)) b6).2 = zz := ⟨_, rfl⟩
 have dhi := mid_bd lo (min 100 (lo + e)) (by omega) b6
 simp only [hhi] at dhi
 obtain ⟨od, hod⟩ : ∃ zz, (orderDm mtn b7).1 = zz := ⟨_, rfl⟩
 obtain ⟨b8, hb8⟩ : ∃ zz, (orderDm mtn b7).2 = zz := ⟨_, rfl⟩
 have dod := orderDm_perm mtn b7
 simp only [hod] at dod
 have hmin : (if (100 : Int) ≤ lo + e then 100 else lo + e) = min 100 (lo + e) := by split <;> omega
 have hres : scaleD n b = (⟨a, mtn, jd, dr, lo, hi, od⟩, b8) := by
  simp only [scaleD, dbind, ha, hb1, hmt, hb2, hjd, hb3, hlo, hb4, hdr, hb5, he, hb6, hhi, hb7, Int.toNat_natCast, hod, hb8, dret]
 rw [hres]
 refine W_sr [0, 1, 4] fun R hR => ?_
 simp only [go_sem, ldS_at hd, stX_at hd, ldS_sv hlt, stX_sv hlt, sv_ext hlt, sv_ext_sv hlt, ha, hb1, hmt, hb2, hjd, hb3, hlo, hb4, hdr, hb5, he, hb6, hhi, hb7, hod, hb8]
 refine hR _ _ ?_; clear hR R
 try simp only [go_sem, ldS_at hd, stX_at hd, ldS_sv hlt, stX_sv hlt, sv_ext hlt, sv_ext_sv hlt, ha, hb1, hmt, hb2, hjd, hb3, hlo, hb4, hdr, hb5, he, hb6, hhi, hb7, hod, hb8]
 refine W_sr [0, 4, 5] fun R hR => ?_
 simp only [go_sem, ldS_at hd, stX_at hd, ldS_sv hlt, stX_sv hlt, sv_ext hlt, sv_ext_sv hlt, ha, hb1, hmt, hb2, hjd, hb3, hlo, hb4, hdr, hb5, he, hb6, hhi, hb7, hod, hb8]
 refine GCall_of (Mid_pc Y _ d b (by first | exact hd | exact sv_get hlt | exact get_svx hlt | exact get_extx hd) 1 n (by omega) (by omega) (by omega) (by omega)) ?_
 simp only [go_sem, ldS_at hd, stX_at hd, ldS_sv hlt, stX_sv hlt, sv_ext hlt, sv_ext_sv hlt, ha, hb1, hmt, hb2, hjd, hb3, hlo, hb4, hdr, hb5, he, hb6, hhi, hb7, hod, hb8]
 refine GCall_of (Mid_pc Y _ d b1 (by first | exact hd | exact sv_get hlt | exact get_svx hlt | exact get_extx hd) 1 3 (by omega) (by omega) (by omega) (by omega)) ?_
 simp only [go_sem, ldS_at hd, stX_at hd, ldS_sv hlt, stX_sv hlt, sv_ext hlt, sv_ext_sv hlt, ha, hb1, hmt, hb2, hjd, hb3, hlo, hb4, hdr, hb5, he, hb6, hhi, hb7, hod, hb8]
 refine GCall_of (Mid_pc Y _ d b2 (by first | exact hd | exact sv_get hlt | exact get_svx hlt | exact get_extx hd) 1 3 (by omega) (by omega) (by omega) (by omega)) ?_
 simp only [go_sem, ldS_at hd, stX_at hd, ldS_sv hlt, stX_sv hlt, sv_ext hlt, sv_ext_sv hlt, ha, hb1, hmt, hb2, hjd, hb3, hlo, hb4, hdr, hb5, he, hb6, hhi, hb7, hod, hb8]
 refine GCall_of (Any_pc Y _ d b3 (by first | exact hd | exact sv_get hlt | exact get_svx hlt | exact get_extx hd) [0, 70, 98] (by simp) (by simp)) ?_
 simp only [go_sem, ldS_at hd, stX_at hd, ldS_sv hlt, stX_sv hlt, sv_ext hlt, sv_ext_sv hlt, ha, hb1, hmt, hb2, hjd, hb3, hlo, hb4, hdr, hb5, he, hb6, hhi, hb7, hod, hb8]
 refine hR _ _ ?_; clear hR R
 try simp only [go_sem, ldS_at hd, stX_at hd, ldS_sv hlt, stX_sv hlt, sv_ext hlt, sv_ext_sv hlt, ha, hb1, hmt, hb2, hjd, hb3, hlo, hb4, hdr, hb5, he, hb6, hhi, hb7, hod, hb8]
 refine W_seq fun Z3 K3 => ?_
 have hmin2 : min (100 : Int) (lo + e) = min 100 (lo + e) := rfl
 refine W_draw [4, 5] [0, 1, 2, 3, 4, 5, 6, 7, 8, 9, 10, 11, 12, 13, 14, 15, 16, 17, 18, 19, 20, 21, 22, 23, 24] [(4, 3), (4, 14), (5, 3), (5, 14), (6, 3), (6, 14), (7, 3), (7, 14), (8, 3), (8, 14), (9, 3), (10, 3), (15, 3), (15, 11), (15, 14), (16, 3), (16, 11), (16, 14), (17, 3), (17, 11), (17, 14), (19, 11), (19, 14), (19, 18)] [[], [], [1], [0, 1, 2], [], [], [5], [], [7], [], [], [0, 1, 2, 3, 9, 10], [0, 1, 2, 3, 7, 8, 9, 10, 11], [0, 1, 2, 3, 7, 8, 9, 10, 11, 12], [0, 1, 2, 3, 4, 5, 6, 7, 8, 9, 10, 11, 12, 13], [], [], [16], [0, 1, 2, 3, 4, 5, 6, 7, 8, 9, 10, 11, 12, 13, 14, 15, 16, 17], [0, 1, 2, 3, 5, 6, 7, 8, 16, 17], [0, 1, 2, 3, 4, 5, 6, 7, 8, 9, 10, 11, 12, 13, 14, 15, 16, 17, 18, 19], [0, 1, 2, 3, 4, 5, 6, 7, 8, 9, 10, 11, 12, 13, 14, 15, 16, 17, 18, 19, 20], [0, 1, 2, 3, 4, 5, 6, 7, 8, 9, 10, 11, 12, 13, 14, 15, 16, 17, 18, 19, 20, 21], [0, 1, 2, 3, 4, 5, 6, 7, 8, 9, 10, 11, 12, 13, 14, 15, 16, 17, 18, 19, 20, 21, 22], [0, 1, 2, 3, 4, 5, 6, 7, 8, 9, 10, 11, 12, 13, 14, 15, 16, 17, 18, 19, 20, 21, 22, 23]] mixed (by kernel_rfl) fun R hR => ?_
 simp only [go_sem, ldS_at hd, stX_at hd, ldS_sv hlt, stX_sv hlt, sv_ext hlt, sv_ext_sv hlt, ha, hb1, hmt, hb2, hjd, hb3, hlo, hb4, hdr, hb5, he, hb6, hhi, hb7, hod, hb8]
 refine GCall_of (Roll_pc Y _ d b4 (by first | exact hd | exact sv_get hlt | exact get_svx hlt | exact get_extx hd) jd (by omega)) ?_
 simp only [go_sem, ldS_at hd, stX_at hd, ldS_sv hlt, stX_sv hlt, sv_ext hlt, sv_ext_sv hlt, ha, hb1, hmt, hb2, hjd, hb3, hlo, hb4, hdr, hb5, he, hb6, hhi, hb7, hod, hb8]
 refine GCall_of (Any_pc Y _ d b5 (by first | exact hd | exact sv_get hlt | exact get_svx hlt | exact get_extx hd) [2, 30] (by simp) (by simp)) ?_
 simp only [go_sem, ldS_at hd, stX_at hd, ldS_sv hlt, stX_sv hlt, sv_ext hlt, sv_ext_sv hlt, ha, hb1, hmt, hb2, hjd, hb3, hlo, hb4, hdr, hb5, he, hb6, hhi, hb7, hod, hb8]
 try simp (disch := omega) only [wrapI]
 try simp only [hmin, hmin2]
 try simp (disch := omega) only [wrapI, wrapU]
 refine GCall_of (Mid_pc Y _ d b6 (by first | exact hd | exact sv_get hlt | exact get_svx hlt | exact get_extx hd) lo (min 100 (lo + e)) (by omega) (by omega) (by omega) (by omega)) ?_
 simp only [go_sem, ldS_at hd, stX_at hd, ldS_sv hlt, stX_sv hlt, sv_ext hlt, sv_ext_sv hlt, ha, hb1, hmt, hb2, hjd, hb3, hlo, hb4, hdr, hb5, he, hb6, hhi, hb7, hod, hb8]
 try simp (disch := omega) only [wrapI, wrapU]
 refine GCall_of (Order_pc Y _ d b7 (by first | exact hd | exact sv_get hlt | exact get_svx hlt | exact get_extx hd) mtn (by omega)) ?_
 simp only [go_sem, ldS_at hd, stX_at hd, ldS_sv hlt, stX_sv hlt, sv_ext hlt, sv_ext_sv hlt, ha, hb1, hmt, hb2, hjd, hb3, hlo, hb4, hdr, hb5, he, hb6, hhi, hb7, hod, hb8]
 try simp (disch := omega) only [wrapI, wrapU]
 try refine And.intro (by repeat' (first | refine And.intro ?_ ?_ | exact GOr_right (fun _ => by simp only [go_sem, ldS_at hd, stX_at hd, ldS_sv hlt, stX_sv hlt, sv_ext hlt, sv_ext_sv hlt, ha, hb1, hmt, hb2, hjd, hb3, hlo, hb4, hdr, hb5, he, hb6, hhi, hb7, hod, hb8]))) ?_
 refine hR _ _ (K3 _ _ ?_); clear hR R; try clear K3 Z3
 try simp only [go_sem, ldS_at hd, stX_at hd, ldS_sv hlt, stX_sv hlt, sv_ext hlt, sv_ext_sv hlt, ha, hb1, hmt, hb2, hjd, hb3, hlo, hb4, hdr, hb5, he, hb6, hhi, hb7, hod, hb8]
 refine W_sr [4] fun R hR => ?_
 simp only [go_sem, ldS_at hd, stX_at hd, ldS_sv hlt, stX_sv hlt, sv_ext hlt, sv_ext_sv hlt, ha, hb1, hmt, hb2, hjd, hb3, hlo, hb4, hdr, hb5, he, hb6, hhi, hb7, hod, hb8]
 refine hR _ _ ?_; clear hR R
 try simp only [go_sem, ldS_at hd, stX_at hd, ldS_sv hlt, stX_sv hlt, sv_ext hlt, sv_ext_sv hlt, ha, hb1, hmt, hb2, hjd, hb3, hlo, hb4, hdr, hb5, he, hb6, hhi, hb7, hod, hb8]
 refine W_ret ?_
 simp only [go_sem, ldS_at hd, stX_at hd, ldS_sv hlt, stX_sv hlt, sv_ext hlt, sv_ext_sv hlt, ha, hb1, hmt, hb2, hjd, hb3, hlo, hb4, hdr, hb5, he, hb6, hhi, hb7, hod, hb8]
 refine ⟨.inr (by trivial), ?_⟩
 first | refine Fin_set hcl (by simp only [go_sem]) (by show resPV Tryz.prog _ _ [.cell 4 24] = some _; simp only [resPV, go_sem]; rfl) (Wk_eq ?_ (by simp only [go_sem])) | refine Fin_set0 hcl (by simp only [go_sem]) (by show resPV Tryz.prog _ _ [.cell 4 24] = some _; simp only [resPV, go_sem]; rfl) (Wk_eq ?_ (by simp only [go_sem]))
 try simp only [go_sem]
 all_goals
  skip
set_option maxHeartbeats 2000000 in
theorem MarksOf_pc (Y : YEnv) (σ : Sg) (d : Nat) (b : Int) (hd : σ.store[d]? = some (some [.int .u64 b])) (s : Scale) (hv : s.V) :
 PC Tryz.prog Y 53 [.ptr d 0, scPV s] σ (ints (marksD s b).1) (σ.setVar d [.int .u64 (marksD s b).2]) := by
 refine PC_of_W Tryz.func53 rfl (by kernel_rfl) Tryz.ntmps53 (by simp) fun hcl hca => ?_
 have hlt := lt_of_get hd
 have q3 := hv.sc
 have q4 := hv.lo
 have q5 := hv.hi
 have q6 := hv.lh
 obtain ⟨N, hN⟩ : ∃ z : Nat, s.schools = z := ⟨s.schools.toNat, by omega⟩
 have hNi : (s.schools : Int) = (N : Int) := hN
 obtain ⟨res, hres⟩ : ∃ r, marksD s b = r := ⟨_, rfl⟩
 rw [hres]
 unfold marksD at hres
 rw [hN, Int.toNat_natCast] at hres
 refine W_sr [0, 3] fun R hR => ?_
 simp only [go_sem, ldS_at hd, stX_at hd, ldS_sv hlt, stX_sv hlt, sv_ext hlt, sv_ext_sv hlt]
 refine hR _ _ ?_; clear hR R
 try simp only [go_sem, ldS_at hd, stX_at hd, ldS_sv hlt, stX_sv hlt, sv_ext hlt, sv_ext_sv hlt]
 refine W_sr [0, 3, 5] fun R hR => ?_
 simp only [go_sem, ldS_at hd, stX_at hd, ldS_sv hlt, stX_sv hlt, sv_ext hlt, sv_ext_sv hlt]
 refine hR _ _ ?_; clear hR R
 try simp only [go_sem, ldS_at hd, stX_at hd, ldS_sv hlt, stX_sv hlt, sv_ext hlt, sv_ext_sv hlt]
 refine W_seq fun Z3 K3 => ?_
 refine W_sr [0, 3, 5, 6] fun R hR => ?_
 simp only [go_sem, ldS_at hd, stX_at hd, ldS_sv hlt, stX_sv hlt, sv_ext hlt, sv_ext_sv hlt]
 refine hR _ _ ?_; clear hR R
 try simp only [go_sem, ldS_at hd, stX_at hd, ldS_sv hlt, stX_sv hlt, sv_ext hlt, sv_ext_sv hlt]
 refine W_block ?_
 refine W_weak (Weak.room (t := 5) (es := 1) rfl (by simp)) ?_
 refine W_weak (Weak.keep [0, 3, 5, 6]) ?_
 simp only [go_sem, ldS_at hd, stX_at hd, ldS_sv hlt, stX_sv hlt, sv_ext hlt, sv_ext_sv hlt]
 refine W_loopT (α := Nat × (List Int) × Int) (fun ⟨i, acc, b⟩ => [(5, .isl (acc.map I) (.tok σ.rooms.length acc.length 1)), (6, I i)]) (fun ⟨i, acc, b⟩ => (σ.setVar d [.int .u64 b]).ext [some (scCells s)] [acc.length]) (fun ⟨i, acc, b⟩ => i ≤ N ∧ acc.length = i ∧ res = marksC s (N - i) acc b) (fun ⟨i, acc, b⟩ => N - i) ((0, [], b)) rfl (by simp only [go_sem, sv_self hd]) (⟨Nat.zero_le _, rfl, hres.symm⟩) ?_
 rintro ⟨i, acc, b⟩ ⟨hi, hal, hinv⟩
 refine W_seq fun Z5 K5 => ?_
 refine W_sr [0, 3, 5, 6, 10] fun R hR => ?_
 simp only [go_sem, ldS_at hd, stX_at hd, ldS_sv hlt, stX_sv hlt, sv_ext hlt, sv_ext_sv hlt]
 refine hR _ _ ?_; clear hR R
 try simp only [go_sem, ldS_at hd, stX_at hd, ldS_sv hlt, stX_sv hlt, sv_ext hlt, sv_ext_sv hlt]
 refine W_cond rfl (fun c1 => ?_) (fun c1 => ?_)
 ·
  try simp only [nrm] at c1
  have hiN : i < N := by first | omega | (simp at c1; omega)
  rw [show N - i = (N - (i + 1)) + 1 by omega] at hinv
  simp only [marksC, dbind] at hinv
  obtain ⟨m, hm⟩ : ∃ zz, (mid s.low s.high b).1 = zz := ⟨_, rfl⟩
  obtain ⟨b1, hb1⟩ : ∃ zz, (mid s.low s.high b).2 = zz := ⟨_, rfl⟩
  have dm := mid_bd s.low s.high q6 b
  simp only [hm] at dm
  obtain ⟨x, hx⟩ : ∃ zz, (anyOf [s.low, s.high, m] b1).1 = zz := ⟨_, rfl⟩
  obtain ⟨b2, hb2⟩ : ∃ zz, (anyOf [s.low, s.high, m] b1).2 = zz := ⟨_, rfl⟩
  simp only [hm, hb1, hx, hb2] at hinv
  refine W_skip (K5 _ _ ?_)
  refine W_seq fun Z7 K7 => ?_
  refine W_block ?_
  refine W_draw [0, 3, 5, 6] [0, 1, 2, 3, 4, 5, 6, 7, 8, 9, 10, 11, 12, 13, 14, 15, 16] [(0, 13), (0, 15), (1, 13), (2, 13), (3, 13), (4, 13), (5, 13)] [[], [], [], [2], [], [4], [], [], [7], [], [9], [6, 7, 8, 9, 10], [2, 3, 4, 5, 6, 7, 8, 9, 10, 11], [1, 2, 3, 4, 5, 6, 7, 8, 9, 10, 11, 12], [1, 2, 3, 4, 5, 6, 7, 8, 9, 10, 11, 12, 13], [0, 1, 2, 3, 4, 5, 6, 7, 8, 9, 10, 11, 12, 13, 14], [0, 1, 2, 3, 4, 5, 6, 7, 8, 9, 10, 11, 12, 13, 14, 15]] mixed (by kernel_rfl) fun R hR => ?_
  simp only [go_sem, ldS_at hd, stX_at hd, ldS_sv hlt, stX_sv hlt, sv_ext hlt, sv_ext_sv hlt, hm, hb1, hx, hb2]
  refine GCall_of (Mid_pc Y _ d b (by first | exact hd | exact sv_get hlt | exact get_svx hlt | exact get_extx hd) s.low s.high (by omega) (by omega) (by omega) (by omega)) ?_
  simp only [go_sem, ldS_at hd, stX_at hd, ldS_sv hlt, stX_sv hlt, sv_ext hlt, sv_ext_sv hlt, hm, hb1, hx, hb2]
  refine GCall_of (Any_pc Y _ d b1 (by first | exact hd | exact sv_get hlt | exact get_svx hlt | exact get_extx hd) [s.low, s.high, m] (by simp) (by simp)) ?_
  simp only [go_sem, ldS_at hd, stX_at hd, ldS_sv hlt, stX_sv hlt, sv_ext hlt, sv_ext_sv hlt, hm, hb1, hx, hb2]
  try simp (disch := first | omega | (simp only [go_sem] <;> omega)) only [wrapI, wrapU, appX_exact, appX_tok]
  try simp only [go_sem, ldS_at hd, stX_at hd, ldS_sv hlt, stX_sv hlt, sv_ext hlt, sv_ext_sv hlt, hm, hb1, hx, hb2]
  try refine And.intro (by repeat' (first | refine And.intro ?_ ?_ | exact GOr_right (fun _ => by simp only [go_sem, ldS_at hd, stX_at hd, ldS_sv hlt, stX_sv hlt, sv_ext hlt, sv_ext_sv hlt, hm, hb1, hx, hb2]))) ?_
  refine hR _ _ (K7 _ _ ?_); clear hR R; try clear K7 Z7
  try simp only [go_sem, ldS_at hd, stX_at hd, ldS_sv hlt, stX_sv hlt, sv_ext hlt, sv_ext_sv hlt, hm, hb1, hx, hb2]
  refine W_region [0, 3, 5, 6] fun R hR => ?_
  simp only [go_sem, ldS_at hd, stX_at hd, ldS_sv hlt, stX_sv hlt, sv_ext hlt, sv_ext_sv hlt, hm, hb1, hx, hb2]
  try simp (disch := omega) only [wrapI, wrapU]
  refine hR _ _ ?_; clear hR R
  try simp only [go_sem, ldS_at hd, stX_at hd, ldS_sv hlt, stX_sv hlt, sv_ext hlt, sv_ext_sv hlt, hm, hb1, hx, hb2]
  refine ⟨(i + 1, acc ++ [x], b2), ?_, by (try simp only []); omega, ?_⟩
  ·first | exact Weak.refl | exact Wqq
  try dsimp only
  exact ⟨by omega, by simp [hal], hinv⟩
 try simp only [nrm] at c1
 have hie : N = i := by first | omega | (simp at c1; omega)
 subst hie
 rw [Nat.sub_self] at hinv
 simp only [marksC, dret] at hinv
 refine W_exit ?_
 simp only [go_sem, ldS_at hd, stX_at hd, ldS_sv hlt, stX_sv hlt, sv_ext hlt, sv_ext_sv hlt]
 refine K3 _ _ ?_
 refine W_sr [4] fun R hR => ?_
 simp only [go_sem, ldS_at hd, stX_at hd, ldS_sv hlt, stX_sv hlt, sv_ext hlt, sv_ext_sv hlt]
 refine hR _ _ ?_; clear hR R
 try simp only [go_sem, ldS_at hd, stX_at hd, ldS_sv hlt, stX_sv hlt, sv_ext hlt, sv_ext_sv hlt]
 refine W_ret ?_
 simp only [go_sem, ldS_at hd, stX_at hd, ldS_sv hlt, stX_sv hlt, sv_ext hlt, sv_ext_sv hlt]
 refine ⟨.inr (by trivial), ?_⟩
 rw [hinv]; refine Fin_set hcl (by simp only [go_sem]) rfl (Wk.ro (by simp only [go_sem]) ?_)
 try simp only [go_sem]
 all_goals
  simp only [go_sem]
set_option maxHeartbeats 2000000 in
theorem Sealed_pc (Y : YEnv) (σ : Sg) (s : Scale) (m j : Int) (l : List Int) (hl : l.length < 2 ^ 40) (hs : s.Ok) :
 PC Tryz.prog Y 52 [scPV s, I m, I j, ints l] σ (evPV (sealedE s m j l)) (σ) := by
 refine PC_of_W Tryz.func52 rfl (by kernel_rfl) Tryz.ntmps52 (by simp) fun hcl hca => ?_
 refine W_sr [1, 2, 3, 4, 8] fun R hR => ?_
 simp only [go_sem, sealedE]
 refine hR _ _ ?_; clear hR R
 try simp only [go_sem, sealedE]
 refine W_sr [1, 2, 3, 8, 9] fun R hR => ?_
 simp only [go_sem, sealedE]
 refine GCall_of (rSeal_pc Y _ s m j l .ro hl hs) ?_
 simp only [go_sem, sealedE]
 refine hR _ _ ?_; clear hR R
 try simp only [go_sem, sealedE]
 refine W_sr [8] fun R hR => ?_
 simp only [go_sem, sealedE]
 refine hR _ _ ?_; clear hR R
 try simp only [go_sem, sealedE]
 refine W_ret ?_
 simp only [go_sem, sealedE]
 refine ⟨.inr (by trivial), ?_⟩
 first | refine Fin_same hcl (by show resPV Tryz.prog _ _ [.cell 8 38] = some _; simp only [resPV, go_sem]; rfl) (Wk_eq ?_ (by simp only [go_sem])) | refine Fin_same hcl rfl (Wk_eq ?_ (by simp only [go_sem]))
 try simp only [go_sem]
 all_goals
  first | rfl | simp [sealedE]
theorem W_regionT {P : Program} {Y : YEnv} {N : Nat} {rd : Option Nat} {lo : Nat × Nat} {id : Nat} {ops : Array Oper} {E : Env} {σ : Sg} {Q : Exit → Env → Sg → Prop} (ks : List Nat) (upd : Env) (σ' : Sg)
 (rest : Q .normal (keep ks (upd ++ E)) σ') (h : ∀ K : Env → Sg → Prop, (∀ E' ρ, keep ks E' = keep ks (upd ++ E) → ρ = σ' → K E' ρ) → GL P Y N ops ops.toList E σ K) : W P Y N rd lo (.region id ops false) E σ Q :=
 W_region ks fun K hK => h K fun E' ρ e e2 => hK E' ρ (by rw [e, e2]; exact rest)
theorem ite_at {α β : Type} {c : Prop} [Decidable c] {f g : α → β} {x : α} : (if c then f else g) x = if c then f x else g x := by split <;> rfl
abbrev Rows2 := List Envl × List (Int × Int)
noncomputable def nightJ (s : Scale) (dec : Bool) (J m : Nat) : Nat → Int → List Envl → List (Int × Int) → D Rows2
 | 0, _, op, ab => dret (op, ab)
 | k + 1, here, op, ab => dbind (rare 5) fun a =>
  if a = true ∧ (0 < here ∨ ((J - (k + 1) : Nat) : Int) < (J : Int) - 1) then nightJ s dec J m k here op (ab ++ [((m : Int), ((J - (k + 1) : Nat) : Int))])
  else if dec = true then dbind (marksD s) fun l => nightJ s dec J m k (here + 1) (op ++ [sealedE s m ((J - (k + 1) : Nat) : Int) l]) ab
  else dbind (rare 3) fun r => if r = true then nightJ s dec J m k (here + 1) op ab else dbind (marksD s) fun l => nightJ s dec J m k (here + 1) (op ++ [sealedE s m ((J - (k + 1) : Nat) : Int) l]) ab
noncomputable def nightM (s : Scale) (dec : Bool) (M J : Nat) : Nat → List Envl → List (Int × Int) → D Rows2
 | 0, op, ab => dret (op, ab)
 | k + 1, op, ab => dbind (nightJ s dec J (M - (k + 1)) J 0 op ab) fun p => nightM s dec M J k p.1 p.2
noncomputable def finesC (sc : Int) : Nat → List (Int × Int) → D (List (Int × Int))
 | 0, fi => dret fi
 | k + 1, fi => dbind (roll sc) fun a => dbind (anyOf [3, 100]) fun y => dbind (roll y) fun p => finesC sc k (fi ++ [(a, p)])
noncomputable def finesD (sc : Int) : D (List (Int × Int)) := dbind (roll 4) fun q => dbind (anyOf [0, 0, q]) fun n => finesC sc n.toNat []
def pickE (op : List Envl) (od : List Int) : List Envl := od.map fun i => (op[i.toNat]?).getD ⟨0, 0, [], 0⟩
noncomputable def nightD (s : Scale) (dec : Bool) : D Night := dbind (nightM s dec s.matters.toNat s.judges.toNat s.matters.toNat [] []) fun p => dbind (finesD s.schools) fun fi => dbind (orderDm p.1.length) fun od => dret ⟨pickE p.1 od, p.2, fi⟩
set_option maxHeartbeats 16000000 in
theorem NightOf_pc (Y : YEnv) (σ : Sg) (d : Nat) (b : Int) (hd : σ.store[d]? = some (some [.int .u64 b])) (s : Scale) (hv : s.V) (hs : s.Ok) (dec : Bool) :
 PC Tryz.prog Y 23 [.ptr d 0, scPV s, .bool dec] σ (ngPV (nightD s dec b).1) (σ.setVar d [.int .u64 (nightD s dec b).2]) := by
 refine PC_of_W Tryz.func23 rfl (by kernel_rfl) Tryz.ntmps23 (by simp) fun hcl hca => ?_
 have hlt := lt_of_get hd
 have q1 := hv.mt
 have q2 := hv.jd
 have q3 := hv.sc
 obtain ⟨M, hM⟩ : ∃ z : Nat, s.matters = z := ⟨s.matters.toNat, by omega⟩
 obtain ⟨J, hJ⟩ : ∃ z : Nat, s.judges = z := ⟨s.judges.toNat, by omega⟩
 have hMi : (s.matters : Int) = (M : Int) := hM
 have hJi : (s.judges : Int) = (J : Int) := hJ
 obtain ⟨res, hres⟩ : ∃ r, nightD s dec b = r := ⟨_, rfl⟩
 rw [hres]
 unfold nightD at hres
 simp only [hM, hJ, Int.toNat_natCast, dbind] at hres
 obtain ⟨R0, hR0⟩ : ∃ r, nightM s dec M J M [] [] b = r := ⟨_, rfl⟩
 rw [hR0] at hres
 refine W_sr [0, 2, 4, 6] fun R hR => ?_
 simp only [go_sem, ldS_at hd, stX_at hd, ldS_sv hlt, stX_sv hlt, sv_ext hlt, sv_ext_sv hlt]
 refine hR _ _ ?_; clear hR R
 try simp only [go_sem, ldS_at hd, stX_at hd, ldS_sv hlt, stX_sv hlt, sv_ext hlt, sv_ext_sv hlt]
 refine W_sr [0, 2, 4, 6, 7] fun R hR => ?_
 simp only [go_sem, ldS_at hd, stX_at hd, ldS_sv hlt, stX_sv hlt, sv_ext hlt, sv_ext_sv hlt]
 refine hR _ _ ?_; clear hR R
 try simp only [go_sem, ldS_at hd, stX_at hd, ldS_sv hlt, stX_sv hlt, sv_ext hlt, sv_ext_sv hlt]
 refine W_seq fun Z3 K3 => ?_
 refine W_sr [0, 2, 4, 6, 7, 8] fun R hR => ?_
 simp only [go_sem, ldS_at hd, stX_at hd, ldS_sv hlt, stX_sv hlt, sv_ext hlt, sv_ext_sv hlt]
 refine hR _ _ ?_; clear hR R
 try simp only [go_sem, ldS_at hd, stX_at hd, ldS_sv hlt, stX_sv hlt, sv_ext hlt, sv_ext_sv hlt]
 refine W_block ?_
 refine W_weak (Weak.roomX (j := 2) (off := 0) (es := 4) rfl rfl (by simp)) ?_
 simp only [go_sem]
 refine W_weak (Weak.roomX (j := 2) (off := 1) (es := 2) rfl rfl (by simp)) ?_
 simp only [go_sem]
 refine W_weak (Weak.roomX (j := 2) (off := 2) (es := 2) rfl rfl (by simp)) ?_
 simp only [go_sem]
 refine W_loopT (α := Nat × (List Envl) × (List (Int × Int)) × Int) (fun ⟨i, op, ab, b⟩ => [(8, I i)]) (fun ⟨i, op, ab, b⟩ => (σ.setVar d [.int .u64 b]).ext [some (scCells s), some [.isl [] .exact, .isl [] .exact, .isl [] .exact], some [.isl (op.map evPV) (.tok σ.rooms.length op.length 4), .isl (ab.map stPV) (.tok (σ.rooms.length + 1) ab.length 2), .isl (([] : List (Int × Int)).map stPV) (.tok (σ.rooms.length + 2) ([] : List (Int × Int)).length 2)]] [op.length, ab.length, ([] : List (Int × Int)).length]) (fun ⟨i, op, ab, b⟩ => i ≤ M ∧ op.length ≤ 5 * i ∧ ab.length ≤ 5 * i ∧ R0 = nightM s dec M J (M - i) op ab b) (fun ⟨i, op, ab, b⟩ => M - i) ((0, [], [], b)) rfl (by simp only [go_sem, sv_self hd]) (⟨Nat.zero_le _, Nat.zero_le _, Nat.zero_le _, hR0.symm⟩) ?_
 rintro ⟨i, op, ab, b⟩ ⟨hi, hl1, hl2, hinv⟩
 refine W_seq fun Z5 K5 => ?_
 refine W_sr [0, 2, 4, 6, 7, 8, 18] fun R hR => ?_
 simp only [go_sem, ldS_at hd, stX_at hd, ldS_sv hlt, stX_sv hlt, sv_ext hlt, sv_ext_sv hlt]
 refine hR _ _ ?_; clear hR R
 try simp only [go_sem, ldS_at hd, stX_at hd, ldS_sv hlt, stX_sv hlt, sv_ext hlt, sv_ext_sv hlt]
 refine W_cond rfl (fun c1 => ?_) (fun c1 => ?_)
 ·
  try simp only [nrm] at c1
  have hiM : i < M := by first | omega | (simp at c1; omega)
  rw [show M - i = (M - (i + 1)) + 1 by omega] at hinv
  simp only [nightM, dbind] at hinv
  rw [show (M - (M - (i + 1) + 1) : Nat) = i by omega] at hinv
  obtain ⟨R1, hR1⟩ : ∃ z, nightJ s dec J i J 0 op ab b = z := ⟨_, rfl⟩
  rw [hR1] at hinv
  refine W_skip (K5 _ _ ?_)
  refine W_seq fun Z7 K7 => ?_
  refine W_block ?_
  refine W_sr [0, 2, 4, 6, 7, 8, 9] fun R hR => ?_
  simp only [go_sem, ldS_at hd, stX_at hd, ldS_sv hlt, stX_sv hlt, sv_ext hlt, sv_ext_sv hlt]
  refine hR _ _ ?_; clear hR R
  try simp only [go_sem, ldS_at hd, stX_at hd, ldS_sv hlt, stX_sv hlt, sv_ext hlt, sv_ext_sv hlt]
  refine W_sr [0, 2, 4, 6, 7, 8, 9, 10] fun R hR => ?_
  simp only [go_sem, ldS_at hd, stX_at hd, ldS_sv hlt, stX_sv hlt, sv_ext hlt, sv_ext_sv hlt]
  refine hR _ _ ?_; clear hR R
  try simp only [go_sem, ldS_at hd, stX_at hd, ldS_sv hlt, stX_sv hlt, sv_ext hlt, sv_ext_sv hlt]
  refine W_block ?_
  refine W_loopT (α := Nat × Nat × (List Envl) × (List (Int × Int)) × Int) (fun ⟨j, here, op2, ab2, b⟩ => [(9, I here), (10, I j)]) (fun ⟨j, here, op2, ab2, b⟩ => (σ.setVar d [.int .u64 b]).ext [some (scCells s), some [.isl [] .exact, .isl [] .exact, .isl [] .exact], some [.isl (op2.map evPV) (.tok σ.rooms.length op2.length 4), .isl (ab2.map stPV) (.tok (σ.rooms.length + 1) ab2.length 2), .isl (([] : List (Int × Int)).map stPV) (.tok (σ.rooms.length + 2) ([] : List (Int × Int)).length 2)]] [op2.length, ab2.length, ([] : List (Int × Int)).length]) (fun ⟨j, here, op2, ab2, b⟩ => j ≤ J ∧ here ≤ j ∧ op2.length ≤ 5 * i + j ∧ ab2.length ≤ 5 * i + j ∧ R1 = nightJ s dec J i (J - j) here op2 ab2 b) (fun ⟨j, here, op2, ab2, b⟩ => J - j) ((0, 0, op, ab, b)) rfl (by first | rfl | (simp only [go_sem]; done) | (simp only [go_sem]; rfl)) (⟨Nat.zero_le _, Nat.le_refl _, by omega, by omega, hR1.symm⟩) ?_
  rintro ⟨j, here, op2, ab2, b⟩ ⟨hj, hhe, hl3, hl4, hinv2⟩
  refine W_seq fun Z10 K10 => ?_
  refine W_sr [0, 2, 4, 6, 7, 8, 9, 10, 24] fun R hR => ?_
  simp only [go_sem, ldS_at hd, stX_at hd, ldS_sv hlt, stX_sv hlt, sv_ext hlt, sv_ext_sv hlt]
  refine hR _ _ ?_; clear hR R
  try simp only [go_sem, ldS_at hd, stX_at hd, ldS_sv hlt, stX_sv hlt, sv_ext hlt, sv_ext_sv hlt]
  refine W_cond rfl (fun c2 => ?_) (fun c2 => ?_)
  ·
   try simp only [nrm] at c2
   have hjJ : j < J := by first | omega | (simp at c2; omega)
   rw [show J - j = (J - (j + 1)) + 1 by omega] at hinv2
   simp only [nightJ, dbind, ite_at] at hinv2
   rw [show (J - (J - (j + 1) + 1) : Nat) = j by omega] at hinv2
   obtain ⟨a5, ha5⟩ : ∃ zz, (rare 5 b).1 = zz := ⟨_, rfl⟩
   obtain ⟨b1, hb1⟩ : ∃ zz, (rare 5 b).2 = zz := ⟨_, rfl⟩
   simp only [ha5, hb1] at hinv2
   refine W_skip (K10 _ _ ?_)
   refine W_seq fun Z12 K12 => ?_
   refine W_block ?_
   refine W_seq fun Z13 K13 => ?_
   refine W_block ?_
   refine W_seq fun Z14 K14 => ?_
   refine W_regionT [0, 2, 4, 6, 7, 8, 9, 10, 27] [(27, .bool (a5 && (decide ((0 : Int) < (here : Int)) || decide ((j : Int) < (J : Int) - 1))))] ((σ.setVar d [.int .u64 b1]).ext [some (scCells s), some [.isl [] .exact, .isl [] .exact, .isl [] .exact], some [.isl (op2.map evPV) (.tok σ.rooms.length op2.length 4), .isl (ab2.map stPV) (.tok (σ.rooms.length + 1) ab2.length 2), .isl (([] : List (Int × Int)).map stPV) (.tok (σ.rooms.length + 2) ([] : List (Int × Int)).length 2)]] [op2.length, ab2.length, ([] : List (Int × Int)).length]) ?_ fun R hR => ?_
   ·refine K14 _ _ ?_
    simp only [go_sem, ldS_at hd, stX_at hd, ldS_sv hlt, stX_sv hlt, sv_ext hlt, sv_ext_sv hlt, ha5, hb1]
    refine W_cond rfl (fun c3 => ?_) (fun c3 => ?_)
    ·
     try simp only [nrm] at c3
     refine W_sr [0, 2, 4, 6, 7, 8, 9, 10] fun R hR => ?_
     simp only [go_sem, ldS_at hd, stX_at hd, ldS_sv hlt, stX_sv hlt, sv_ext hlt, sv_ext_sv hlt, ha5, hb1]
     try simp (disch := first | omega | (simp only [go_sem] <;> omega)) only [wrapI, wrapU, appX_exact, appX_tok]
     try simp only [go_sem, ldS_at hd, stX_at hd, ldS_sv hlt, stX_sv hlt, sv_ext hlt, sv_ext_sv hlt, ha5, hb1]
     refine hR _ _ ?_; clear hR R
     try simp only [go_sem, ldS_at hd, stX_at hd, ldS_sv hlt, stX_sv hlt, sv_ext hlt, sv_ext_sv hlt, ha5, hb1]
     refine W_exit ?_
     simp only [go_sem, ldS_at hd, stX_at hd, ldS_sv hlt, stX_sv hlt, sv_ext hlt, sv_ext_sv hlt, ha5, hb1]
     refine K12 _ _ ?_
     refine W_region [0, 2, 4, 6, 7, 8, 9, 10] fun R hR => ?_
     simp only [go_sem, ldS_at hd, stX_at hd, ldS_sv hlt, stX_sv hlt, sv_ext hlt, sv_ext_sv hlt, ha5, hb1]
     try simp (disch := omega) only [wrapI, wrapU]
     refine hR _ _ ?_; clear hR R
     try simp only [go_sem, ldS_at hd, stX_at hd, ldS_sv hlt, stX_sv hlt, sv_ext hlt, sv_ext_sv hlt, ha5, hb1]
     refine ⟨(j + 1, here, op2, ab2 ++ [((i : Int), (j : Int))], b1), ?_, by (try simp only []); omega, ?_⟩
     ·first | exact Weak.refl | exact Wqq
     try dsimp only
     refine ⟨by omega, by omega, ?_, ?_, ?_⟩
     ·first | omega | (simp; omega)
     ·first | omega | (simp; omega)
     first
     | (rw [hinv2, if_pos (by simpa using c3)]; done)
     | (rw [hinv2, if_neg (by simpa using c3)]; simp [g1]; done)
     | (rw [hinv2, if_neg (by simpa using c3)]; simp [g1, c4]; done)
    try simp only [nrm] at c3
    refine W_sr [0, 2, 4, 6, 7, 8, 9, 10, 49] fun R hR => ?_
    simp only [go_sem, ldS_at hd, stX_at hd, ldS_sv hlt, stX_sv hlt, sv_ext hlt, sv_ext_sv hlt, ha5, hb1]
    refine GWant_split (fun g1 => ?_) (fun g1 => ?_)
    ·try simp only [Bool.not_eq_true', Bool.not_eq_false'] at g1
     have n1 := g1; try simp only [nrm] at n1
     obtain ⟨a3, ha3⟩ : ∃ zz, (rare 3 b1).1 = zz := ⟨_, rfl⟩
     obtain ⟨b2, hb2⟩ : ∃ zz, (rare 3 b1).2 = zz := ⟨_, rfl⟩
     simp only [ha3, hb2] at hinv2
     simp only [go_sem, ldS_at hd, stX_at hd, ldS_sv hlt, stX_sv hlt, sv_ext hlt, sv_ext_sv hlt, ha5, hb1, ha3, hb2, g1]
     refine GCall_of (Rare_pc Y _ d b1 (by first | exact hd | exact sv_get hlt | exact get_svx hlt | exact get_extx hd) 3 (by omega)) ?_
     simp only [go_sem, ldS_at hd, stX_at hd, ldS_sv hlt, stX_sv hlt, sv_ext hlt, sv_ext_sv hlt, ha5, hb1, ha3, hb2, g1]
     refine hR _ _ ?_; clear hR R
     try simp only [go_sem, ldS_at hd, stX_at hd, ldS_sv hlt, stX_sv hlt, sv_ext hlt, sv_ext_sv hlt, ha5, hb1, ha3, hb2]
     refine W_cond rfl (fun c4 => ?_) (fun c4 => ?_)
     ·
      try simp only [nrm] at c4
      obtain ⟨ml, hml⟩ : ∃ zz, (marksD s b2).1 = zz := ⟨_, rfl⟩
      obtain ⟨b4, hb4⟩ : ∃ zz, (marksD s b2).2 = zz := ⟨_, rfl⟩
      have dml := marksD_ok hv b2
      simp only [hml] at dml
      have hmln : ml.length < 2 ^ 40 := by have := dml.1; omega
      try simp only [hml, hb4] at hinv2
      refine W_draw [0, 2, 4, 6, 7, 8, 9, 10] [0, 1, 2, 3, 4, 5, 6, 7, 8, 9, 10, 11, 12] [(0, 8), (0, 10), (1, 8), (1, 10), (2, 8), (3, 8), (4, 8)] [[], [0], [], [], [], [], [], [5, 6], [2, 3, 4, 5, 6, 7], [2, 3, 4, 5, 6, 7, 8], [0, 1, 2, 3, 4, 5, 6, 7, 8, 9], [0, 1, 2, 3, 4, 5, 6, 7, 8, 9, 10], [0, 1, 2, 3, 4, 5, 6, 7, 8, 9, 10, 11]] mixed (by kernel_rfl) fun R hR => ?_
      simp only [go_sem, ldS_at hd, stX_at hd, ldS_sv hlt, stX_sv hlt, sv_ext hlt, sv_ext_sv hlt, ha5, hb1, ha3, hb2, hml, hb4]
      refine GCall_of (MarksOf_pc Y _ d _ (by first | exact hd | exact sv_get hlt | exact get_svx hlt | exact get_extx hd) s hv) ?_
      simp only [go_sem, ldS_at hd, stX_at hd, ldS_sv hlt, stX_sv hlt, sv_ext hlt, sv_ext_sv hlt, ha5, hb1, ha3, hb2, hml, hb4]
      refine GCall_of (Sealed_pc Y _ s i j ml (by omega) hs) ?_
      simp only [go_sem, ldS_at hd, stX_at hd, ldS_sv hlt, stX_sv hlt, sv_ext hlt, sv_ext_sv hlt, ha5, hb1, ha3, hb2, hml, hb4]
      try simp (disch := first | omega | (simp only [go_sem] <;> omega)) only [wrapI, wrapU, appX_exact, appX_tok]
      try simp only [go_sem, ldS_at hd, stX_at hd, ldS_sv hlt, stX_sv hlt, sv_ext hlt, sv_ext_sv hlt, ha5, hb1, ha3, hb2, hml, hb4]
      try refine And.intro (by repeat' (first | refine And.intro ?_ ?_ | exact GOr_right (fun _ => by simp only [go_sem, ldS_at hd, stX_at hd, ldS_sv hlt, stX_sv hlt, sv_ext hlt, sv_ext_sv hlt, ha5, hb1, ha3, hb2, hml, hb4]))) ?_
      refine hR _ _ (K13 _ _ ?_); clear hR R; try clear K13 Z13
      try simp only [go_sem, ldS_at hd, stX_at hd, ldS_sv hlt, stX_sv hlt, sv_ext hlt, sv_ext_sv hlt, ha5, hb1, ha3, hb2, hml, hb4]
      refine W_region [0, 2, 4, 6, 7, 8, 9, 10] fun R hR => ?_
      simp only [go_sem, ldS_at hd, stX_at hd, ldS_sv hlt, stX_sv hlt, sv_ext hlt, sv_ext_sv hlt, ha5, hb1, ha3, hb2, hml, hb4]
      try simp (disch := omega) only [wrapI, wrapU]
      refine hR _ _ (K12 _ _ ?_); clear hR R; try clear K12 Z12
      try simp only [go_sem, ldS_at hd, stX_at hd, ldS_sv hlt, stX_sv hlt, sv_ext hlt, sv_ext_sv hlt, ha5, hb1, ha3, hb2, hml, hb4]
      refine W_region [0, 2, 4, 6, 7, 8, 9, 10] fun R hR => ?_
      simp only [go_sem, ldS_at hd, stX_at hd, ldS_sv hlt, stX_sv hlt, sv_ext hlt, sv_ext_sv hlt, ha5, hb1, ha3, hb2, hml, hb4]
      try simp (disch := omega) only [wrapI, wrapU]
      refine hR _ _ ?_; clear hR R
      try simp only [go_sem, ldS_at hd, stX_at hd, ldS_sv hlt, stX_sv hlt, sv_ext hlt, sv_ext_sv hlt, ha5, hb1, ha3, hb2, hml, hb4]
      refine ⟨(j + 1, here + 1, op2 ++ [sealedE s i j ml], ab2, b4), ?_, by (try simp only []); omega, ?_⟩
      ·first | exact Weak.refl | exact Wqq
      try dsimp only
      refine ⟨by omega, by omega, ?_, ?_, ?_⟩
      ·first | omega | (simp; omega)
      ·first | omega | (simp; omega)
      first
      | (rw [hinv2, if_pos (by simpa using c3)]; done)
      | (rw [hinv2, if_neg (by simpa using c3)]; simp [g1]; done)
      | (rw [hinv2, if_neg (by simpa using c3)]; simp [g1, c4]; done)
     try simp only [nrm] at c4
     refine W_skip (K13 _ _ ?_)
     refine W_region [0, 2, 4, 6, 7, 8, 9, 10] fun R hR => ?_
     simp only [go_sem, ldS_at hd, stX_at hd, ldS_sv hlt, stX_sv hlt, sv_ext hlt, sv_ext_sv hlt, ha5, hb1, ha3, hb2]
     try simp (disch := omega) only [wrapI, wrapU]
     refine hR _ _ (K12 _ _ ?_); clear hR R; try clear K12 Z12
     try simp only [go_sem, ldS_at hd, stX_at hd, ldS_sv hlt, stX_sv hlt, sv_ext hlt, sv_ext_sv hlt, ha5, hb1, ha3, hb2]
     refine W_region [0, 2, 4, 6, 7, 8, 9, 10] fun R hR => ?_
     simp only [go_sem, ldS_at hd, stX_at hd, ldS_sv hlt, stX_sv hlt, sv_ext hlt, sv_ext_sv hlt, ha5, hb1, ha3, hb2]
     try simp (disch := omega) only [wrapI, wrapU]
     refine hR _ _ ?_; clear hR R
     try simp only [go_sem, ldS_at hd, stX_at hd, ldS_sv hlt, stX_sv hlt, sv_ext hlt, sv_ext_sv hlt, ha5, hb1, ha3, hb2]
     refine ⟨(j + 1, here + 1, op2, ab2, b2), ?_, by (try simp only []); omega, ?_⟩
     ·first | exact Weak.refl | exact Wqq
     try dsimp only
     refine ⟨by omega, by omega, ?_, ?_, ?_⟩
     ·first | omega | (simp; omega)
     ·first | omega | (simp; omega)
     first
     | (rw [hinv2, if_pos (by simpa using c3)]; done)
     | (rw [hinv2, if_neg (by simpa using c3)]; simp [g1]; done)
     | (rw [hinv2, if_neg (by simpa using c3)]; simp [g1, c4]; done)
    try simp only [Bool.not_eq_true', Bool.not_eq_false'] at g1
    have n1 := g1; try simp only [nrm] at n1
    obtain ⟨ml, hml⟩ : ∃ zz, (marksD s b1).1 = zz := ⟨_, rfl⟩
    obtain ⟨b4, hb4⟩ : ∃ zz, (marksD s b1).2 = zz := ⟨_, rfl⟩
    have dml := marksD_ok hv b1
    simp only [hml] at dml
    have hmln : ml.length < 2 ^ 40 := by have := dml.1; omega
    try simp only [hml, hb4] at hinv2
    simp only [go_sem, ldS_at hd, stX_at hd, ldS_sv hlt, stX_sv hlt, sv_ext hlt, sv_ext_sv hlt, ha5, hb1, hml, hb4, g1]
    refine hR _ _ ?_; clear hR R
    try simp only [go_sem, ldS_at hd, stX_at hd, ldS_sv hlt, stX_sv hlt, sv_ext hlt, sv_ext_sv hlt, ha5, hb1, hml, hb4]
    refine W_cond_true rfl ?_
    refine W_draw [0, 2, 4, 6, 7, 8, 9, 10] [0, 1, 2, 3, 4, 5, 6, 7, 8, 9, 10, 11, 12] [(0, 8), (0, 10), (1, 8), (1, 10), (2, 8), (3, 8), (4, 8)] [[], [0], [], [], [], [], [], [5, 6], [2, 3, 4, 5, 6, 7], [2, 3, 4, 5, 6, 7, 8], [0, 1, 2, 3, 4, 5, 6, 7, 8, 9], [0, 1, 2, 3, 4, 5, 6, 7, 8, 9, 10], [0, 1, 2, 3, 4, 5, 6, 7, 8, 9, 10, 11]] mixed (by kernel_rfl) fun R hR => ?_
    simp only [go_sem, ldS_at hd, stX_at hd, ldS_sv hlt, stX_sv hlt, sv_ext hlt, sv_ext_sv hlt, ha5, hb1, hml, hb4]
    refine GCall_of (MarksOf_pc Y _ d _ (by first | exact hd | exact sv_get hlt | exact get_svx hlt | exact get_extx hd) s hv) ?_
    simp only [go_sem, ldS_at hd, stX_at hd, ldS_sv hlt, stX_sv hlt, sv_ext hlt, sv_ext_sv hlt, ha5, hb1, hml, hb4]
    refine GCall_of (Sealed_pc Y _ s i j ml (by omega) hs) ?_
    simp only [go_sem, ldS_at hd, stX_at hd, ldS_sv hlt, stX_sv hlt, sv_ext hlt, sv_ext_sv hlt, ha5, hb1, hml, hb4]
    try simp (disch := first | omega | (simp only [go_sem] <;> omega)) only [wrapI, wrapU, appX_exact, appX_tok]
    try simp only [go_sem, ldS_at hd, stX_at hd, ldS_sv hlt, stX_sv hlt, sv_ext hlt, sv_ext_sv hlt, ha5, hb1, hml, hb4]
    try refine And.intro (by repeat' (first | refine And.intro ?_ ?_ | exact GOr_right (fun _ => by simp only [go_sem, ldS_at hd, stX_at hd, ldS_sv hlt, stX_sv hlt, sv_ext hlt, sv_ext_sv hlt, ha5, hb1, hml, hb4]))) ?_
    refine hR _ _ (K13 _ _ ?_); clear hR R; try clear K13 Z13
    try simp only [go_sem, ldS_at hd, stX_at hd, ldS_sv hlt, stX_sv hlt, sv_ext hlt, sv_ext_sv hlt, ha5, hb1, hml, hb4]
    refine W_region [0, 2, 4, 6, 7, 8, 9, 10] fun R hR => ?_
    simp only [go_sem, ldS_at hd, stX_at hd, ldS_sv hlt, stX_sv hlt, sv_ext hlt, sv_ext_sv hlt, ha5, hb1, hml, hb4]
    try simp (disch := omega) only [wrapI, wrapU]
    refine hR _ _ (K12 _ _ ?_); clear hR R; try clear K12 Z12
    try simp only [go_sem, ldS_at hd, stX_at hd, ldS_sv hlt, stX_sv hlt, sv_ext hlt, sv_ext_sv hlt, ha5, hb1, hml, hb4]
    refine W_region [0, 2, 4, 6, 7, 8, 9, 10] fun R hR => ?_
    simp only [go_sem, ldS_at hd, stX_at hd, ldS_sv hlt, stX_sv hlt, sv_ext hlt, sv_ext_sv hlt, ha5, hb1, hml, hb4]
    try simp (disch := omega) only [wrapI, wrapU]
    refine hR _ _ ?_; clear hR R
    try simp only [go_sem, ldS_at hd, stX_at hd, ldS_sv hlt, stX_sv hlt, sv_ext hlt, sv_ext_sv hlt, ha5, hb1, hml, hb4]
    refine ⟨(j + 1, here + 1, op2 ++ [sealedE s i j ml], ab2, b4), ?_, by (try simp only []); omega, ?_⟩
    ·first | exact Weak.refl | exact Wqq
    try dsimp only
    refine ⟨by omega, by omega, ?_, ?_, ?_⟩
    ·first | omega | (simp; omega)
    ·first | omega | (simp; omega)
    first
    | (rw [hinv2, if_pos (by simpa using c3)]; done)
    | (rw [hinv2, if_neg (by simpa using c3)]; simp [g1]; done)
    | (rw [hinv2, if_neg (by simpa using c3)]; simp [g1, c4]; done)
   simp only [go_sem, ldS_at hd, stX_at hd, ldS_sv hlt, stX_sv hlt, sv_ext hlt, sv_ext_sv hlt, ha5, hb1]
   refine GCall_of (Rare_pc Y _ d b (by first | exact hd | exact sv_get hlt | exact get_svx hlt | exact get_extx hd) 5 (by omega)) ?_
   simp only [go_sem, ldS_at hd, stX_at hd, ldS_sv hlt, stX_sv hlt, sv_ext hlt, sv_ext_sv hlt, ha5, hb1]
   refine GWant_split (fun g2 => ?_) (fun g2 => ?_)
   ·try simp only [Bool.not_eq_true', Bool.not_eq_false'] at g2
    have n2 := g2; try simp only [nrm] at n2
    simp only [go_sem, ldS_at hd, stX_at hd, ldS_sv hlt, stX_sv hlt, sv_ext hlt, sv_ext_sv hlt, ha5, hb1, g2]
    refine GWant_split (fun g3 => ?_) (fun g3 => ?_)
    ·try simp only [Bool.not_eq_true', Bool.not_eq_false'] at g3
     have n3 := g3; try simp only [nrm] at n3
     simp only [go_sem, ldS_at hd, stX_at hd, ldS_sv hlt, stX_sv hlt, sv_ext hlt, sv_ext_sv hlt, ha5, hb1, g2, g3]
     try simp (disch := omega) only [wrapI, wrapU]
     refine hR _ _ ?_ ?_
     all_goals try simp only [go_sem, ldS_at hd, stX_at hd, ldS_sv hlt, stX_sv hlt, sv_ext hlt, sv_ext_sv hlt, ha5, hb1]
     all_goals
      first | rfl | (simp [*]; done) | (simp [*]; omega)
    try simp only [Bool.not_eq_true', Bool.not_eq_false'] at g3
    have n3 := g3; try simp only [nrm] at n3
    simp only [go_sem, ldS_at hd, stX_at hd, ldS_sv hlt, stX_sv hlt, sv_ext hlt, sv_ext_sv hlt, ha5, hb1, g2, g3]
    try simp (disch := omega) only [wrapI, wrapU]
    refine hR _ _ ?_ ?_
    all_goals try simp only [go_sem, ldS_at hd, stX_at hd, ldS_sv hlt, stX_sv hlt, sv_ext hlt, sv_ext_sv hlt, ha5, hb1]
    all_goals
     first | rfl | (simp [*]; done) | (simp [*]; omega)
   try simp only [Bool.not_eq_true', Bool.not_eq_false'] at g2
   have n2 := g2; try simp only [nrm] at n2
   simp only [go_sem, ldS_at hd, stX_at hd, ldS_sv hlt, stX_sv hlt, sv_ext hlt, sv_ext_sv hlt, ha5, hb1, g2]
   try simp (disch := omega) only [wrapI, wrapU]
   refine hR _ _ ?_ ?_
   all_goals try simp only [go_sem, ldS_at hd, stX_at hd, ldS_sv hlt, stX_sv hlt, sv_ext hlt, sv_ext_sv hlt, ha5, hb1]
   all_goals
    first | rfl | (simp [*]; done) | (simp [*]; omega)
  try simp only [nrm] at c2
  have hje : J = j := by first | omega | (simp at c2; omega)
  subst hje
  rw [Nat.sub_self] at hinv2
  simp only [nightJ, dret] at hinv2
  refine W_exit ?_
  simp only [go_sem, ldS_at hd, stX_at hd, ldS_sv hlt, stX_sv hlt, sv_ext hlt, sv_ext_sv hlt]
  refine K7 _ _ ?_
  refine W_region [0, 2, 4, 6, 7, 8] fun R hR => ?_
  simp only [go_sem, ldS_at hd, stX_at hd, ldS_sv hlt, stX_sv hlt, sv_ext hlt, sv_ext_sv hlt]
  try simp (disch := omega) only [wrapI, wrapU]
  refine hR _ _ ?_; clear hR R
  try simp only [go_sem, ldS_at hd, stX_at hd, ldS_sv hlt, stX_sv hlt, sv_ext hlt, sv_ext_sv hlt]
  refine ⟨(i + 1, op2, ab2, b), ?_, by (try simp only []); omega, ?_⟩
  ·first | exact Weak.refl | exact Wqq
  try dsimp only
  exact ⟨by omega, by omega, by omega, by rw [hinv, hinv2]⟩
 try simp only [nrm] at c1
 have hie : M = i := by first | omega | (simp at c1; omega)
 subst hie
 rw [Nat.sub_self] at hinv
 simp only [nightM, dret] at hinv
 rw [hinv] at hres
 simp only [finesD, dbind] at hres
 obtain ⟨q4, hq4⟩ : ∃ zz, (roll 4 b).1 = zz := ⟨_, rfl⟩
 obtain ⟨b1, hb1⟩ : ∃ zz, (roll 4 b).2 = zz := ⟨_, rfl⟩
 have dq4 := roll_bd 4 b
 simp only [hq4] at dq4
 obtain ⟨nf, hnf⟩ : ∃ zz, (anyOf [0, 0, q4] b1).1 = zz := ⟨_, rfl⟩
 obtain ⟨b2, hb2⟩ : ∃ zz, (anyOf [0, 0, q4] b1).2 = zz := ⟨_, rfl⟩
 have dnf := anyOf_mem [0, 0, q4] (by simp) b1
 simp only [hnf] at dnf
 simp only [hq4, hb1, hnf, hb2] at hres
 have hnf3 : 0 ≤ nf ∧ nf ≤ 3 := by rcases mem3 dnf with h | h | h <;> omega
 obtain ⟨n4, hn4⟩ : ∃ z : Nat, nf = z := ⟨nf.toNat, by omega⟩
 subst hn4
 simp only [Int.toNat_natCast] at hres
 refine W_exit ?_
 simp only [go_sem, ldS_at hd, stX_at hd, ldS_sv hlt, stX_sv hlt, sv_ext hlt, sv_ext_sv hlt, hq4, hb1, hnf, hb2]
 refine K3 _ _ ?_
 refine W_seq fun Z17 K17 => ?_
 refine W_sr [0, 4, 6, 7, 11] fun R hR => ?_
 simp only [go_sem, ldS_at hd, stX_at hd, ldS_sv hlt, stX_sv hlt, sv_ext hlt, sv_ext_sv hlt, hq4, hb1, hnf, hb2]
 refine GCall_of (Roll_pc Y _ d b (by first | exact hd | exact sv_get hlt | exact get_svx hlt | exact get_extx hd) 4 (by omega)) ?_
 simp only [go_sem, ldS_at hd, stX_at hd, ldS_sv hlt, stX_sv hlt, sv_ext hlt, sv_ext_sv hlt, hq4, hb1, hnf, hb2]
 refine GCall_of (Any_pc Y _ d b1 (by first | exact hd | exact sv_get hlt | exact get_svx hlt | exact get_extx hd) [0, 0, q4] (by simp) (by simp)) ?_
 simp only [go_sem, ldS_at hd, stX_at hd, ldS_sv hlt, stX_sv hlt, sv_ext hlt, sv_ext_sv hlt, hq4, hb1, hnf, hb2]
 refine hR _ _ ?_; clear hR R
 try simp only [go_sem, ldS_at hd, stX_at hd, ldS_sv hlt, stX_sv hlt, sv_ext hlt, sv_ext_sv hlt, hq4, hb1, hnf, hb2]
 refine W_block ?_
 obtain ⟨R2, hR2⟩ : ∃ z, finesC s.schools n4 [] b2 = z := ⟨_, rfl⟩
 rw [hR2] at hres
 refine W_loopT (α := Nat × (List (Int × Int)) × Int) (fun ⟨k, fi, b⟩ => [(11, I k)]) (fun ⟨k, fi, b⟩ => (σ.setVar d [.int .u64 b]).ext [some (scCells s), some [.isl [] .exact, .isl [] .exact, .isl [] .exact], some [.isl (op.map evPV) (.tok σ.rooms.length op.length 4), .isl (ab.map stPV) (.tok (σ.rooms.length + 1) ab.length 2), .isl (fi.map stPV) (.tok (σ.rooms.length + 2) fi.length 2)]] [op.length, ab.length, fi.length]) (fun ⟨k, fi, b⟩ => fi.length + k ≤ 3 ∧ R2 = finesC s.schools k fi b) (fun ⟨k, fi, b⟩ => k) ((n4, [], b2)) rfl (by first | rfl | (simp only [go_sem]; done) | (simp only [go_sem]; rfl)) (⟨by simp; omega, hR2.symm⟩) ?_
 rintro ⟨k, fi, b⟩ ⟨hk, hinv3⟩
 refine W_seq fun Z19 K19 => ?_
 refine W_sr [0, 4, 6, 7, 11, 76] fun R hR => ?_
 simp only [go_sem, ldS_at hd, stX_at hd, ldS_sv hlt, stX_sv hlt, sv_ext hlt, sv_ext_sv hlt, hq4, hb1, hnf, hb2]
 refine hR _ _ ?_; clear hR R
 try simp only [go_sem, ldS_at hd, stX_at hd, ldS_sv hlt, stX_sv hlt, sv_ext hlt, sv_ext_sv hlt, hq4, hb1, hnf, hb2]
 refine W_cond rfl (fun c5 => ?_) (fun c5 => ?_)
 ·
  try simp only [nrm] at c5
  obtain ⟨k, rfl⟩ : ∃ z, k = z + 1 := ⟨k - 1, by first | omega | (simp at c5; omega)⟩
  simp only [finesC, dbind] at hinv3
  obtain ⟨fa, hfa⟩ : ∃ zz, (roll s.schools b).1 = zz := ⟨_, rfl⟩
  obtain ⟨b1, hb1⟩ : ∃ zz, (roll s.schools b).2 = zz := ⟨_, rfl⟩
  have dfa := roll_bd s.schools b
  simp only [hfa] at dfa
  obtain ⟨fy, hfy⟩ : ∃ zz, (anyOf [3, 100] b1).1 = zz := ⟨_, rfl⟩
  obtain ⟨b2, hb2⟩ : ∃ zz, (anyOf [3, 100] b1).2 = zz := ⟨_, rfl⟩
  have dfy := anyOf_mem [3, 100] (by simp) b1
  simp only [hfy] at dfy
  obtain ⟨fp, hfp⟩ : ∃ zz, (roll fy b2).1 = zz := ⟨_, rfl⟩
  obtain ⟨b3, hb3⟩ : ∃ zz, (roll fy b2).2 = zz := ⟨_, rfl⟩
  have dfp := roll_bd fy b2
  simp only [hfp] at dfp
  simp only [hfa, hb1, hfy, hb2, hfp, hb3] at hinv3
  have hfyb : 0 ≤ fy ∧ fy ≤ 100 := by rcases mem2 dfy with h | h <;> omega
  refine W_skip (K19 _ _ ?_)
  refine W_seq fun Z21 K21 => ?_
  refine W_block ?_
  refine W_draw [0, 4, 6, 7, 11] [0, 1, 2, 3, 4, 5, 6, 7, 8, 9, 10, 11, 12, 13, 14, 15] [(0, 9), (0, 10), (0, 13), (1, 9), (1, 10), (1, 13), (6, 5), (6, 10), (7, 5), (8, 5)] [[], [0], [], [], [3], [2, 3, 4], [], [], [], [2, 3, 4, 5, 7, 8], [2, 3, 4, 5, 6, 7, 8, 9], [2, 3, 4, 5, 6, 7, 8, 9, 10], [2, 3, 4, 5, 6, 7, 8, 9, 10, 11], [0, 1, 2, 3, 4, 5, 6, 7, 8, 9, 10, 11, 12], [0, 1, 2, 3, 4, 5, 6, 7, 8, 9, 10, 11, 12, 13], [0, 1, 2, 3, 4, 5, 6, 7, 8, 9, 10, 11, 12, 13, 14]] mixed (by kernel_rfl) fun R hR => ?_
  simp only [go_sem, ldS_at hd, stX_at hd, ldS_sv hlt, stX_sv hlt, sv_ext hlt, sv_ext_sv hlt, hq4, hb1, hnf, hb2, hfa, hb1, hfy, hb2, hfp, hb3]
  refine GCall_of (Roll_pc Y _ d b (by first | exact hd | exact sv_get hlt | exact get_svx hlt | exact get_extx hd) s.schools (by omega)) ?_
  simp only [go_sem, ldS_at hd, stX_at hd, ldS_sv hlt, stX_sv hlt, sv_ext hlt, sv_ext_sv hlt, hq4, hb1, hnf, hb2, hfa, hb1, hfy, hb2, hfp, hb3]
  refine GCall_of (Any_pc Y _ d b1 (by first | exact hd | exact sv_get hlt | exact get_svx hlt | exact get_extx hd) [3, 100] (by simp) (by simp)) ?_
  simp only [go_sem, ldS_at hd, stX_at hd, ldS_sv hlt, stX_sv hlt, sv_ext hlt, sv_ext_sv hlt, hq4, hb1, hnf, hb2, hfa, hb1, hfy, hb2, hfp, hb3]
  refine GCall_of (Roll_pc Y _ d b2 (by first | exact hd | exact sv_get hlt | exact get_svx hlt | exact get_extx hd) fy (by omega)) ?_
  simp only [go_sem, ldS_at hd, stX_at hd, ldS_sv hlt, stX_sv hlt, sv_ext hlt, sv_ext_sv hlt, hq4, hb1, hnf, hb2, hfa, hb1, hfy, hb2, hfp, hb3]
  try simp (disch := first | omega | (simp only [go_sem] <;> omega)) only [wrapI, wrapU, appX_exact, appX_tok]
  try simp only [go_sem, ldS_at hd, stX_at hd, ldS_sv hlt, stX_sv hlt, sv_ext hlt, sv_ext_sv hlt, hq4, hb1, hnf, hb2, hfa, hb1, hfy, hb2, hfp, hb3]
  try refine And.intro (by repeat' (first | refine And.intro ?_ ?_ | exact GOr_right (fun _ => by simp only [go_sem, ldS_at hd, stX_at hd, ldS_sv hlt, stX_sv hlt, sv_ext hlt, sv_ext_sv hlt, hq4, hb1, hnf, hb2, hfa, hb1, hfy, hb2, hfp, hb3]))) ?_
  refine hR _ _ (K21 _ _ ?_); clear hR R; try clear K21 Z21
  try simp only [go_sem, ldS_at hd, stX_at hd, ldS_sv hlt, stX_sv hlt, sv_ext hlt, sv_ext_sv hlt, hq4, hb1, hnf, hb2, hfa, hb1, hfy, hb2, hfp, hb3]
  refine W_region [0, 4, 6, 7, 11] fun R hR => ?_
  simp only [go_sem, ldS_at hd, stX_at hd, ldS_sv hlt, stX_sv hlt, sv_ext hlt, sv_ext_sv hlt, hq4, hb1, hnf, hb2, hfa, hb1, hfy, hb2, hfp, hb3]
  try simp (disch := omega) only [wrapI, wrapU]
  refine hR _ _ ?_; clear hR R
  try simp only [go_sem, ldS_at hd, stX_at hd, ldS_sv hlt, stX_sv hlt, sv_ext hlt, sv_ext_sv hlt, hq4, hb1, hnf, hb2, hfa, hb1, hfy, hb2, hfp, hb3]
  refine ⟨(k, fi ++ [(fa, fp)], b3), ?_, by (try simp only []); omega, ?_⟩
  ·first | exact Weak.refl | exact Wqq
  try dsimp only
  exact ⟨by simp; omega, hinv3⟩
 try simp only [nrm] at c5
 have hke : k = 0 := by first | omega | (simp at c5; omega)
 subst hke
 simp only [finesC, dret] at hinv3
 rw [hinv3] at hres
 simp only [] at hres
 obtain ⟨od, hod⟩ : ∃ zz, (orderDm op.length b).1 = zz := ⟨_, rfl⟩
 obtain ⟨b1, hb1⟩ : ∃ zz, (orderDm op.length b).2 = zz := ⟨_, rfl⟩
 have dod := orderDm_perm op.length b
 simp only [hod] at dod
 simp only [hod, hb1, dret] at hres
 refine W_exit ?_
 simp only [go_sem, ldS_at hd, stX_at hd, ldS_sv hlt, stX_sv hlt, sv_ext hlt, sv_ext_sv hlt, hq4, hb1, hnf, hb2, hod, hb1]
 refine K17 _ _ ?_
 refine W_sr [6, 7, 12] fun R hR => ?_
 simp only [go_sem, ldS_at hd, stX_at hd, ldS_sv hlt, stX_sv hlt, sv_ext hlt, sv_ext_sv hlt, hq4, hb1, hnf, hb2, hod, hb1]
 refine GCall_of (Order_pc Y _ d b (by first | exact hd | exact sv_get hlt | exact get_svx hlt | exact get_extx hd) op.length (by omega)) ?_
 simp only [go_sem, ldS_at hd, stX_at hd, ldS_sv hlt, stX_sv hlt, sv_ext hlt, sv_ext_sv hlt, hq4, hb1, hnf, hb2, hod, hb1]
 refine hR _ _ ?_; clear hR R
 try simp only [go_sem, ldS_at hd, stX_at hd, ldS_sv hlt, stX_sv hlt, sv_ext hlt, sv_ext_sv hlt, hq4, hb1, hnf, hb2, hod, hb1]
 refine W_sr [6, 7, 12, 13] fun R hR => ?_
 simp only [go_sem, ldS_at hd, stX_at hd, ldS_sv hlt, stX_sv hlt, sv_ext hlt, sv_ext_sv hlt, hq4, hb1, hnf, hb2, hod, hb1]
 refine hR _ _ ?_; clear hR R
 try simp only [go_sem, ldS_at hd, stX_at hd, ldS_sv hlt, stX_sv hlt, sv_ext hlt, sv_ext_sv hlt, hq4, hb1, hnf, hb2, hod, hb1]
 refine W_seq fun Z24 K24 => ?_
 refine W_sr [6, 7, 12, 13, 14] fun R hR => ?_
 simp only [go_sem, ldS_at hd, stX_at hd, ldS_sv hlt, stX_sv hlt, sv_ext hlt, sv_ext_sv hlt, hq4, hb1, hnf, hb2, hod, hb1]
 refine hR _ _ ?_; clear hR R
 try simp only [go_sem, ldS_at hd, stX_at hd, ldS_sv hlt, stX_sv hlt, sv_ext hlt, sv_ext_sv hlt, hq4, hb1, hnf, hb2, hod, hb1]
 refine W_block ?_
 have hol : od.length = op.length := by rw [dod.length_eq]; simp
 refine W_weak (Weak.room (t := 13) (es := 4) rfl (by simp)) ?_
 refine W_weak (Weak.keep [6, 7, 12, 13, 14]) ?_
 simp only [go_sem, ldS_at hd, stX_at hd, ldS_sv hlt, stX_sv hlt, sv_ext hlt, sv_ext_sv hlt, hq4, hb1, hnf, hb2, hod, hb1]
 refine W_loopT (α := Nat) (fun (i : Nat) => [(13, .isl ((pickE op (od.take i)).map evPV) (.tok (σ.rooms.length + 3) i 4)), (14, I i)]) (fun (i : Nat) => (σ.setVar d [.int .u64 b1]).ext [some (scCells s), some [.isl [] .exact, .isl [] .exact, .isl [] .exact], some [.isl (op.map evPV) (.tok σ.rooms.length op.length 4), .isl (ab.map stPV) (.tok (σ.rooms.length + 1) ab.length 2), .isl (fi.map stPV) (.tok (σ.rooms.length + 2) fi.length 2)]] [op.length, ab.length, fi.length, i]) (fun (i : Nat) => i ≤ od.length) (fun (i : Nat) => od.length - i) (0) rfl (by first | rfl | (simp only [go_sem]; done) | (simp only [go_sem]; rfl)) (Nat.zero_le _) ?_
 rintro i hi
 refine W_seq fun Z26 K26 => ?_
 refine W_sr [6, 7, 12, 13, 14, 102] fun R hR => ?_
 simp only [go_sem, ldS_at hd, stX_at hd, ldS_sv hlt, stX_sv hlt, sv_ext hlt, sv_ext_sv hlt, hq4, hb1, hnf, hb2, hod, hb1]
 refine hR _ _ ?_; clear hR R
 try simp only [go_sem, ldS_at hd, stX_at hd, ldS_sv hlt, stX_sv hlt, sv_ext hlt, sv_ext_sv hlt, hq4, hb1, hnf, hb2, hod, hb1]
 refine W_cond rfl (fun c6 => ?_) (fun c6 => ?_)
 ·
  try simp only [nrm] at c6
  have hi' : i < od.length := by first | omega | (simp at c6; omega)
  obtain ⟨x, hx⟩ : ∃ x, od[i]? = some x := ⟨od[i], by simp [hi']⟩
  obtain ⟨y, rfl, hy⟩ : ∃ y : Nat, x = y ∧ y < op.length := by
   obtain ⟨y, h1, h2⟩ := List.mem_map.1 (dod.mem_iff.1 (List.mem_of_getElem? hx))
   exact ⟨y, h2.symm, List.mem_range.1 h1⟩
  obtain ⟨e, he⟩ : ∃ e, op[y]? = some e := ⟨op[y], by simp [hy]⟩
  have hpl : (pickE op (od.take i)).length = i := by simp [pickE]; omega
  have hpk : pickE op (od.take (i + 1)) = pickE op (od.take i) ++ [e] := by rw [List.take_add_one, hx]; simp [pickE, he]
  refine W_skip (K26 _ _ ?_)
  refine W_seq fun Z28 K28 => ?_
  refine W_block ?_
  refine W_draw [6, 7, 12, 13, 14] [0, 1, 2, 3, 4, 5, 6, 7, 8, 9, 10, 11] [] [[], [], [1], [], [], [3, 4], [3, 4, 5], [1, 2, 3, 4, 5, 6], [1, 2, 3, 4, 5, 6, 7], [1, 2, 3, 4, 5, 6, 7, 8], [0, 1, 2, 3, 4, 5, 6, 7, 8, 9], [0, 1, 2, 3, 4, 5, 6, 7, 8, 9, 10]] mixed (by kernel_rfl) fun R hR => ?_
  simp only [go_sem, ldS_at hd, stX_at hd, ldS_sv hlt, stX_sv hlt, sv_ext hlt, sv_ext_sv hlt, hq4, hb1, hnf, hb2, hod, hb1, hx, he]
  try simp (disch := first | omega | (simp only [go_sem] <;> omega)) only [wrapI, wrapU, appX_exact, appX_tok]
  try simp only [go_sem, ldS_at hd, stX_at hd, ldS_sv hlt, stX_sv hlt, sv_ext hlt, sv_ext_sv hlt, hq4, hb1, hnf, hb2, hod, hb1, hx, he]
  try refine And.intro (by repeat' (first | refine And.intro ?_ ?_ | exact GOr_right (fun _ => by simp only [go_sem, ldS_at hd, stX_at hd, ldS_sv hlt, stX_sv hlt, sv_ext hlt, sv_ext_sv hlt, hq4, hb1, hnf, hb2, hod, hb1, hx, he]))) ?_
  refine hR _ _ (K28 _ _ ?_); clear hR R; try clear K28 Z28
  try simp only [go_sem, ldS_at hd, stX_at hd, ldS_sv hlt, stX_sv hlt, sv_ext hlt, sv_ext_sv hlt, hq4, hb1, hnf, hb2, hod, hb1, hx, he]
  refine W_region [6, 7, 12, 13, 14] fun R hR => ?_
  simp only [go_sem, ldS_at hd, stX_at hd, ldS_sv hlt, stX_sv hlt, sv_ext hlt, sv_ext_sv hlt, hq4, hb1, hnf, hb2, hod, hb1, hx, he]
  try simp (disch := omega) only [wrapI, wrapU]
  refine hR _ _ ?_; clear hR R
  try simp only [go_sem, ldS_at hd, stX_at hd, ldS_sv hlt, stX_sv hlt, sv_ext hlt, sv_ext_sv hlt, hq4, hb1, hnf, hb2, hod, hb1, hx, he]
  refine ⟨i + 1, ?_, by (try simp only []); omega, ?_⟩
  ·refine Weak.eq (by first | rfl | (simp only [go_sem, hpk, hpl, List.map_append]; done) | (simp [go_sem, hpk, hpl]; done)) ?_
   simp only [go_sem, hpl]
  try dsimp only
  omega
 try simp only [nrm] at c6
 have hie : od.length = i := by first | omega | (simp at c6; omega)
 subst hie
 simp only [List.take_length, hol]
 refine W_exit ?_
 simp only [go_sem, ldS_at hd, stX_at hd, ldS_sv hlt, stX_sv hlt, sv_ext hlt, sv_ext_sv hlt, hq4, hb1, hnf, hb2, hod, hb1]
 refine K24 _ _ ?_
 refine W_sr [6, 7] fun R hR => ?_
 simp only [go_sem, ldS_at hd, stX_at hd, ldS_sv hlt, stX_sv hlt, sv_ext hlt, sv_ext_sv hlt, hq4, hb1, hnf, hb2, hod, hb1]
 refine hR _ _ ?_; clear hR R
 try simp only [go_sem, ldS_at hd, stX_at hd, ldS_sv hlt, stX_sv hlt, sv_ext hlt, sv_ext_sv hlt, hq4, hb1, hnf, hb2, hod, hb1]
 refine W_sr [6] fun R hR => ?_
 simp only [go_sem, ldS_at hd, stX_at hd, ldS_sv hlt, stX_sv hlt, sv_ext hlt, sv_ext_sv hlt, hq4, hb1, hnf, hb2, hod, hb1]
 refine hR _ _ ?_; clear hR R
 try simp only [go_sem, ldS_at hd, stX_at hd, ldS_sv hlt, stX_sv hlt, sv_ext hlt, sv_ext_sv hlt, hq4, hb1, hnf, hb2, hod, hb1]
 refine W_ret ?_
 simp only [go_sem, ldS_at hd, stX_at hd, ldS_sv hlt, stX_sv hlt, sv_ext hlt, sv_ext_sv hlt, hq4, hb1, hnf, hb2, hod, hb1]
 refine ⟨.inr (by trivial), ?_⟩
 rw [← hres]; refine Fin_set hcl (by simp only [go_sem]) (by show resPV Tryz.prog _ _ [.cell 6 35] = some _; simp only [resPV, go_sem]; rfl) (Wk.ro (by simp only [go_sem]) ?_)
 try simp only [go_sem]
 all_goals
  rw [← hol, List.take_length]
end Go.Proofs.YtpiepcplalkfiaaGreatDoor
