/-
  Walks: scales, judges, marks, seals (marks).
  Walks: what is known of judges (marks).
  A slice of numbers that grows in place in a variable's cell, is sorted, compacted, and read at last.
  Walks: what is known of a night, or its first error (marks).
  Sorting, as the library does it.
  Walks: rows sorted; the points of a school in a matter (marks).
  What is done to texts at this seat's types.
  Builders and decimal numerals, as the library makes them.
  Walks: a builder is written to; what it holds becomes a string.
  The pure reading, run: calls of closed arguments that hand back plain values, run from nothing, are as they were in every state; such calls remembered.
  Numbers sorted, as a run can do it.
  Calls that a run takes from contracts: builders, numbers as text, compacting.
-/
import Derived.Test.YtpiepcplalkfiaaGreatDoorPd
import Derived.CallsIn
import Derived.RangeFuncLeaves
import Derived.RangeFuncRecord
import Derived.OrdersIn
import Derived.Below
import Derived.Laws.World
import Derived.Laws.StructEq
import Derived.Laws.BytesString
import Derived.Laws.Append
import Derived.MapKept
import Derived.ProofKit
import Derived.Carry
import Derived.Handed
import Derived.ChangeCalls
import Derived.Stop.Joined
import Derived.Lib.LaidTab
import Derived.Shelf.Strconv.Itoa3
import Derived.RangeFuncIn
import Derived.RangeFuncNested
import Derived.Sort.OwnSortedInts
import Derived.Lib.SlicesCompact
import Derived.Test.YtpiepcplalkfiaaGreatDoorProg
import Derived.KernelRfl
import Derived.IntWalk
import Derived.Shelf.Sort.Plain
import Derived.Shelf.Slices.In.SortNone
import Derived.Shelf.Small.Bits
import Derived.Shelf.Strings.Builder1
import Derived.Test.YtpiepcplalkfiaaGreatDoorCards
import Derived.Test.YtpiepcplalkfiaaGreatDoorTie
import Derived.JoinedOf
import Derived.LaidMore
import Derived.LaidSub
import Derived.Lay
import Derived.SevenTiedAt
import Derived.Lib.LaidU8
import Derived.Shelf.Vars
set_option linter.unusedSimpArgs false
set_option linter.unusedVariables false
namespace Go.Proofs.YtpiepcplalkfiaaGreatDoor
open Go Go.RowKit
set_option maxRecDepth 100000
theorem ncmp_neq {l : List Int} : nilCmp Tryz.prog .neq 22 (mkPV l) = some (.bool (!l.isEmpty)) := by simp only [nilCmp, nilmk, Option.map_some]
theorem ncmp_eql {l : List Int} : nilCmp Tryz.prog .eql 22 (mkPV l) = some (.bool l.isEmpty) := by simp only [nilCmp, nilmk, Option.map_some]
attribute [go_sem] ncmp_neq ncmp_eql
end Go.Proofs.YtpiepcplalkfiaaGreatDoor
namespace Go.Proofs.YtpiepcplalkfiaaGreatDoor
open Go Go.RowKit
set_option maxRecDepth 100000
theorem cells_map {a : Nat} : (PV.map a).cells = [PV.map a] := rfl
theorem cells_nilmap : PV.nilmap.cells = [PV.nilmap] := rfl
theorem cells_yield {a : Nat} : (PV.yield a).cells = [PV.yield a] := rfl
theorem cells_msl {a b c : Nat} : (PV.msl a b c).cells = [PV.msl a b c] := rfl
attribute [go_sem] cells_map cells_nilmap cells_yield cells_msl
end Go.Proofs.YtpiepcplalkfiaaGreatDoor
namespace Go.Proofs.YtpiepcplalkfiaaGreatDoor
open Go Go.RowKit
/-- A slice of numbers that grows in place: nothing yet, or the last of a row of variables (those before it are gone). -/
def glI (n : Nat) (out : List Int) : PV := match out with
  | [] => .gnil
  | _ :: t => .gsl (n + t.length) (t.length + 1) 1
def gsI (out : List Int) : List (Option (List PV)) := match out with
  | [] => []
  | _ :: t => List.replicate t.length none ++ [some (out.map I)]
theorem gsI_len (out : List Int) : (gsI out).length = out.length := by cases out <;> simp [gsI]
theorem glI_cells (n : Nat) (out : List Int) : (glI n out).cells = [glI n out] := by cases out <;> rfl
theorem glI_scalar (n : Nat) (out : List Int) : (glI n out).scalar = true := by cases out <;> rfl
theorem glI_defd (n : Nat) (out : List Int) : defd (glI n out) = true := by cases out <;> rfl
theorem appendAny_gl {P : Program} {σ : Sg} {t t' : TypeId} {n : Nat} {out : List Int} {m : List PV} {o : Own} : appendAny P σ t t' (glI n out) (.isl m o) = appendG P σ t t' (glI n out) (.isl m o) := by cases out <;> rfl
theorem cells_gsl (a b c : Nat) : (PV.gsl a b c).cells = [PV.gsl a b c] := rfl
theorem cells_gnil : PV.gnil.cells = [PV.gnil] := rfl
attribute [go_sem] appendAny_gl cells_gsl cells_gnil
attribute [go_sem high] glI_cells glI_scalar glI_defd
theorem stX_glI {σ : Sg} {l : List (Option (List PV))} {rm : List Nat} {ys : List LState} {j off n : Nat} {out : List Int} : stX 1 (σ.ext l rm ys) (σ.store.length + j) off (glI n out) = match l[j]? with
    | some (some cs) => if off + 1 ≤ cs.length then some (σ.ext (l.set j (some (putCells cs off [glI n out]))) rm ys) else none
    | _ => none := by
  simp only [stX_ext, glI_defd, glI_cells, List.all_cons, List.all_nil, glI_scalar]
  rcases l[j]? with _ | _ | cs <;> simp
attribute [go_sem high] stX_glI
theorem glI_clean {a b c n : Nat} {out : List Int} (h : n + out.length ≤ a) : Clean a b c (glI n out) := by
  cases out with
  | nil => exact .gnil
  | cons x out => exact .gsl _ _ _ (by simp at h; omega)
theorem CleanLs_append {a b c : Nat} {l m : List (Option (List PV))} (h : CleanLs a b c l) (k : CleanLs a b c m) : CleanLs a b c (l ++ m) := fun cs hcs => by
  rcases List.mem_append.1 hcs with h' | h'
  · exact h cs h'
  · exact k cs h'
theorem CleanLs_rep {a b c : Nat} (n : Nat) : CleanLs a b c (List.replicate n none) := fun cs hcs => by
  have := List.eq_of_mem_replicate hcs
  cases this
theorem gsI_clean {a b c : Nat} (out : List Int) : CleanLs a b c (gsI out) := by
  cases out with
  | nil => simp only [gsI, CleanLs_nil]
  | cons x out =>
    refine CleanLs_append (CleanLs_rep _) ?_
    simp only [CleanLs_cons, CleanLs_nil, and_true]
    intro p hp
    obtain ⟨y, _, rfl⟩ := List.mem_map.1 hp
    exact .int _ _
section
variable {σ : Sg} {A : List (Option (List PV))} {rm : List Nat} {ys : List LState} {N : Nat} {lo : Nat × Nat} {E : Env} {out : List Int}
theorem get_mid {α : Type} {A B : List α} {x : α} : (A ++ x :: B)[A.length]? = some x := by simp
theorem set_mid {α : Type} {A B : List α} {x y : α} : (A ++ x :: B).set A.length y = A ++ y :: B := by simp
theorem gsI_get {x : Int} : (A ++ gsI (x :: out))[A.length + out.length]? = some (some ((x :: out).map I)) := by
  have : A.length + out.length = (A ++ List.replicate out.length (none : Option (List PV))).length := by simp
  rw [this, gsI, ← List.append_assoc]
  exact get_mid
theorem gsI_set {x : Int} {y : Option (List PV)} : (A ++ gsI (x :: out)).set (A.length + out.length) y = A ++ (List.replicate out.length none ++ [y]) := by
  have : A.length + out.length = (A ++ List.replicate out.length (none : Option (List PV))).length := by simp
  rw [this, gsI, ← List.append_assoc, ← List.append_assoc]
  exact set_mid
theorem appG_gl (x : Int) (h : (out.length + 1) * 8 ≤ 2 ^ 47) : appG 1 8 (σ.ext (A ++ gsI out) rm ys) (glI (σ.store.length + A.length) out) [I x] = some (glI (σ.store.length + A.length) (out ++ [x]), σ.ext (A ++ gsI (out ++ [x])) rm ys) := by
  cases out with
  | nil =>
    rw [glI, appG_nil (by rfl) (by simp) (by simp)]
    simp [gsI, glI, rowC, Sg.push_ext, Sg.len_ext]
  | cons y out =>
    simp only [glI]
    rw [appG_more (cs := (y :: out).map I) (by rw [Nat.add_assoc, Sg.get_ext]; exact gsI_get) (by simp) (by rfl) (by simp) (by simpa using h)]
    rw [Nat.add_assoc (Sg.store σ).length, Sg.drop_ext, gsI_set]
    simp only [Sg.push_ext, Sg.len_ext, rowC]
    have e : List.replicate (out ++ [x]).length (none : Option (List PV)) = List.replicate out.length none ++ [none] := by simp [List.replicate_succ']
    simp only [List.cons_append, gsI, e]
    simp [Nat.add_assoc]
theorem sortI_nil : sortI [] = [] := by simp [sortI]
theorem glI_sort (n : Nat) : glI n (sortI out) = glI n out := by
  have hl := sortI_len out
  cases h : sortI out with
  | nil =>
    rw [h] at hl
    cases out with
    | nil => rfl
    | cons x out => simp at hl
  | cons y s =>
    rw [h] at hl
    cases out with
    | nil => simp at hl
    | cons x out => simp only [List.length_cons] at hl; simp only [glI]; rw [show s.length = out.length by omega]
theorem sort_gl {P : Program} {Y : YEnv} {f : FuncId} (h : SortsI P f) (hl : out.length < 2 ^ 60) : PC P Y f [glI (σ.store.length + A.length) out] (σ.ext (A ++ gsI out) rm ys) (.tuple []) (σ.ext (A ++ gsI (sortI out)) rm ys) := by
  cases out with
  | nil => rw [sortI_nil]; exact PC_sort0 h
  | cons x out =>
    have h1 := PC_sortI (Y := Y) (σ := σ.ext (A ++ gsI (x :: out)) rm ys) (id := σ.store.length + A.length + out.length) (xs := x :: out) h (by rw [Nat.add_assoc, Sg.get_ext]; exact gsI_get) hl
    rw [Nat.add_assoc, Sg.set_ext, gsI_set] at h1
    have e : A ++ (List.replicate out.length none ++ [some ((sortI (x :: out)).map I)]) = A ++ gsI (sortI (x :: out)) := by
      have hs := sortI_len (x :: out)
      cases hc : sortI (x :: out) with
      | nil => rw [hc] at hs; simp at hs
      | cons y s =>
        rw [hc] at hs
        simp only [List.length_cons] at hs
        simp only [gsI]
        rw [show out.length = s.length by omega]
    rw [e] at h1
    simp only [glI]
    rw [Nat.add_assoc]
    exact h1
/-- Compacted. -/
def glC (n : Nat) (s : List Int) : PV := match s with
  | [] => .gnil
  | _ :: t => .gsl (n + t.length) (Lib.compact s).length 1
theorem glC_cells (n : Nat) (out : List Int) : (glC n out).cells = [glC n out] := by cases out <;> rfl
theorem glC_scalar (n : Nat) (out : List Int) : (glC n out).scalar = true := by cases out <;> rfl
theorem glC_defd (n : Nat) (out : List Int) : defd (glC n out) = true := by cases out <;> rfl
attribute [go_sem high] glC_cells glC_scalar glC_defd
theorem stX_glC {σ : Sg} {l : List (Option (List PV))} {rm : List Nat} {ys : List LState} {j off n : Nat} {out : List Int} : stX 1 (σ.ext l rm ys) (σ.store.length + j) off (glC n out) = match l[j]? with
    | some (some cs) => if off + 1 ≤ cs.length then some (σ.ext (l.set j (some (putCells cs off [glC n out]))) rm ys) else none
    | _ => none := by
  simp only [stX_ext, glC_defd, glC_cells, List.all_cons, List.all_nil, glC_scalar]
  rcases l[j]? with _ | _ | cs <;> simp
attribute [go_sem high] stX_glC
end
end Go.Proofs.YtpiepcplalkfiaaGreatDoor
namespace Go.Proofs.YtpiepcplalkfiaaGreatDoor
open Go Go.RowKit
set_option maxRecDepth 100000
end Go.Proofs.YtpiepcplalkfiaaGreatDoor
namespace Go.Proofs.YtpiepcplalkfiaaGreatDoor
open Go Go.RowKit
set_option maxRecDepth 100000
def lays189_ren : Go.Shelf.Ren := ⟨fun | 189 => 124 | 125 => 84 | 257 => 148 | 128 => 108 | 129 => 109 | 294 => 163 | 295 => 164 | 296 => 165 | 297 => 166 | 298 => 167 | 299 => 168 | 216 => 169 | 300 => 170 | 301 => 171 | 328 => 178 | 329 => 127 | 330 => 128 | 331 => 179 | 332 => 180 | 215 => 181 | 343 => 182 | n => n, fun | 28 => 22 | 3 => 3 | 46 => 149 | 0 => 0 | 51 => 171 | 53 => 104 | 4 => 4 | 183 => 165 | 182 => 164 | 131 => 130 | 5 => 5 | 9 => 9 | 218 => 183 | 222 => 186 | 228 => 206 | 229 => 207 | n => n, fun n => n⟩
theorem lays189 : Lays.n189 Tryz.prog lays189_ren where
  mixed := by kernel_rfl
  f125 := Tryz.func84.trans (congrArg some (by kernel_rfl))
  f128 := Tryz.func108.trans (congrArg some (by kernel_rfl))
  f129 := Tryz.func109.trans (congrArg some (by kernel_rfl))
  f189 := Tryz.func124.trans (congrArg some (by kernel_rfl))
  f215 := Tryz.func181.trans (congrArg some (by kernel_rfl))
  f216 := Tryz.func169.trans (congrArg some (by kernel_rfl))
  f257 := Tryz.func148.trans (congrArg some (by kernel_rfl))
  f294 := Tryz.func163.trans (congrArg some (by kernel_rfl))
  f295 := Tryz.func164.trans (congrArg some (by kernel_rfl))
  f296 := Tryz.func165.trans (congrArg some (by kernel_rfl))
  f297 := Tryz.func166.trans (congrArg some (by kernel_rfl))
  f298 := Tryz.func167.trans (congrArg some (by kernel_rfl))
  f299 := Tryz.func168.trans (congrArg some (by kernel_rfl))
  f300 := Tryz.func170.trans (congrArg some (by kernel_rfl))
  f301 := Tryz.func171.trans (congrArg some (by kernel_rfl))
  f328 := Tryz.func178.trans (congrArg some (by kernel_rfl))
  f329 := Tryz.func127.trans (congrArg some (by kernel_rfl))
  f330 := Tryz.func128.trans (congrArg some (by kernel_rfl))
  f331 := Tryz.func179.trans (congrArg some (by kernel_rfl))
  f332 := Tryz.func180.trans (congrArg some (by kernel_rfl))
  f343 := Tryz.func182.trans (congrArg some (by kernel_rfl))
  t0 := Tryz.underlying0
  a0 := Tryz.isAgg0
  z0 := Tryz.sizeOf0
  v0 := Tryz.zeroValue0
  t3 := Tryz.underlying3
  a3 := Tryz.isAgg3
  z3 := Tryz.sizeOf3
  v3 := Tryz.zeroValue3
  t4 := Tryz.underlying4
  a4 := Tryz.isAgg4
  z4 := Tryz.sizeOf4
  v4 := Tryz.zeroValue4
  t5 := Tryz.underlying5
  a5 := Tryz.isAgg5
  z5 := Tryz.sizeOf5
  v5 := Tryz.zeroValue5
  t9 := Tryz.underlying9
  a9 := Tryz.isAgg9
  z9 := Tryz.sizeOf9
  v9 := Tryz.zeroValue9
  t28 := Tryz.underlying22
  a28 := Tryz.isAgg22
  z28 := Tryz.sizeOf22
  v28 := Tryz.zeroValue22
  t46 := Tryz.underlying149
  a46 := Tryz.isAgg149
  z46 := Tryz.sizeOf149
  v46 := Tryz.zeroValue149
  t51 := Tryz.underlying171
  a51 := Tryz.isAgg171
  z51 := Tryz.sizeOf171
  v51 := Tryz.zeroValue171
  t53 := Tryz.underlying104
  a53 := Tryz.isAgg104
  z53 := Tryz.sizeOf104
  v53 := Tryz.zeroValue104
  t131 := Tryz.underlying130
  a131 := Tryz.isAgg130
  z131 := Tryz.sizeOf130
  v131 := Tryz.zeroValue130
  t182 := Tryz.underlying164
  a182 := Tryz.isAgg164
  z182 := Tryz.sizeOf164
  v182 := Tryz.zeroValue164
  t183 := Tryz.underlying165
  a183 := Tryz.isAgg165
  z183 := Tryz.sizeOf165
  v183 := Tryz.zeroValue165
  t218 := Tryz.underlying183
  a218 := Tryz.isAgg183
  z218 := Tryz.sizeOf183
  v218 := Tryz.zeroValue183
  t222 := Tryz.underlying186
  a222 := Tryz.isAgg186
  z222 := Tryz.sizeOf186
  v222 := Tryz.zeroValue186
  t228 := Tryz.underlying206
  a228 := Tryz.isAgg206
  z228 := Tryz.sizeOf206
  v228 := Tryz.zeroValue206
  t229 := Tryz.underlying207
  a229 := Tryz.isAgg207
  z229 := Tryz.sizeOf207
  v229 := Tryz.zeroValue207
theorem sortsI : SortsI Tryz.prog 124 := ⟨by kernel_rfl, Any.slices_Sort_int_none lays189, Any.slices_Sort_int lays189⟩
end Go.Proofs.YtpiepcplalkfiaaGreatDoor
namespace Go.Proofs.YtpiepcplalkfiaaGreatDoor
open Go Go.RowKit
set_option maxRecDepth 100000
theorem Fin_more {P : Program} {fn : Func} {σ σ' : Sg} {E : Env} {rs : List PV} {v : PV} (hcl : CleanSg σ') (h1 : σ.store.length ≤ σ'.store.length) (h2 : σ.rooms.length ≤ σ'.rooms.length) (h3 : σ'.ys.length = σ.ys.length)
    (hr : resPV P σ' E fn.results.toList = some rs) (hv : Wk σ'.store.length σ'.rooms.length σ.ys.length (oneOr rs) v) : Fin P fn σ v σ' E σ' := by
  refine ⟨rs, _, _, hr, h1, h2, hv, ?_, ?_, h3⟩
  · rw [← h3]; simp [Sg.cut]
  · unfold CleanSg at hcl; rw [h3] at hcl; exact hcl
theorem stX_glI0 {σ : Sg} {l : List (Option (List PV))} {rm : List Nat} {ys : List LState} {off n : Nat} {out : List Int} : stX 1 (σ.ext l rm ys) σ.store.length off (glI n out) = match l[0]? with
    | some (some cs) => if off + 1 ≤ cs.length then some (σ.ext (l.set 0 (some (putCells cs off [glI n out]))) rm ys) else none
    | _ => none := by
  have := stX_glI (σ := σ) (l := l) (rm := rm) (ys := ys) (j := 0) (off := off) (n := n) (out := out)
  exact this
attribute [go_sem high] stX_glI0
theorem take_snoc {l : List Int} {i : Nat} {x : Int} (h : l[i]? = some x) : l.take i ++ [x] = l.take (i + 1) := by rw [List.take_add_one, h]; rfl
set_option maxHeartbeats 2000000 in
theorem values1_pc (Y : YEnv) (σ : Sg) (y id pid n : Nat) (xs : List Int) (τ : Nat → Sg) (hn : n ≤ xs.length) (hnb : n < 2 ^ 40)
    (hst : ∀ t, t ≤ n → (τ t).store[id]? = some (some [.msl pid 0 n])) (hst2 : ∀ t, t ≤ n → (τ t).store[pid]? = some (some (xs.map I)))
    (hY : ∀ t x, t < n → xs[t]? = some x → Y y [I x] (τ t) true (τ (t + 1)))
    (hlen : (τ 0).store.length ≤ (τ n).store.length) (hr : (τ 0).rooms.length ≤ (τ n).rooms.length) (hy : (τ n).ys.length = (τ 0).ys.length) (hcl' : CleanSg (τ 0) → CleanSg (τ n)) :
    PC Tryz.prog Y 125 [.yield y, .ptr id 0] (τ 0) (.tuple []) (τ n) := by
  refine PC_of_W Tryz.func125 rfl (by kernel_rfl) Tryz.ntmps125 (by simp) fun hcl hca => ?_
  have hs00 := hst 0 (Nat.zero_le _)
  refine W_seq fun kz1 kq1 => ?_
  refine W_region [0, 5, 6, 7] fun R hR => ?_   -- r0
  simp only [go_sem, ldS_at hs00]
  refine hR _ _ (kq1 _ _ ?_); clear hR R; try clear kq1 kz1
  try simp only [go_sem]
  refine W_block ?_
  refine W_loopT (α := Nat) (fun (i : Nat) => [(7, I i)]) (fun (i : Nat) => τ i) (fun (i : Nat) => i ≤ n) (fun (i : Nat) => n - i) (0) rfl (by first | rfl | (simp only [go_sem]; done) | (simp only [go_sem]; rfl)) (Nat.zero_le _) ?_
  rintro i hi
  refine W_seq fun kz2 kq2 => ?_
  refine W_region [0, 5, 6, 7, 8] fun R hR => ?_   -- r1
  simp only [go_sem]
  refine hR _ _ (kq2 _ _ ?_); clear hR R; try clear kq2 kz2
  try simp only [go_sem]
  refine W_seq fun kz3 kq3 => ?_
  refine W_cond rfl (fun c1 => ?_) (fun c1 => ?_)
  · -- c1 true
    try simp only [nrm] at c1
    have hin0 : i < n := by first | omega | (simp at c1; omega)
    have hin : (i : Int) < (n : Int) := by omega
    have hs2 := hst2 i (by omega)
    obtain ⟨x, hx⟩ : ∃ z, xs[i]? = some z := ⟨xs[i]'(by omega), by simp⟩
    refine W_skip (kq3 _ _ ?_)
    refine W_seq fun kz4 kq4 => ?_
    refine W_block ?_
    refine W_seq fun kz5 kq5 => ?_
    refine W_region [0, 4, 5, 6, 7] fun R hR => ?_   -- r2
    simp only [go_sem, hx, hin, iaM_nat hin0, Nat.mul_one, Nat.zero_add, ldS_at hs2, List.getElem?_map]
    refine hR _ _ (kq5 _ _ ?_); clear hR R; try clear kq5 kz5
    try simp only [go_sem, hx]
    refine W_seq fun kz6 kq6 => ?_
    refine W_region [0, 5, 6, 7, 14] fun R hR => ?_   -- r3
    simp only [go_sem, hx]
    refine GYield_of (hY i x hin0 hx) ?_
    simp only [go_sem, hx]
    refine hR _ _ (kq6 _ _ ?_); clear hR R; try clear kq6 kz6
    try simp only [go_sem, hx]
    refine W_cond_false rfl ?_
    refine W_skip (kq4 _ _ ?_)
    refine W_region [0, 5, 6, 7] fun R hR => ?_   -- r4
    simp only [go_sem, hx]
    try simp (disch := omega) only [wrapI, wrapU]
    refine hR _ _ ?_; clear hR R
    try simp only [go_sem, hx]
    refine ⟨i + 1, ?_, by (try simp only []); omega, ?_⟩
    · first | exact Weak.refl | exact Weak.eq (by first | rfl | (simp only [go_sem]; done) | (simp only [go_sem]; rfl) | (simp [go_sem]; done) | (simp [go_sem]; omega)) (by first | rfl | (simp only [go_sem]; done) | (simp [go_sem]; done))
    · try dsimp only
      omega
  · -- c1 false
    try simp only [nrm] at c1
    have hie : i = n := by first | omega | (simp at c1; omega)
    subst hie
    refine W_exit ?_
    simp only [go_sem]
    try simp only [go_sem]
    refine ⟨.inl (by trivial), ?_⟩
    exact Fin_more (rs := []) (hcl' hcl) hlen hr hy rfl (Wk.of_clean (.tuple _ Clean.all_nil))
    try simp only [go_sem]
    all_goals
      skip
set_option maxHeartbeats 2000000 in
theorem appendSeq_pc (Y : YEnv) (σ : Sg) (id pid n : Nat) (xs : List Int) (hid : σ.store[id]? = some (some [.msl pid 0 n])) (hpid : σ.store[pid]? = some (some (xs.map I))) (hn : n ≤ xs.length) (hnb : n < 2 ^ 40) :
    PC Tryz.prog Y 147 [.isl [] .exact, .func (.func 125) [] [.ptr id 0]] σ (glI (σ.store.length + 1) (xs.take n)) (σ.ext ([some [glI (σ.store.length + 1) (xs.take n)]] ++ gsI (xs.take n)) []) := by
  refine PC_of_W Tryz.func147 rfl (by kernel_rfl) Tryz.ntmps147 (by simp) fun hcl hca => ?_
  have hxl : (xs.take n).length = n := by simp; omega
  obtain ⟨xn, hxn⟩ : ∃ z, xs.take n = z := ⟨_, rfl⟩
  rw [hxn] at hxl ⊢
  refine W_seq fun kz1 kq1 => ?_
  refine W_region [1, 2] fun R hR => ?_   -- r0
  simp only [go_sem]
  refine hR _ _ (kq1 _ _ ?_); clear hR R; try clear kq1 kz1
  try simp only [go_sem]
  refine W_seq fun kz2 kq2 => ?_
  refine W_seq fun kz3 kq3 => ?_
  refine W_region [2, 6] fun R hR => ?_   -- r1
  simp only [go_sem]
  refine hR _ _ (kq3 _ _ ?_); clear hR R; try clear kq3 kz3
  try simp only [go_sem]
  refine W_block ?_
  let L : List Int → List (Option (List PV)) := fun p => [some [glI (σ.store.length + 1) p]] ++ gsI p
  let so : Nat → Sg := fun t => σ.ext (L (xs.take t)) [] [.ready]
  have hLc : ∀ p (n r y : Nat), σ.store.length + 1 + p.length ≤ n → CleanLs n r y (L p) := fun p n r y h1 => by
    refine CleanLs_append ?_ (gsI_clean _)
    have := glI_clean (a := n) (b := r) (c := y) h1
    simp only [go_sem, this]
  refine W_weak (Weak.gnilX (j := 0) (off := 0) rfl rfl) ?_
  simp only [go_sem]
  refine W_rangeFunc (gf := 125) (v := .tuple []) (s := .ready) (σ5 := so n) rfl (by simp) (fun args τ b' τ' => ∃ t x, t < n ∧ xs[t]? = some x ∧ args = [I x] ∧ b' = true ∧ τ = so t ∧ τ' = so (t + 1)) ?_ ?_ ?_ ?_ ?_
  · rintro args τ b τ' ⟨t, x, ht, hx, rfl, rfl, rfl, rfl⟩
    refine ⟨rfl, ?_, ?_⟩
    · simp only [so, go_sem]
    · simp only [so, L, go_sem]
      refine W_region [2, 5] fun R hR => ?_   -- r2
      simp only [go_sem, putAll]
      refine hR _ _ ?_; clear hR R
      try simp only [go_sem, putAll]
      have hsn := take_snoc hx
      obtain ⟨out, hout⟩ : ∃ z, xs.take t = z := ⟨_, rfl⟩
      have hol : out.length ≤ t := by rw [← hout]; simp; omega
      rw [hout] at hsn
      try simp only [← hsn, hout]
      have happ := appG_gl (σ := σ) (A := [some [glI (σ.store.length + 1) out]]) (rm := []) (ys := [.busy]) (out := out) x (by omega)
      simp only [go_sem, List.length_cons, List.length_nil] at happ
      refine W_post_weak ?_
      refine W_block ?_
      refine W_region [] fun R hR => ?_   -- r3
      simp only [go_sem, putAll, happ]
      try simp (disch := first | omega | (simp only [go_sem] <;> omega)) only [wrapI, wrapU, appX_exact, appX_tok]
      try simp only [go_sem, putAll, happ]
      refine hR _ _ ?_; clear hR R
      try simp only [go_sem, putAll]
      refine ⟨[], _, Weak.keep [], ?_⟩
      simp only [RoundEnd, go_sem]
  · have hst := values1_pc (Y.at σ.ys.length (fun args τ b' τ' => ∃ t x, t < n ∧ xs[t]? = some x ∧ args = [I x] ∧ b' = true ∧ τ = so t ∧ τ' = so (t + 1))) σ σ.ys.length id pid n xs so hn hnb
      (fun t _ => by simp only [so]; exact get_extx hid) (fun t _ => by simp only [so]; exact get_extx hpid)
      (fun t x h1 h2 => by rw [YEnv.at_self]; exact ⟨t, x, h1, h2, rfl, rfl, rfl, rfl⟩) (by simp only [so, L, List.take_zero, gsI, go_sem] <;> omega) (by simp only [so, L, go_sem] <;> omega) (by simp only [so, L, go_sem])
      (fun _ => CleanSg_ext hcl (by refine hLc _ _ _ _ ?_; simp only [L, gsI_len, go_sem] <;> omega))
    have e0 : so 0 = σ.ext (L []) [] [.ready] := rfl
    rw [e0] at hst
    simp only [L, glI, gsI, go_sem] at hst ⊢
    exact hst
  · simp only [so, L, go_sem]
  · simp only [go_sem]
    exact CleanCut_ext hcl (by simp only [so, L, go_sem] <;> omega) (by simp only [so, L, go_sem, Nat.le_add_right]) (by omega) (by refine hLc _ _ _ _ ?_; simp only [so, L, gsI_len, go_sem] <;> omega)
  · simp only [AfterLoop, so, L, go_sem]
    simp only [hxn]
    refine kq2 _ _ ?_
    refine W_seq fun kz4 kq4 => ?_
    refine W_region [4] fun R hR => ?_   -- r4
    simp only [go_sem]
    refine hR _ _ (kq4 _ _ ?_); clear hR R; try clear kq4 kz4
    try simp only [go_sem]
    refine W_ret ?_
    simp only [go_sem]
    refine ⟨.inr (by trivial), ?_⟩
    have hcl2 : CleanSg (σ.ext ([some [glI (σ.store.length + 1) xn]] ++ gsI xn) []) := CleanSg_ext hcl (by refine hLc _ _ _ _ ?_; simp only [L, gsI_len, go_sem] <;> omega)
    refine Fin_more (σ := σ) hcl2 (by simp only [go_sem] <;> omega) (by simp only [go_sem] <;> omega) (by simp only [go_sem]) rfl (Wk.of_clean ?_)
    simp only [go_sem]
    refine glI_clean ?_
    simp only [gsI_len, go_sem] <;> omega
    try simp only [go_sem]
    all_goals
      skip
set_option maxHeartbeats 2000000 in
theorem collect_pc (Y : YEnv) (σ : Sg) (id pid n : Nat) (xs : List Int) (hid : σ.store[id]? = some (some [.msl pid 0 n])) (hpid : σ.store[pid]? = some (some (xs.map I))) (hn : n ≤ xs.length) (hnb : n < 2 ^ 40) :
    PC Tryz.prog Y 123 [.func (.func 125) [] [.ptr id 0]] σ (glI (σ.store.length + 1) (xs.take n)) (σ.ext ([some [glI (σ.store.length + 1) (xs.take n)]] ++ gsI (xs.take n)) []) := by
  refine PC_of_W Tryz.func123 rfl (by kernel_rfl) Tryz.ntmps123 (by simp) fun hcl hca => ?_
  refine W_seq fun kz1 kq1 => ?_
  refine W_region [0] fun R hR => ?_   -- r0
  simp only [go_sem]
  refine hR _ _ (kq1 _ _ ?_); clear hR R; try clear kq1 kz1
  try simp only [go_sem]
  refine W_seq fun kz2 kq2 => ?_
  refine W_region [2] fun R hR => ?_   -- r1
  simp only [go_sem]
  refine GCall_of (appendSeq_pc Y _ id pid n xs hid hpid hn hnb) ?_   -- t4
  simp only [go_sem]
  refine hR _ _ (kq2 _ _ ?_); clear hR R; try clear kq2 kz2
  try simp only [go_sem]
  refine W_ret ?_
  simp only [go_sem]
  refine ⟨.inr (by trivial), ?_⟩
  have hol : (xs.take n).length = n := by simp; omega
  generalize xs.take n = out at hol ⊢
  have hcl2 : CleanSg (σ.ext ([some [glI (σ.store.length + 1) out]] ++ gsI out) []) := CleanSg_ext hcl (by
    refine CleanLs_append ?_ (gsI_clean _)
    have := glI_clean (a := σ.store.length + ([some [glI (σ.store.length + 1) out]] ++ gsI out).length) (b := σ.rooms.length + ([] : List Nat).length) (c := σ.ys.length) (n := σ.store.length + 1) (out := out) (by simp only [gsI_len, go_sem] <;> omega)
    simp only [go_sem] at this ⊢
    simp only [this])
  refine Fin_more (σ := σ) hcl2 (by simp only [go_sem] <;> omega) (by simp only [go_sem] <;> omega) (by simp only [go_sem]) rfl (Wk.of_clean ?_)
  simp only [go_sem]
  refine glI_clean ?_
  simp only [gsI_len, go_sem] <;> omega
  try simp only [go_sem]
  all_goals
    skip
set_option maxHeartbeats 2000000 in
theorem sorted_pc (Y : YEnv) (σ : Sg) (id pid n : Nat) (xs : List Int) (hid : σ.store[id]? = some (some [.msl pid 0 n])) (hpid : σ.store[pid]? = some (some (xs.map I))) (hn : n ≤ xs.length) (hnb : n < 2 ^ 40) (hn0 : 0 < n) :
    PC Tryz.prog Y 98 [.func (.func 125) [] [.ptr id 0]] σ (ints (sortI (xs.take n))) (σ) := by
  refine PC_of_W Tryz.func98 rfl (by kernel_rfl) Tryz.ntmps98 (by simp) fun hcl hca => ?_
  have hol : (xs.take n).length = n := by simp; omega
  obtain ⟨out, hout⟩ : ∃ z, xs.take n = z := ⟨_, rfl⟩
  have hcoll := collect_pc Y σ id pid n xs hid hpid hn hnb
  rw [hout] at hcoll hol ⊢
  refine W_seq fun kz1 kq1 => ?_
  refine W_region [0] fun R hR => ?_   -- r0
  simp only [go_sem]
  refine hR _ _ (kq1 _ _ ?_); clear hR R; try clear kq1 kz1
  try simp only [go_sem]
  refine W_seq fun kz2 kq2 => ?_
  refine W_region [3] fun R hR => ?_   -- r1
  simp only [go_sem]
  refine GCall_of (hcoll) ?_   -- t5
  simp only [go_sem]
  refine hR _ _ (kq2 _ _ ?_); clear hR R; try clear kq2 kz2
  try simp only [go_sem]
  refine W_seq fun kz3 kq3 => ?_
  refine W_region [3] fun R hR => ?_   -- r2
  simp only [go_sem]
  refine GCall_of (sort_gl (A := [_]) sortsI (by omega)) ?_   -- t7
  simp only [go_sem]
  refine hR _ _ (kq3 _ _ ?_); clear hR R; try clear kq3 kz3
  try simp only [go_sem]
  refine W_seq fun kz4 kq4 => ?_
  have hsl := sortI_len out
  obtain ⟨z, zs, hz⟩ : ∃ z zs, sortI out = z :: zs := by cases h : sortI out with
    | nil => rw [h] at hsl; simp at hsl; omega
    | cons z zs => exact ⟨z, zs, rfl⟩
  refine W_weak (Weak.keep [3]) ?_
  have hE3 : glI (σ.store.length + 1) out = .gsl (σ.store.length + (1 + zs.length)) (zs.length + 1) 1 := by rw [← glI_sort, hz]; simp only [glI, Nat.add_assoc]
  simp only [go_sem, hE3, hz]
  refine W_weak (Weak.freeze (t := 3) (id := σ.store.length + (1 + zs.length)) (len := zs.length + 1) (es := 1) (l := (z :: zs).map I) rfl (by rw [Sg.get_ext, rowC_ints]; exact gsI_get (A := [_])) (by simp) (fun q hq => by obtain ⟨x, _, rfl⟩ := List.mem_map.1 hq; rfl)) ?_
  simp only [go_sem]
  refine W_region [2] fun R hR => ?_   -- r3
  simp only [go_sem]
  refine hR _ _ (kq4 _ _ ?_); clear hR R; try clear kq4 kz4
  try simp only [go_sem]
  refine W_ret ?_
  simp only [go_sem]
  refine ⟨.inr (by trivial), ?_⟩
  rw [hz]; refine Fin_same hcl rfl (Wk_eq rfl ?_)
  try simp only [go_sem]
  all_goals
    simp only [go_sem]
end Go.Proofs.YtpiepcplalkfiaaGreatDoor
namespace Go.Proofs.YtpiepcplalkfiaaGreatDoor
open Go Go.RowKit
abbrev txt (l : List UInt8) : PV := .str ⟨l.toArray⟩
theorem lens9 {s : ByteArray} : lenPV Tryz.prog 9 (.str s) = some (.int .i64 s.size) := by unfold lenPV; simp only [Tryz.underlying9]
theorem size_txt {l : List UInt8} : (⟨l.toArray⟩ : ByteArray).size = l.length := by simp [ByteArray.size]
theorem extract_txt {l : List UInt8} {a b : Nat} : (⟨l.toArray⟩ : ByteArray).extract a b = ⟨((l.drop a).take (b - a)).toArray⟩ := by
  apply ByteArray.ext
  simp [ByteArray.data_extract, List.extract_toArray]
/-- Parts of a text. -/
theorem slT {l : List UInt8} {a b : Nat} (h1 : a ≤ b) (h2 : b ≤ l.length) : slicePV Tryz.prog 9 (.str ⟨l.toArray⟩) (some (.int .i64 (a : Int))) (some (.int .i64 (b : Int))) none = some (.str ⟨((l.drop a).take (b - a)).toArray⟩) := by
  unfold slicePV
  simp only [Tryz.underlying9, bnd, Int.natCast_nonneg, if_true, Int.toNat_natCast, extract_txt]
  rw [if_pos ⟨h1, by rw [size_txt]; exact h2⟩]
theorem slTa {l : List UInt8} {a : Nat} (h2 : a ≤ l.length) : slicePV Tryz.prog 9 (.str ⟨l.toArray⟩) (some (.int .i64 (a : Int))) none none = some (.str ⟨(l.drop a).toArray⟩) := by
  unfold slicePV
  simp only [Tryz.underlying9, bnd, Int.natCast_nonneg, if_true, Int.toNat_natCast, extract_txt, size_txt]
  rw [if_pos ⟨h2, Nat.le_refl _⟩, List.take_of_length_le (by simp)]
theorem slTb {l : List UInt8} {b : Nat} (h2 : b ≤ l.length) : slicePV Tryz.prog 9 (.str ⟨l.toArray⟩) none (some (.int .i64 (b : Int))) none = some (.str ⟨(l.take b).toArray⟩) := by
  unfold slicePV
  simp only [Tryz.underlying9, bnd, Int.natCast_nonneg, if_true, Int.toNat_natCast, extract_txt, size_txt]
  rw [if_pos ⟨Nat.zero_le _, h2⟩]
  simp
theorem cvs9 {s : ByteArray} : convPV Tryz.prog 9 9 (.str s) = some (.str s) := by unfold convPV; simp only [Tryz.underlying9]
theorem strAdd {a b : List UInt8} (h : a.length + b.length ≤ 2 ^ 62) : strBin .add ⟨a.toArray⟩ ⟨b.toArray⟩ = some (.str ⟨(a ++ b).toArray⟩) := by
  unfold strBin
  simp only
  rw [if_pos (by rw [size_txt, size_txt]; exact h)]
  congr 2
  try (apply ByteArray.ext; simp [ByteArray.data_append])
theorem txt_eq {a b : List UInt8} : ((⟨a.toArray⟩ : ByteArray) == ⟨b.toArray⟩) = decide (a = b) := by
  have e : ((⟨a.toArray⟩ : ByteArray) == ⟨b.toArray⟩) = (a.toArray == b.toArray) := rfl
  rw [e, Bool.eq_iff_iff, beq_iff_eq, decide_eq_true_eq]
  simp
theorem strEql {a b : List UInt8} : strBin .eql ⟨a.toArray⟩ ⟨b.toArray⟩ = some (.bool (decide (a = b))) := by unfold strBin; simp only [txt_eq]
theorem strNeq {a b : List UInt8} : strBin .neq ⟨a.toArray⟩ ⟨b.toArray⟩ = some (.bool (!decide (a = b))) := by unfold strBin; simp only [bne, txt_eq]
theorem okC_txt {xs : List (List UInt8)} : okC 1 (xs.map txt) = True := okC_map fun x => by simp [okC, PV.cells, PV.scalar]
theorem cA_txt {a b c : Nat} {xs : List (List UInt8)} : CleanAll a b c (xs.map txt) = True := CleanAll_map fun x => by simp only [go_sem]
theorem roL_txt {xs : List (List UInt8)} : PV.roL (xs.map txt) = xs.map txt := roL_enc fun x => by simp only [ro_str]
attribute [go_sem] lens9 size_txt List.size_toArray cvs9 extract_txt strEql strNeq okC_txt cA_txt roL_txt
theorem cvb {l : List PV} {o : Own} : convPV Tryz.prog 114 9 (.isl l o) = (bytesOfPV l).map fun ns => .str (bytesStr ns) := by unfold convPV; simp only [Tryz.underlying114, Tryz.underlying9, Tryz.underlying5]
attribute [go_sem] cvb
theorem sllT {xs : List (List UInt8)} {own : Own} {k : IntKind} {n : Int} : slicePV Tryz.prog 64 (.isl (xs.map txt) own) (some (.int k n)) none none = if 0 ≤ n then if n.toNat ≤ xs.length then some (.isl ((xs.drop n.toNat).map txt) own) else none else none := slLo_of Tryz.underlying64 Tryz.underlying9 cells9 (fun _ => rfl) xs own k n
attribute [go_sem] sllT
end Go.Proofs.YtpiepcplalkfiaaGreatDoor
namespace Go.Proofs.YtpiepcplalkfiaaGreatDoor
open Go Go.RowKit Go.Shelf
set_option maxRecDepth 100000
def bld_ren : Go.Shelf.Ren := ⟨fun | 240 => 87 | 276 => 113 | 169 => 58 | 166 => 55 | n => n, fun | 37 => 114 | 70 => 113 | 72 => 116 | 164 => 176 | 127 => 152 | n => n, fun n => n⟩
theorem lays240 : Lays.n240 Tryz.prog bld_ren where
  mixed := by kernel_rfl
  f240 := Tryz.func87.trans (congrArg some (by kernel_rfl))
  f276 := Tryz.func113.trans (congrArg some (by kernel_rfl))
  t0 := Tryz.underlying0
  a0 := Tryz.isAgg0
  z0 := Tryz.sizeOf0
  v0 := Tryz.zeroValue0
  t4 := Tryz.underlying4
  a4 := Tryz.isAgg4
  z4 := Tryz.sizeOf4
  v4 := Tryz.zeroValue4
  t9 := Tryz.underlying9
  a9 := Tryz.isAgg9
  z9 := Tryz.sizeOf9
  v9 := Tryz.zeroValue9
  t20 := Tryz.underlying20
  a20 := Tryz.isAgg20
  z20 := Tryz.sizeOf20
  v20 := Tryz.zeroValue20
  t70 := Tryz.underlying113
  a70 := Tryz.isAgg113
  z70 := Tryz.sizeOf113
  v70 := Tryz.zeroValue113
  t72 := Tryz.underlying116
  a72 := Tryz.isAgg116
  z72 := Tryz.sizeOf116
  v72 := Tryz.zeroValue116
  t164 := Tryz.underlying176
  a164 := Tryz.isAgg176
  z164 := Tryz.sizeOf176
  v164 := Tryz.zeroValue176
theorem lays169 : Lays.n169 Tryz.prog bld_ren where
  mixed := by kernel_rfl
  f169 := Tryz.func58.trans (congrArg some (by kernel_rfl))
  t0 := Tryz.underlying0
  a0 := Tryz.isAgg0
  z0 := Tryz.sizeOf0
  v0 := Tryz.zeroValue0
  t3 := Tryz.underlying3
  a3 := Tryz.isAgg3
  z3 := Tryz.sizeOf3
  v3 := Tryz.zeroValue3
  t9 := Tryz.underlying9
  a9 := Tryz.isAgg9
  z9 := Tryz.sizeOf9
  v9 := Tryz.zeroValue9
  t37 := Tryz.underlying114
  a37 := Tryz.isAgg114
  z37 := Tryz.sizeOf114
  v37 := Tryz.zeroValue114
  t70 := Tryz.underlying113
  a70 := Tryz.isAgg113
  z70 := Tryz.sizeOf113
  v70 := Tryz.zeroValue113
  t72 := Tryz.underlying116
  a72 := Tryz.isAgg116
  z72 := Tryz.sizeOf116
  v72 := Tryz.zeroValue116
  t127 := Tryz.underlying152
  a127 := Tryz.isAgg152
  z127 := Tryz.sizeOf152
  v127 := Tryz.zeroValue152
def lays171_ren : Go.Shelf.Ren := ⟨fun | 171 => 56 | 243 => 88 | 246 => 114 | 283 => 131 | 284 => 132 | 285 => 133 | 286 => 134 | 129 => 109 | 317 => 150 | 318 => 151 | 319 => 152 | 320 => 153 | 337 => 172 | 338 => 173 | n => n, fun | 3 => 3 | 9 => 9 | 2 => 2 | 4 => 4 | 171 => 188 | 0 => 0 | 53 => 104 | 37 => 114 | 5 => 5 | 173 => 190 | 212 => 210 | 51 => 171 | 20 => 20 | 213 => 211 | 46 => 149 | 232 => 238 | 233 => 239 | n => n, fun | 17 => 0 | 18 => 6 | 19 => 7 | n => n⟩
theorem lays171_p : Lays.n171 Tryz.prog lays171_ren where
  mixed := by kernel_rfl
  f129 := Tryz.func109.trans (congrArg some (by kernel_rfl))
  f171 := Tryz.func56.trans (congrArg some (by kernel_rfl))
  f243 := Tryz.func88.trans (congrArg some (by kernel_rfl))
  f246 := Tryz.func114.trans (congrArg some (by kernel_rfl))
  f283 := Tryz.func131.trans (congrArg some (by kernel_rfl))
  f284 := Tryz.func132.trans (congrArg some (by kernel_rfl))
  f285 := Tryz.func133.trans (congrArg some (by kernel_rfl))
  f286 := Tryz.func134.trans (congrArg some (by kernel_rfl))
  f317 := Tryz.func150.trans (congrArg some (by kernel_rfl))
  f318 := Tryz.func151.trans (congrArg some (by kernel_rfl))
  f319 := Tryz.func152.trans (congrArg some (by kernel_rfl))
  f320 := Tryz.func153.trans (congrArg some (by kernel_rfl))
  f337 := Tryz.func172.trans (congrArg some (by kernel_rfl))
  f338 := Tryz.func173.trans (congrArg some (by kernel_rfl))
  t0 := Tryz.underlying0
  a0 := Tryz.isAgg0
  z0 := Tryz.sizeOf0
  v0 := Tryz.zeroValue0
  t2 := Tryz.underlying2
  a2 := Tryz.isAgg2
  z2 := Tryz.sizeOf2
  v2 := Tryz.zeroValue2
  t3 := Tryz.underlying3
  a3 := Tryz.isAgg3
  z3 := Tryz.sizeOf3
  v3 := Tryz.zeroValue3
  t4 := Tryz.underlying4
  a4 := Tryz.isAgg4
  z4 := Tryz.sizeOf4
  v4 := Tryz.zeroValue4
  t5 := Tryz.underlying5
  a5 := Tryz.isAgg5
  z5 := Tryz.sizeOf5
  v5 := Tryz.zeroValue5
  t9 := Tryz.underlying9
  a9 := Tryz.isAgg9
  z9 := Tryz.sizeOf9
  v9 := Tryz.zeroValue9
  t20 := Tryz.underlying20
  a20 := Tryz.isAgg20
  z20 := Tryz.sizeOf20
  v20 := Tryz.zeroValue20
  t37 := Tryz.underlying114
  a37 := Tryz.isAgg114
  z37 := Tryz.sizeOf114
  v37 := Tryz.zeroValue114
  t46 := Tryz.underlying149
  a46 := Tryz.isAgg149
  z46 := Tryz.sizeOf149
  v46 := Tryz.zeroValue149
  t51 := Tryz.underlying171
  a51 := Tryz.isAgg171
  z51 := Tryz.sizeOf171
  v51 := Tryz.zeroValue171
  t53 := Tryz.underlying104
  a53 := Tryz.isAgg104
  z53 := Tryz.sizeOf104
  v53 := Tryz.zeroValue104
  t171 := Tryz.underlying188
  a171 := Tryz.isAgg188
  z171 := Tryz.sizeOf188
  v171 := Tryz.zeroValue188
  t173 := Tryz.underlying190
  a173 := Tryz.isAgg190
  z173 := Tryz.sizeOf190
  v173 := Tryz.zeroValue190
  t212 := Tryz.underlying210
  a212 := Tryz.isAgg210
  z212 := Tryz.sizeOf210
  v212 := Tryz.zeroValue210
  t213 := Tryz.underlying211
  a213 := Tryz.isAgg211
  z213 := Tryz.sizeOf211
  t232 := Tryz.underlying238
  a232 := Tryz.isAgg238
  z232 := Tryz.sizeOf238
  v232 := Tryz.zeroValue238
  t233 := Tryz.underlying239
  a233 := Tryz.isAgg239
  z233 := Tryz.sizeOf239
  v233 := Tryz.zeroValue239
  g17 := by kernel_rfl
  g18 := by kernel_rfl
  g19 := by kernel_rfl
theorem lays171 : LaysM.n171 Tryz.prog lays171_ren := { lays171_p with
  i0 := by kernel_rfl,
  i2 := by kernel_rfl,
  i3 := by kernel_rfl,
  i4 := by kernel_rfl,
  i5 := by kernel_rfl,
  i9 := by kernel_rfl,
  i20 := by kernel_rfl,
  i37 := by kernel_rfl,
  i46 := by kernel_rfl,
  i51 := by kernel_rfl,
  i53 := by kernel_rfl,
  i171 := by kernel_rfl,
  i173 := by kernel_rfl,
  i212 := by kernel_rfl,
  i232 := by kernel_rfl,
  i233 := by kernel_rfl,
  m17 := by kernel_rfl,
  m18 := by kernel_rfl,
  m19 := by kernel_rfl }
theorem PC_of_callsG {P : Program} {Y : YEnv} {f : FuncId} {args : List PV} {σ σ' : Sg} {v : PV} (hg : goFn P f = true)
    (h : ∀ Ψ vals w, SR Ψ σ w → VRs Ψ args vals → GOK P Ψ → Calls P f vals w (fun e w' => ∃ x Ψ', e = .returned x ∧ Ψ.le Ψ' ∧ SR Ψ' σ' w' ∧ VR Ψ' v x ∧ Below Ψ.base w w')) : PC P Y f args σ v σ' :=
  ⟨hg, fun Ψ vals w hs ha hy => callsIn_wide.2 (h Ψ vals w hs ha hy.1)⟩
theorem one_arg {Ψ : Ty} {p : PV} {vals : Array Value} (ha : VRs Ψ [p] vals) : ∃ x, vals = #[x] ∧ VR Ψ p x := by
  have := ha.1
  match vals, this with
  | ⟨[x]⟩, _ => exact ⟨x, rfl, ha.2 0 _ _ rfl rfl⟩
theorem x72 : Builder.X72 Tryz.prog bld_ren := ⟨by kernel_rfl, by kernel_rfl⟩
/-- A builder in a variable. -/
theorem bld_at {Ψ : Ty} {σ : Sg} {w : World} (hs : SR Ψ σ w) {id T r te : Nat} {l : List PV} {b : Nat} (hst : σ.store[id]? = some (some [.bself id T, .bbuf l r te])) (hβ : Ψ.β[id]? = some b) :
    ∃ x v, Ψ.base ≤ b ∧ w.heap[b]? = some (.cells #[x, v] T (0, 0)) ∧ (x = .pointer none ∨ x = .pointer (some ⟨b, 0, none⟩)) ∧ VR Ψ (.bbuf l r te) v := by
  obtain ⟨a1, _, hk⟩ := hs.block id _ b hst hβ
  rcases hk with ⟨c, hb, h1, h2⟩ | ⟨arr, es, h0, _⟩ | ⟨mid, r', n, seen, h0, _⟩
  · simp only [List.length_cons, List.length_nil] at h1
    have v0 := h2 0 _ c[0] rfl (by simp)
    have v1 := h2 1 _ c[1] rfl (by simp)
    cases v0 with
    | bself _ _ b' _ hβ' hz hx =>
    rw [hβ] at hβ'
    injection hβ' with hβ'
    subst hβ'
    obtain ⟨_, c', f, hc', hsz⟩ := hs.szok _ _ hz
    obtain ⟨e, hbe⟩ := hb
    rw [hbe] at hc'
    injection hc' with hc'
    injection hc' with e1 e2 e3
    subst e1 e2
    refine ⟨c[0], c[1], a1, ?_, hx, v1⟩
    rw [hbe]
    congr 2
    apply Array.ext
    · simp [hsz]
    · intro i h1 h2
      match i, h2 with
      | 0, _ => rfl
      | 1, _ => rfl
  · cases h0
  · cases h0
theorem copyCheck_pc (Y : YEnv) (σ : Sg) {id r te : Nat} {l : List PV} (hst : σ.store[id]? = some (some [.bself id 116, .bbuf l r te])) : PC Tryz.prog Y 87 [.ptr id 0] σ (.tuple []) σ := by
  refine PC_of_calls (by kernel_rfl) fun Ψ vals w hs ha => ?_
  obtain ⟨x, rfl, hx⟩ := one_arg ha
  obtain ⟨b, hβ, hz, rfl⟩ := hx.ptr_inv
  obtain ⟨y, v, a1, hb, hy, hv⟩ := bld_at hs hst hβ
  have hc0 : w.cell? ⟨b, 0, none⟩ = some y := by rw [cell_eq, hb]; rfl
  rcases hy with rfl | rfl
  · refine (Any.Builder_copyCheck_fresh lays240 x72 b w hc0 (by simp [World.shape?, hb]; rfl) (by simp [World.frozen?, hb])).mono ?_
    rintro e w' ⟨rfl, rfl⟩
    have hself : VR Ψ (.bself id 116) (.pointer (some ⟨b, 0, none⟩)) := by
      obtain ⟨_, _, hk⟩ := hs.block id _ b hst hβ
      obtain ⟨_, h2⟩ := hk.cells ⟨_, hb⟩
      have v0 := h2 0 _ _ rfl rfl
      cases v0 with
      | bself _ _ b' _ hβ' hz' _ =>
      rw [hβ] at hβ'
      injection hβ' with hβ'
      subst hβ'
      exact .bself _ _ b _ hβ hz' (.inr rfl)
    have h2 : SR Ψ (σ.setVar id [.bself id 116, .bbuf l r te]) (w.setCell ⟨b, 0, none⟩ (.pointer (some ⟨b, 0, none⟩))) := hs.setVar hst hβ hz hself (off := 0)
    rw [setVar_same σ id _ hst] at h2
    exact ⟨_, Ψ, rfl, Ty.le.refl _, h2, skipped_ok _, (Below.refl _ _).setCell (p := ⟨b, 0, none⟩) a1 _⟩
  · refine (Any.Builder_copyCheck_used lays240 x72 b w hc0).mono ?_
    rintro e w' ⟨rfl, rfl⟩
    exact ⟨_, Ψ, rfl, Ty.le.refl _, hs, skipped_ok _, Below.refl _ _⟩
/-- What a builder holds, as a string: its row is marked. -/
theorem bldString (b g : Nat) (p : Value) (cap : Nat) (l : List UInt8) (w : World) (h0 : l ≠ []) (hbk : w.heap[b]? = some (.cells #[p, .slice (some ⟨g, 0, none⟩) l.length cap] 116 (0, 0))) {cur : Array Value} {fz : Nat × Nat} (hg : w.heap[g]? = some (.cells cur 5 fz)) (hn : l.length ≤ cur.size) (hcap : l.length ≤ cap) (h63 : l.length ≤ 9223372036854775807)
    (hcell : ∀ j x, l[j]? = some x → w.cell? ⟨g, j, none⟩ = some (.int .u8 x.toNat)) :
    Calls Tryz.prog 58 #[.pointer (some ⟨b, 0, none⟩)] w fun e w' => e = .returned (.string ⟨l.toArray⟩) ∧ w' = w.drew.freeze ⟨g, 0, none⟩ l.length := by
  have hl0 : l.length ≠ 0 := by simpa using h0
  have hb1 : w.drew.heap[b]? = some (.cells #[p, .slice (some ⟨g, 0, none⟩) l.length cap] 116 (0, 0)) := hbk
  have c1 : w.drew.cell? ⟨b, 1, none⟩ = some (.slice (some ⟨g, 0, none⟩) l.length cap) := by rw [Lib.cell_of_heap hb1]; rfl
  have hg' : w.drew.heap[g]? = some (.cells cur 5 fz) := hg
  have hSD : (Builtin.unsafeSliceData_ #[bld_ren.t 37] (bld_ren.t 127) #[.slice (some ⟨g, 0, none⟩) l.length cap]).run Tryz.prog w.drew = .ok (.pointer (some ⟨g, 0, none⟩)) w.drew :=
    Lib.run_unsafeSliceData_row _ _ _ _ _ _ (by omega)
  have hUS : (Builtin.unsafeString_ #[bld_ren.t 127, bld_ren.t 3] (bld_ren.t 9) #[.pointer (some ⟨g, 0, none⟩), .int .i64 l.length]).run Tryz.prog w.drew = .ok (.string ⟨l.toArray⟩) (w.drew.freeze ⟨g, 0, none⟩ l.length) :=
    Lib.run_unsafeString_row w.drew (bld_ren.t 127) (bld_ren.t 3) (bld_ren.t 9) 5 Tryz.underlying152 cells5 g cur.size (by simp [World.shape?, hg']) l h0 hn h63 fun j x hx => by
      have := hcell j x hx
      simpa using this
  have L := lays169
  have mixed := L.mixed
  have t72 := L.t72; have a72 := L.a72; have z72 := L.z72; have v72 := L.v72; have u72 := run_underlying L.t72
  have t70 := L.t70; have a70 := L.a70; have z70 := L.z70; have v70 := L.v70; have u70 := run_underlying L.t70
  have t37 := L.t37; have a37 := L.a37; have z37 := L.z37; have v37 := L.v37; have u37 := run_underlying L.t37
  have t127 := L.t127; have a127 := L.a127; have z127 := L.z127; have v127 := L.v127; have u127 := run_underlying L.t127
  have t3 := L.t3; have a3 := L.a3; have z3 := L.z3; have v3 := L.v3; have u3 := run_underlying L.t3
  have t9 := L.t9; have a9 := L.a9; have z9 := L.z9; have v9 := L.v9; have u9 := run_underlying L.t9
  go_enter L.f169, Body.n169_ntmps bld_ren
  go_wp2
  go_region_o
  all_goals (go_wp2; go_ret; exact ⟨rfl, rfl⟩)
theorem Itoa_pc (Y : YEnv) (σ : Sg) (n : Int) (h0 : -9223372036854775808 ≤ n) (h1 : n ≤ 9223372036854775807) : PC Tryz.prog Y 56 [I n] σ (.str ⟨(Lib.itoa n).toArray⟩) σ := by
  refine PC_of_callsG (by kernel_rfl) fun Ψ vals w hs ha hG => ?_
  obtain ⟨x, rfl, hx⟩ := one_arg ha
  obtain rfl := hx.int_inv
  have hgn : Tryz.prog.globalNamed "internal/strconv.uint64pow10" = some 0 := by kernel_rfl
  obtain ⟨_, e, f, hh⟩ := hs.szok _ _ (hG.tab 0 hgn)
  have htab : Lib.TabIs Tryz.prog w "internal/strconv.uint64pow10" .u64 Lib.pow10Tab := by
    unfold Lib.TabIs World.var?
    rw [hgn]
    simp only [Option.bind_some, hh]
    rfl
  refine (Any.strconv_Itoa lays171 n h0 h1 w htab).mono ?_
  rintro e2 w2 ⟨rfl, k, os, rfl⟩
  have ho : ∀ g, g < w.heap.size → (Sort.grow (w.drewN k) os).heap[g]? = w.heap[g]? := fun g hg => Sort.heap_grow_old (w.drewN k) os hg
  have hz : w.heap.size ≤ (Sort.grow (w.drewN k) os).heap.size := by simp [Sort.grow, World.drewN]
  exact ⟨_, Ψ, rfl, Ty.le.refl _, hs.more ho hz, .str _, ⟨rfl, rfl, rfl, hz, fun g hg => ho g (by have := hs.base; omega)⟩⟩
end Go.Proofs.YtpiepcplalkfiaaGreatDoor
namespace Go.Proofs.YtpiepcplalkfiaaGreatDoor
open Go Go.RowKit
set_option maxRecDepth 100000
theorem strPV_app (a b : ByteArray) : strPV (a ++ b) = strPV a ++ strPV b := by simp [strPV]
theorem strPV_ok (s : ByteArray) : okC 1 (strPV s) := by
  unfold okC
  rw [List.all_eq_true]
  intro q hq
  obtain ⟨x, _, rfl⟩ := List.mem_map.1 hq
  rfl
theorem appB (σ : Sg) {r : Nat} (B s : ByteArray) (hr : σ.rooms[r]? = some B.size) (hl : B.size + s.size ≤ 2 ^ 46) :
    appendAny Tryz.prog σ 114 9 (.bbuf (strPV B) r 5) (.str s) = some (.bbuf (strPV (B ++ s)) r 5, σ.setRoom r (B.size + s.size)) := by
  rw [appendAny_bbuf]
  unfold appendB bytesArg
  simp only [Tryz.underlying114, Tryz.underlying9]
  rw [if_pos ⟨trivial, cells5⟩, app114, strPV_len, appX_tok (strPV_ok s) hr (by rw [strPV_len, strPV_len]; omega)]
  simp only [Option.map_some, strPV_app, strPV_len]
theorem String_pc (Y : YEnv) (σ : Sg) {id r : Nat} (B : ByteArray) (hst : σ.store[id]? = some (some [.bself id 116, .bbuf (strPV B) r 5])) (hr : σ.rooms[r]? = some B.size) (h0 : 0 < B.size) (hl : B.size ≤ 2 ^ 46) :
    PC Tryz.prog Y 58 [.ptr id 0] σ (.str B) (σ.setRoom r (B.size + 1)) := by
  refine PC_of_calls (by kernel_rfl) fun Ψ vals w hs ha => ?_
  obtain ⟨x, rfl, hx⟩ := one_arg ha
  obtain ⟨b, hβ, hz, rfl⟩ := hx.ptr_inv
  obtain ⟨y, v, a1, hb, hy, hv⟩ := bld_at hs hst hβ
  have hBl : B.data.toList.length = B.size := by simp
  have hget : ∀ (j : Nat) (x : UInt8), B.data.toList[j]? = some x → (strPV B)[j]? = some (.int .u8 x.toNat) := fun j x h => by
    unfold strPV; rw [List.getElem?_map, h]; rfl
  have hpl := strPV_len B
  generalize hL : strPV B = L at *
  cases hv with
  | bbuf _ _ _ _ h ht =>
  cases h with
  | islnil _ _ _ => simp at hpl; omega
  | isl es _ _ g o cap vals hes k1 k2 hc ho =>
  obtain ⟨hes1, hh⟩ := ho
  subst hes1
  obtain ⟨rfl, hty⟩ := ht g o _ cap rfl (by omega)
  obtain ⟨_, cur, f, hcur, hcs⟩ := hs.szok _ _ hty
  rw [Nat.zero_add, Nat.zero_add, Nat.mul_one, Nat.mul_one, hpl] at hh
  have hat : ∀ (j : Nat) (x : UInt8), B.data.toList[j]? = some x → Ψ.imm g j = some (.int .u8 x.toNat) := fun j x hj => by
    have e1 := k1 j _ 0 (.int .u8 x.toNat) (hget j x hj) rfl
    have e2 := k2 j _ 0 (.int .u8 x.toNat) (hget j x hj) rfl
    rw [e2.int_inv] at e1
    rw [← e1]
    congr 1
    omega
  have hbb : w.heap[b]? = some (.cells #[y, .slice (some ⟨g, 0, none⟩) B.data.toList.length cap] 116 (0, 0)) := by rw [hb, hBl, hpl]
  refine (bldString b g y cap B.data.toList w (fun e => by rw [e] at hBl; simp at hBl; omega) hbb hcur (by rw [hBl]; omega) (by rw [hBl]; omega) (by rw [hBl]; omega) fun j x hj => hs.imm _ _ _ (hat j x hj)).mono ?_
  rintro e2 w2 ⟨rfl, rfl⟩
  rw [hBl]
  obtain ⟨Ψ', le, hs', hbel⟩ := hs.stringed hr hh hty (fun o ho => by
    have hlt : o < B.data.toList.length := by rw [hBl]; exact ho
    rw [hat o _ (List.getElem?_eq_getElem hlt)]
    simp) h0
  have e : (⟨B.data.toList.toArray⟩ : ByteArray) = B := by simp
  exact ⟨_, Ψ', rfl, le, hs', by rw [e]; exact .str B, hbel⟩
set_option maxHeartbeats 2000000 in
theorem WriteString_pc (Y : YEnv) (σ : Sg) {id r : Nat} (B s : ByteArray) (hst : σ.store[id]? = some (some [.bself id 116, .bbuf (strPV B) r 5])) (hr : σ.rooms[r]? = some B.size) (hl : B.size + s.size ≤ 2 ^ 46) :
    PC Tryz.prog Y 55 [.ptr id 0, .str s] σ (.tuple [I s.size, .niliface]) ((σ.setRoom r (B.size + s.size)).setVar id [.bself id 116, .bbuf (strPV (B ++ s)) r 5]) := by
  refine PC_of_W Tryz.func55 rfl (by kernel_rfl) Tryz.ntmps55 (by simp) fun hcl hca => ?_
  have hld : ldS σ id 1 = some (.bbuf (strPV B) r 5) := by simp [ldS, hst]
  have happ := appB σ B s hr hl
  have hsto : stX 1 (σ.setRoom r (B.size + s.size)) id 1 (.bbuf (strPV (B ++ s)) r 5) = some ((σ.setRoom r (B.size + s.size)).setVar id [.bself id 116, .bbuf (strPV (B ++ s)) r 5]) := by
    have : (σ.setRoom r (B.size + s.size)).store[id]? = some (some [.bself id 116, .bbuf (strPV B) r 5]) := hst
    unfold stX
    rw [this]
    rfl
  refine W_seq fun kz1 kq1 => ?_
  refine W_region [0, 1] fun R hR => ?_   -- r0
  simp only [go_sem, hld, happ, hsto, Nat.zero_add]
  refine hR _ _ (kq1 _ _ ?_); clear hR R; try clear kq1 kz1
  try simp only [go_sem, hld, happ, hsto, Nat.zero_add]
  refine W_seq fun kz2 kq2 => ?_
  refine W_region [0, 1] fun R hR => ?_   -- r1
  simp only [go_sem, hld, happ, hsto, Nat.zero_add]
  refine GCall_of (copyCheck_pc Y _ hst) ?_   -- t7
  simp only [go_sem, hld, happ, hsto, Nat.zero_add]
  refine hR _ _ (kq2 _ _ ?_); clear hR R; try clear kq2 kz2
  try simp only [go_sem, hld, happ, hsto, Nat.zero_add]
  refine W_seq fun kz3 kq3 => ?_
  refine W_region [1] fun R hR => ?_   -- r2
  simp only [go_sem, hld, happ, hsto, Nat.zero_add]
  try simp (disch := (first | omega | (simp only [go_sem, List.length_append] <;> omega))) only [wrapI, wrapU, appX_exact, appX_tok, strAdd, slT, slTa, slTb]
  try simp only [go_sem, hld, happ, hsto, Nat.zero_add]
  refine hR _ _ (kq3 _ _ ?_); clear hR R; try clear kq3 kz3
  try simp only [go_sem, hld, happ, hsto, Nat.zero_add]
  refine W_seq fun kz4 kq4 => ?_
  refine W_region [4, 5] fun R hR => ?_   -- r3
  simp only [go_sem, hld, happ, hsto, Nat.zero_add]
  refine hR _ _ (kq4 _ _ ?_); clear hR R; try clear kq4 kz4
  try simp only [go_sem, hld, happ, hsto, Nat.zero_add]
  refine W_ret ?_
  simp only [go_sem, hld, happ, hsto, Nat.zero_add]
  refine ⟨.inr (by trivial), ?_⟩
  have hrl := (List.getElem?_eq_some_iff.1 hr).1
  have hcl2 := CleanSg_bld (n := B.size + s.size) (m := strPV s) hcl hst hrl strPV_clean
  rw [← strPV_app] at hcl2
  have e1 : ((σ.setRoom r (B.size + s.size)).setVar id [.bself id 116, .bbuf (strPV (B ++ s)) r 5]).store.length = σ.store.length := by simp [Sg.setVar, Sg.setRoom]
  have e2 : ((σ.setRoom r (B.size + s.size)).setVar id [.bself id 116, .bbuf (strPV (B ++ s)) r 5]).rooms.length = σ.rooms.length := by simp [Sg.setVar, Sg.setRoom]
  refine ⟨_, σ.store.length, σ.rooms.length, rfl, Nat.le_refl _, Nat.le_refl _, Wk_eq ?_ (by simp only [go_sem]), ?_, ?_, rfl⟩
  rotate_left
  · simp only [Sg.cut, Sg.setVar, Sg.setRoom]
    rw [List.take_of_length_le (l := σ.store.set _ _) (by simp), List.take_of_length_le (l := σ.rooms.set _ _) (by simp), List.take_of_length_le (l := σ.ys) (Nat.le_refl _)]
  · have := hcl2; unfold CleanSg at this; rw [e1, e2] at this; exact this
  try simp only [go_sem]
  all_goals
    first | rfl | simp
end Go.Proofs.YtpiepcplalkfiaaGreatDoor
namespace Go.Proofs.YtpiepcplalkfiaaGreatDoor
open Go Go.RowKit
end Go.Proofs.YtpiepcplalkfiaaGreatDoor
namespace Go.Proofs.YtpiepcplalkfiaaGreatDoor
open Go Go.RowKit
/-- One number among sorted ones. -/
def insP (x : Int) : List Int → List Int
  | [] => [x]
  | y :: r => match ltF y x with
    | true => y :: insP x r
    | false => x :: y :: r
def insQ : List Int → List Int
  | [] => []
  | x :: r => insP x (insQ r)
theorem insP_perm (x : Int) : ∀ l : List Int, (insP x l).Perm (x :: l) := by
  intro l
  induction l with
  | nil => exact .refl _
  | cons y r ih =>
    simp only [insP]
    split
    · exact (ih.cons y).trans (.swap x y r)
    · exact .refl _
theorem insP_sorted (x : Int) : ∀ l : List Int, l.Pairwise (· ≤ ·) → (insP x l).Pairwise (· ≤ ·) := by
  intro l
  induction l with
  | nil => intro _; simp [insP]
  | cons y r ih =>
    intro h
    obtain ⟨h1, h2⟩ := List.pairwise_cons.1 h
    simp only [insP]
    split
    · rename_i hc
      rw [ltF_eq] at hc
      have hc : y < x := by simpa using hc
      refine List.pairwise_cons.2 ⟨fun z hz => ?_, ih h2⟩
      rcases List.mem_cons.1 ((insP_perm x r).mem_iff.1 hz) with rfl | hz
      · omega
      · exact h1 z hz
    · rename_i hc
      rw [ltF_eq] at hc
      have hc : ¬ y < x := by simpa using hc
      refine List.pairwise_cons.2 ⟨fun z hz => ?_, h⟩
      rcases List.mem_cons.1 hz with rfl | hz
      · omega
      · have := h1 z hz; omega
theorem insQ_perm : ∀ l : List Int, (insQ l).Perm l := by
  intro l
  induction l with
  | nil => exact .refl _
  | cons x r ih => exact (insP_perm x _).trans (ih.cons x)
theorem insQ_sorted : ∀ l : List Int, (insQ l).Pairwise (· ≤ ·) := by
  intro l
  induction l with
  | nil => exact .nil
  | cons x r ih => exact insP_sorted x _ ih
theorem sortI_perm' (l : List Int) : (sortI l).Perm l := List.mergeSort_perm l _
theorem sortI_sorted' (l : List Int) : (sortI l).Pairwise (· ≤ ·) := by
  have h := List.pairwise_mergeSort (le := fun a b : Int => decide (a ≤ b)) (fun a b c h1 h2 => by simp at *; omega) (fun a b => by simp; omega) l
  exact h.imp (fun h => by simpa using h)
theorem insQ_eq (l : List Int) : insQ l = sortI l :=
  ((insQ_perm l).trans (sortI_perm' l).symm).eq_of_pairwise (fun a b _ _ h1 h2 => Int.le_antisymm h1 h2) (insQ_sorted l) (sortI_sorted' l)
end Go.Proofs.YtpiepcplalkfiaaGreatDoor
namespace Go.Proofs.YtpiepcplalkfiaaGreatDoor
open Go Go.RowKit
noncomputable section
/-- Numbers out of their readings. -/
def unI : List PV → Option (List Int)
  | [] => some []
  | v :: r => match int64 v with
    | some n => match unI r with
      | some l => some (n :: l)
      | none => none
    | none => none
theorem unI_eq : ∀ (l : List PV) (xs : List Int), unI l = some xs → l = xs.map I := by
  intro l
  induction l with
  | nil => intro xs h; injection h with h; subst h; rfl
  | cons v r ih =>
    intro xs h
    simp only [unI] at h
    split at h
    · rename_i n hn
      split at h
      · rename_i l hl
        injection h with h
        subst h
        rw [int64_inv hn, ih _ hl]
        rfl
      · cases h
    · cases h
/-- Bytes out of their readings. -/
def byteOf (v : PV) : Option UInt8 :=
  match v with
  | .int .u8 n => match n with
    | .ofNat m => match Nat.ble m 255 with
      | true => some (UInt8.ofNat m)
      | false => none
    | _ => none
  | _ => none
def unB : List PV → Option (List UInt8)
  | [] => some []
  | v :: r => match byteOf v with
    | some n => match unB r with
      | some l => some (n :: l)
      | none => none
    | none => none
theorem byteOf_inv {v : PV} {n : UInt8} (h : byteOf v = some n) : v = .int .u8 n.toNat := by
  unfold byteOf at h
  split at h
  · split at h
    · rename_i m
      split at h
      · rename_i hm
        have hm := ble_iff.1 hm
        injection h with h
        subst h
        have : (UInt8.ofNat m).toNat = m := by simp; omega
        rw [this]
        rfl
      · cases h
    · cases h
  · cases h
theorem unB_eq : ∀ (l : List PV) (xs : List UInt8), unB l = some xs → l = strPV ⟨xs.toArray⟩ := by
  intro l
  induction l with
  | nil => intro xs h; injection h with h; subst h; rfl
  | cons v r ih =>
    intro xs h
    simp only [unB] at h
    split at h
    · rename_i n hn
      split at h
      · rename_i l hl
        injection h with h
        subst h
        rw [byteOf_inv hn, ih _ hl]
        simp [strPV]
      · cases h
    · cases h
def cellsAt (σ : Sg) (id : Nat) : Option (List PV) :=
  match nthF σ.store id with
  | some (some cs) => some cs
  | _ => none
theorem cellsAt_inv {σ : Sg} {id : Nat} {cs : List PV} (h : cellsAt σ id = some cs) : σ.store[id]? = some (some cs) := by
  unfold cellsAt at h
  rw [nthF_eq] at h
  split at h
  · injection h with h; subst h; assumption
  · cases h
/-- A builder's bytes, its room. -/
def bldAt (σ : Sg) (id : Nat) : Option (List UInt8 × Nat) :=
  match cellsAt σ id with
  | some [.bself id' 116, .bbuf l r 5] => match Nat.beq id' id with
    | true => match unB l with
      | some bs => match nthF σ.rooms r with
        | some n => match Nat.beq n (lenF bs) with
          | true => some (bs, r)
          | false => none
        | none => none
      | none => none
    | false => none
  | _ => none
theorem bldAt_inv {σ : Sg} {id r : Nat} {bs : List UInt8} (h : bldAt σ id = some (bs, r)) : σ.store[id]? = some (some [.bself id 116, .bbuf (strPV ⟨bs.toArray⟩) r 5]) ∧ σ.rooms[r]? = some (⟨bs.toArray⟩ : ByteArray).size := by
  unfold bldAt at h
  split at h
  · rename_i id' l r' hc
    split at h
    · rename_i hid
      have hid := beq_eq.1 hid
      subst hid
      split at h
      · rename_i bs' hb
        split at h
        · rename_i n hn
          split at h
          · rename_i hl
            have hl := beq_eq.1 hl
            rw [lenF_eq] at hl
            injection h with h
            injection h with h1 h2
            subst h1 h2
            refine ⟨?_, ?_⟩
            · rw [cellsAt_inv hc, unB_eq _ _ hb]
            · rw [nthF_eq] at hn
              rw [hn, hl]
              simp [ByteArray.size]
          · cases h
        · cases h
      · cases h
    · cases h
  · cases h
def orcItoa (σ : Sg) (args : List PV) : Option (PV × Sg) :=
  match args with
  | [v] => match int64 v with
    | some n => match !ltF n (-9223372036854775808) && !ltF 9223372036854775807 n with
      | true => some (.str ⟨(Lib.itoa n).toArray⟩, σ)
      | false => none
    | none => none
  | _ => none
def orcWrite (σ : Sg) (args : List PV) : Option (PV × Sg) :=
  match args with
  | [.ptr id 0, v] => match strOf v with
    | some s => match bldAt σ id with
      | some (bs, r) => match Nat.ble (lenF bs + lenF s) 1000000 with
        | true => some (.tuple [I (lenF s : Nat), .niliface], (σ.setRoom r (lenF bs + lenF s)).setVar id [.bself id 116, .bbuf (strPV ⟨bs.toArray⟩ ++ strPV ⟨s.toArray⟩) r 5])
        | false => none
      | none => none
    | none => none
  | _ => none
def orcString (σ : Sg) (args : List PV) : Option (PV × Sg) :=
  match args with
  | [.ptr id 0] => match bldAt σ id with
    | some (bs, r) => match Nat.ble 1 (lenF bs) && Nat.ble (lenF bs) 1000000 with
      | true => some (.str ⟨bs.toArray⟩, σ.setRoom r (lenF bs + 1))
      | false => none
    | none => none
  | _ => none
def orcSort (σ : Sg) (args : List PV) : Option (PV × Sg) :=
  match args with
  | [.func (.func 125) [] [.ptr id 0]] => match cellsAt σ id with
    | some [.msl pid 0 n] => match cellsAt σ pid with
      | some cs => match unI cs with
        | some xs => match Nat.ble n (lenF xs) && (Nat.ble 1 n && Nat.ble n 1000) with
          | true => some (ints (insQ (xs.take n)), σ)
          | false => none
        | none => none
      | none => none
    | _ => none
  | _ => none
def orcD : Orc := fun f args σ => match Nat.beq f 56 with
  | true => orcItoa σ args
  | false => match Nat.beq f 55 with
    | true => orcWrite σ args
    | false => match Nat.beq f 58 with
      | true => orcString σ args
      | false => match Nat.beq f 98 with
        | true => orcSort σ args
        | false => none
theorem orcItoa_ok {σ σ' : Sg} {args : List PV} {v : PV} (h : orcItoa σ args = some (v, σ')) (Y : YEnv) : PC Tryz.prog Y 56 args σ v σ' := by
  unfold orcItoa at h
  split at h
  · rename_i v0
    split at h
    · rename_i n hn
      split at h
      · rename_i hb
        simp only [ltF_eq, Bool.and_eq_true, Bool.not_eq_true', decide_eq_false_iff_not] at hb
        injection h with h; injection h with h1 h2; subst h1 h2
        rw [int64_inv hn]
        exact Itoa_pc Y _ n (by omega) (by omega)
      · cases h
    · cases h
  · cases h
theorem orcWrite_ok {σ σ' : Sg} {args : List PV} {v : PV} (h : orcWrite σ args = some (v, σ')) (Y : YEnv) : PC Tryz.prog Y 55 args σ v σ' := by
  unfold orcWrite at h
  split at h
  · rename_i id v0
    split at h
    · rename_i s hs
      split at h
      · rename_i bs r hb
        split at h
        · rename_i hl
          have hl := ble_iff.1 hl
          rw [lenF_eq, lenF_eq] at hl
          injection h with h; injection h with h1 h2; subst h1 h2
          obtain ⟨k1, k2⟩ := bldAt_inv hb
          have e1 : (⟨bs.toArray⟩ : ByteArray).size = lenF bs := by rw [lenF_eq]; simp [ByteArray.size]
          have e2 : (⟨s.toArray⟩ : ByteArray).size = lenF s := by rw [lenF_eq]; simp [ByteArray.size]
          rw [strOf_inv hs]
          have := WriteString_pc Y σ ⟨bs.toArray⟩ ⟨s.toArray⟩ k1 k2 (by rw [e1, e2, lenF_eq, lenF_eq]; omega)
          rw [e1, e2, strPV_app] at this
          exact this
        · cases h
      · cases h
    · cases h
  · cases h
theorem orcString_ok {σ σ' : Sg} {args : List PV} {v : PV} (h : orcString σ args = some (v, σ')) (Y : YEnv) : PC Tryz.prog Y 58 args σ v σ' := by
  unfold orcString at h
  split at h
  · rename_i id
    split at h
    · rename_i bs r hb
      split at h
      · rename_i hl
        simp only [Bool.and_eq_true, ble_iff, lenF_eq] at hl
        injection h with h; injection h with h1 h2; subst h1 h2
        obtain ⟨k1, k2⟩ := bldAt_inv hb
        have e1 : (⟨bs.toArray⟩ : ByteArray).size = lenF bs := by rw [lenF_eq]; simp [ByteArray.size]
        have := String_pc Y σ ⟨bs.toArray⟩ k1 k2 (by rw [e1, lenF_eq]; omega) (by rw [e1, lenF_eq]; omega)
        rw [e1] at this
        exact this
      · cases h
    · cases h
  · cases h
theorem orcSort_ok {σ σ' : Sg} {args : List PV} {v : PV} (h : orcSort σ args = some (v, σ')) (Y : YEnv) : PC Tryz.prog Y 98 args σ v σ' := by
  unfold orcSort at h
  split at h
  · rename_i id
    split at h
    · rename_i pid n hc
      split at h
      · rename_i cs hcs
        split at h
        · rename_i xs hxs
          split at h
          · rename_i hb
            simp only [Bool.and_eq_true, ble_iff, lenF_eq] at hb
            obtain ⟨h1, h2, h3⟩ := hb
            injection h with h; injection h with h1 h2; subst h1 h2
            rw [insQ_eq]
            exact sorted_pc Y _ id pid n xs (cellsAt_inv hc) (by rw [cellsAt_inv hcs, unI_eq _ _ hxs]) (by omega) (by omega) (by omega)
          · cases h
        · cases h
      · cases h
    · cases h
  · cases h
theorem orcD_ok : ∀ f args σ v σ', orcD f args σ = some (v, σ') → ∀ Y, PC Tryz.prog Y f args σ v σ' := by
  intro f args σ v σ' h Y
  unfold orcD at h
  split at h
  · rename_i e; rw [beq_eq.1 e]; exact orcItoa_ok h Y
  · split at h
    · rename_i e; rw [beq_eq.1 e]; exact orcWrite_ok h Y
    · split at h
      · rename_i e; rw [beq_eq.1 e]; exact orcString_ok h Y
      · split at h
        · rename_i e; rw [beq_eq.1 e]; exact orcSort_ok h Y
        · cases h
end
end Go.Proofs.YtpiepcplalkfiaaGreatDoor
