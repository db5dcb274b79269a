/-
  The law MarksSealed: whatever comes in, it answers true and leaves what came in as it was.
  The law MarksSealed, walked: nobody changes a sealed envelope.
  The law MarksWins, walked: at most one surely wins.
  Walks: the chapter's examples checked.
  Walks: lists compared; the chapter's examples.
  Walks: the table of a night that is decided (marks).
  Walks: places, who wins, the table (marks).
-/
import Derived.Test.YtgelnjmddabgpaaPe
import Derived.CallsIn
import Derived.RangeFuncLeaves
import Derived.RangeFuncRecord
import Derived.OrdersIn
import Derived.Below
import Derived.Laws.World
import Derived.Laws.StructEq
import Derived.Laws.Append
import Derived.MapKept
import Derived.ProofKit
import Derived.Carry
import Derived.Handed
import Derived.ChangeCalls
import Derived.RangeFuncIn
import Derived.RangeFuncNested
import Derived.Test.YtgelnjmddabgpaaProg
import Derived.KernelRfl
import Derived.IntWalk
import Derived.Test.YtgelnjmddabgpaaRows
import Derived.Sort.OwnSortedInts
import Derived.Lib.SlicesCompact
import Derived.Shelf.Sort.Plain
import Derived.Shelf.Slices.In.SortNone
import Derived.Shelf.Small.Bits
import Derived.JoinedOf
set_option linter.unusedSimpArgs false
set_option linter.unusedVariables false
namespace Go.Proofs.Ytgelnjmddabgpaa
open Go Go.RowKit
set_option maxRecDepth 100000
/-- Standings that grow in place: nothing yet, or the last of a row of variables (those before it are gone). -/
def glS (n : Nat) (out : List Stand) : PV := match out with
  | [] => .gnil
  | _ :: t => .gsl (n + t.length) (t.length + 1) 3
def gsS (out : List Stand) : List (Option (List PV)) := match out with
  | [] => []
  | _ :: t => List.replicate t.length none ++ [some (rowC (out.map sdPV))]
theorem appendAny_gs {P : Program} {σ : Sg} {t t' : TypeId} {n : Nat} {out : List Stand} {y : PV} : appendAny P σ t t' (glS n out) y = appendG P σ t t' (glS n out) y := by cases out <;> rfl
attribute [go_sem] appendAny_gs
section
variable {σ : Sg} {A : List (Option (List PV))} {rm : List Nat} {ys : List LState} {out : List Stand}
theorem gsS_get {x : Stand} : (A ++ gsS (x :: out))[A.length + out.length]? = some (some (rowC ((x :: out).map sdPV))) := by
  have : A.length + out.length = (A ++ List.replicate out.length (none : Option (List PV))).length := by simp
  rw [this, gsS, ← List.append_assoc]
  exact get_mid
theorem gsS_set {x : Stand} {y : Option (List PV)} : (A ++ gsS (x :: out)).set (A.length + out.length) y = A ++ (List.replicate out.length none ++ [y]) := by
  have : A.length + out.length = (A ++ List.replicate out.length (none : Option (List PV))).length := by simp
  rw [this, gsS, ← List.append_assoc, ← List.append_assoc]
  exact set_mid
theorem appG_gs (b : Nat) (x : Stand) (h : (out.length + 1) * b ≤ 2 ^ 47) : appG 3 b (σ.ext (A ++ gsS out) rm ys) (glS (σ.store.length + A.length) out) [.agg [I x.school, I x.total, ints x.points]] = some (glS (σ.store.length + A.length) (out ++ [x]), σ.ext (A ++ gsS (out ++ [x])) rm ys) := by
  cases out with
  | nil =>
    rw [glS, appG_nil (by rfl) (by simp) (by simpa using h)]
    simp [gsS, glS, rowC, Sg.push_ext, Sg.len_ext, sdPV, sdCells]
  | cons y out =>
    simp only [glS]
    rw [appG_more (cs := rowC ((y :: out).map sdPV)) (by rw [Nat.add_assoc, Sg.get_ext]; exact gsS_get) (by rw [row3_len]; simp) (by rfl) (by simp) (by simpa using h)]
    rw [Nat.add_assoc (Sg.store σ).length, Sg.drop_ext, gsS_set]
    simp only [Sg.push_ext, Sg.len_ext]
    have e : List.replicate (out ++ [x]).length (none : Option (List PV)) = List.replicate out.length none ++ [none] := by simp [List.replicate_succ']
    simp only [List.cons_append, gsS, e, glS]
    have e2 : rowC ((y :: (out ++ [x])).map sdPV) = rowC ((y :: out).map sdPV) ++ rowC [.agg [I x.school, I x.total, ints x.points]] := by
      simp [rowC, sdPV, sdCells]
    rw [e2]
    simp [Nat.add_assoc]
end
theorem sink_len (ord : List Int) : ∀ (j : Nat) (l : List Stand), (sink ord j l).length = l.length := by
  intro j
  induction j with
  | zero => intro l; rfl
  | succ j ih =>
    intro l
    simp only [sink]
    split
    · split
      · rw [ih]; simp
      · rfl
    · rfl
theorem sinkAll_len (ord : List Int) : ∀ (k i : Nat) (l : List Stand), (sinkAll ord k i l).length = l.length := by
  intro k
  induction k with
  | zero => intro i l; rfl
  | succ k ih => intro i l; simp only [sinkAll, ih, sink_len]
theorem sortSd_len (ord : List Int) (l : List Stand) : (sortSd ord l).length = l.length := sinkAll_len _ _ _ _
theorem sort_gs (Y : YEnv) (σ : Sg) (A : List (Option (List PV))) (rm : List Nat) (ord : List Int) (out : List Stand) (hC : ∀ a b, a ∈ out → b ∈ out → CmpOk ord a b) (hol : ord.length < 2 ^ 40) (hl : 0 < out.length ∧ out.length ≤ 12) :
    PC Try.prog Y 44 [glS (σ.store.length + A.length) out, .func (.func 42) [.agg [ints ord]] []] (σ.ext (A ++ gsS out) rm) (.tuple []) (σ.ext (A ++ gsS (sortSd ord out)) rm) := by
  cases out with
  | nil => simp at hl
  | cons x out =>
    have h1 := sortFunc_pc Y (σ.ext (A ++ gsS (x :: out)) rm) (σ.store.length + A.length + out.length) ord (x :: out) (by rw [Nat.add_assoc, Sg.get_ext]; exact gsS_get) hC hol hl
    rw [Nat.add_assoc, Sg.set_ext, gsS_set] at h1
    have e : A ++ (List.replicate out.length none ++ [some (rowC ((sortSd ord (x :: out)).map sdPV))]) = A ++ gsS (sortSd ord (x :: out)) := by
      have hs := sortSd_len ord (x :: out)
      cases hc : sortSd ord (x :: out) with
      | nil => rw [hc] at hs; simp at hs
      | cons y s =>
        rw [hc] at hs
        simp only [List.length_cons] at hs
        simp only [gsS]
        rw [show out.length = s.length by omega]
    rw [e] at h1
    simp only [glS]
    rw [Nat.add_assoc]
    exact h1
theorem glS_sort (n : Nat) (ord : List Int) (out : List Stand) : glS n (sortSd ord out) = glS n out := by
  have hl := sortSd_len ord out
  cases h : sortSd ord out with
  | nil =>
    rw [h] at hl
    cases out with
    | nil => rfl
    | cons x out => simp at hl
  | cons y s =>
    rw [h] at hl
    cases out with
    | nil => simp at hl
    | cons x out => simp only [List.length_cons] at hl; simp only [glS]; rw [show s.length = out.length by omega]
def sdUp (s : Scale) (k : Kn) (g : Night) (i : Nat) : List Stand := (List.range i).map fun (j : Nat) => standK s k g j 0
theorem sdUp_succ (s : Scale) (k : Kn) (g : Night) (i : Nat) : sdUp s k g (i + 1) = sdUp s k g i ++ [standK s k g i 0] := by simp [sdUp, List.range_succ]
/-- The table as the program makes it. -/
def tblP (s : Scale) (k : Kn) (g : Night) : List Stand := sortSd s.order (sdUp s k g s.schools.toNat)
def tableP (s : Scale) (g : Night) : List Stand × Int :=
  if knownE s g ≠ 0 then ([], knownE s g) else if sealedK s (knownK s g) ≠ [] then ([], 11) else (tblP s (knownK s g) g, 0)
set_option maxHeartbeats 2000000 in
theorem plcE_pc (Y : YEnv) (σ : Sg) (s : Scale) (g : Night) (hs : s.Ok) (hg : g.Ok) (sc : Int) (hE : knownE s g ≠ 0) :
    PC Try.prog Y 16 [scPV s, ngPV g, I sc] σ (.tuple [.agg [I 0, I 0], I (knownE s g)]) (σ) := by
  refine PC_of_W Try.func16 rfl (by kernel_rfl) Try.ntmps16 (by simp) fun hcl hca => ?_
  refine W_seq fun kz1 kq1 => ?_
  refine W_region [3, 4, 5, 6] fun R hR => ?_   -- r0
  simp only [go_sem]
  refine hR _ _ (kq1 _ _ ?_); clear hR R; try clear kq1 kz1
  try simp only [go_sem]
  refine W_seq fun kz2 kq2 => ?_
  refine W_region [3, 4, 5, 6, 8, 9] fun R hR => ?_   -- r1
  simp only [go_sem]
  refine GCall_of (knownOf_err Y _ s g hs hg hE) ?_   -- t14
  simp only [go_sem]
  refine hR _ _ (kq2 _ _ ?_); clear hR R; try clear kq2 kz2
  try simp only [go_sem]
  refine W_seq fun kz3 kq3 => ?_
  refine W_seq fun kz4 kq4 => ?_
  refine W_region [3, 4, 5, 6, 8, 9, 18] fun R hR => ?_   -- r2
  simp only [go_sem]
  refine hR _ _ (kq4 _ _ ?_); clear hR R; try clear kq4 kz4
  try simp only [go_sem]
  refine W_cond rfl (fun c1 => ?_) (fun c1 => ?_)
  · -- c1 true
    try simp only [nrm] at c1
    refine W_seq fun kz5 kq5 => ?_
    refine W_region [6, 7] fun R hR => ?_   -- r3
    simp only [go_sem]
    refine hR _ _ (kq5 _ _ ?_); clear hR R; try clear kq5 kz5
    try simp only [go_sem]
    refine W_ret ?_
    simp only [go_sem]
    refine ⟨.inr (by trivial), ?_⟩
    first | refine Fin_same hcl (by show resPV Try.prog _ _ [.cell 6 48, .tmp 7] = some _; simp only [resPV, go_sem]; rfl) (Wk_eq ?_ (by simp only [go_sem])) | refine Fin_same hcl rfl (Wk_eq ?_ (by simp only [go_sem]))
    try simp only [go_sem]
    all_goals
      first | rfl | (simp_all; done) | (simp_all; omega)
  · -- c1 false
    try simp only [nrm] at c1
    exfalso
    first | exact hE (by omega) | (simp at c1; exact hE (by omega))
set_option maxHeartbeats 2000000 in
theorem plcO_pc (Y : YEnv) (σ : Sg) (s : Scale) (g : Night) (hs : s.Ok) (hg : g.Ok) (sc : Int) (hE : knownE s g = 0) :
    PC Try.prog Y 16 [scPV s, ngPV g, I sc] σ (.tuple [.agg [I (placeA s g sc).1.1, I (placeA s g sc).1.2], I (placeA s g sc).2]) (σ) := by
  refine PC_of_W Try.func16 rfl (by kernel_rfl) Try.ntmps16 (by simp) fun hcl hca => ?_
  have hV := known_V hE
  obtain ⟨K, hK⟩ : ∃ z, knownK s g = z := ⟨_, rfl⟩
  rw [hK] at hV
  have hv := hV.v
  have q3 := hv.sc
  have q4 := hv.lo
  have q5 := hv.hi
  obtain ⟨N, hN⟩ : ∃ z : Nat, s.schools = z := ⟨s.schools.toNat, by omega⟩
  have hNi : (s.schools : Int) = (N : Int) := hN
  have hkn := fun Y σ => knownOf_ok Y σ s g hs hg hE
  rw [hK] at hkn
  refine W_seq fun kz1 kq1 => ?_
  refine W_region [3, 4, 5, 6] fun R hR => ?_   -- r0
  simp only [go_sem]
  refine hR _ _ (kq1 _ _ ?_); clear hR R; try clear kq1 kz1
  try simp only [go_sem]
  refine W_seq fun kz2 kq2 => ?_
  refine W_region [3, 4, 5, 6, 8, 9] fun R hR => ?_   -- r1
  simp only [go_sem]
  refine GCall_of (hkn Y _) ?_   -- t14
  simp only [go_sem]
  refine hR _ _ (kq2 _ _ ?_); clear hR R; try clear kq2 kz2
  try simp only [go_sem]
  refine W_seq fun kz3 kq3 => ?_
  refine W_seq fun kz4 kq4 => ?_
  refine W_region [3, 4, 5, 6, 8, 9, 18] fun R hR => ?_   -- r2
  simp only [go_sem]
  refine hR _ _ (kq4 _ _ ?_); clear hR R; try clear kq4 kz4
  try simp only [go_sem]
  refine W_cond_false rfl ?_
  refine W_skip (kq3 _ _ ?_)
  refine W_seq fun kz5 kq5 => ?_
  refine W_seq fun kz6 kq6 => ?_
  refine W_region [3, 4, 5, 6, 8, 26] fun R hR => ?_   -- r4
  simp only [go_sem]
  try simp (disch := omega) only [wrapI, wrapU]
  refine GCall_of (in_pc Y _ sc 0 _) ?_   -- t25
  simp only [go_sem]
  try simp (disch := omega) only [wrapI, wrapU]
  refine hR _ _ (kq6 _ _ ?_); clear hR R; try clear kq6 kz6
  try simp only [go_sem]
  refine W_cond rfl (fun c1 => ?_) (fun c1 => ?_)
  · -- c1 true
    try simp only [nrm] at c1
    refine W_seq fun kz7 kq7 => ?_
    refine W_region [6, 7] fun R hR => ?_   -- r5
    simp only [go_sem]
    refine hR _ _ (kq7 _ _ ?_); clear hR R; try clear kq7 kz7
    try simp only [go_sem]
    refine W_ret ?_
    simp only [go_sem]
    refine ⟨.inr (by trivial), ?_⟩
    first | refine Fin_same hcl (by show resPV Try.prog _ _ [.cell 6 48, .tmp 7] = some _; simp only [resPV, go_sem]; rfl) (Wk_eq ?_ (by simp only [go_sem])) | refine Fin_same hcl rfl (Wk_eq ?_ (by simp only [go_sem]))
    try simp only [go_sem]
    all_goals
      clear hNi hN; simp [placeA, hE, hK, *]
  · -- c1 false
    try simp only [nrm] at c1
    have hin : inR sc 0 (s.schools - 1) = true := c1
    have hin2 := hin
    simp only [inR_true] at hin2
    obtain ⟨n, rfl⟩ : ∃ n : Nat, sc = n := ⟨sc.toNat, by omega⟩
    refine W_skip (kq5 _ _ ?_)
    refine W_seq fun kz8 kq8 => ?_
    refine W_region [3, 6, 10] fun R hR => ?_   -- r6
    simp only [go_sem]
    refine hR _ _ (kq8 _ _ ?_); clear hR R; try clear kq8 kz8
    try simp only [go_sem]
    refine W_seq fun kz9 kq9 => ?_
    refine W_draw [6, 7] [0, 1, 2, 3, 4, 5, 6, 7, 8, 9, 10, 11, 12, 13, 14] [(6, 5), (7, 5), (8, 5), (9, 5), (10, 5)] [[], [], [1], [], [3], [0, 1, 2, 3, 4], [], [], [7], [], [9], [0, 1, 2, 3, 4, 5, 6, 7, 8, 9, 10], [0, 1, 2, 3, 4, 5, 6, 7, 8, 9, 10, 11], [0, 1, 2, 3, 4, 5, 6, 7, 8, 9, 10, 11, 12], [0, 1, 2, 3, 4, 5, 6, 7, 8, 9, 10, 11, 12, 13]] mixed (by kernel_rfl) fun R hR => ?_   -- r7
    simp only [go_sem]
    refine GCall_of (place1_pc Y _ (σ.store.length + 7) (σ.store.length + 6) (σ.store.length) (σ.store.length + 1) (σ.store.length + 2) s K g hV n (by omega) s.high s.low (by omega) (by omega) (Sg.get_ext ..) (Sg.get_ext ..) (Sg.get_ext0 ..) (Sg.get_ext ..) (Sg.get_ext ..)) ?_   -- t34
    simp only [go_sem]
    refine GCall_of (place1_pc Y _ (σ.store.length + 7) (σ.store.length + 6) (σ.store.length) (σ.store.length + 1) (σ.store.length + 2) s K g hV n (by omega) s.low s.high (by omega) (by omega) (Sg.get_ext ..) (Sg.get_ext ..) (Sg.get_ext0 ..) (Sg.get_ext ..) (Sg.get_ext ..)) ?_   -- t40
    simp only [go_sem]
    try refine And.intro (by repeat' (first | refine And.intro ?_ ?_ | exact GOr_right (fun _ => by simp only [go_sem]))) ?_
    refine hR _ _ (kq9 _ _ ?_); clear hR R; try clear kq9 kz9
    try simp only [go_sem]
    refine W_ret ?_
    simp only [go_sem]
    refine ⟨.inr (by trivial), ?_⟩
    first | refine Fin_same hcl (by show resPV Try.prog _ _ [.cell 6 48, .tmp 7] = some _; simp only [resPV, go_sem]; rfl) (Wk_eq ?_ (by simp only [go_sem])) | refine Fin_same hcl rfl (Wk_eq ?_ (by simp only [go_sem]))
    try simp only [go_sem]
    all_goals
      clear hNi hN; simp [placeA, hE, hK, *]
theorem Place_pc (Y : YEnv) (σ : Sg) (s : Scale) (g : Night) (hs : s.Ok) (hg : g.Ok) (sc : Int) : PC Try.prog Y 16 [scPV s, ngPV g, I sc] σ (.tuple [.agg [I (placeA s g sc).1.1, I (placeA s g sc).1.2], I (placeA s g sc).2]) σ := by
  by_cases h : knownE s g = 0
  · exact plcO_pc Y σ s g hs hg sc h
  · have e : placeA s g sc = ((0, 0), knownE s g) := by unfold placeA; rw [if_pos h]
    rw [e]; exact plcE_pc Y σ s g hs hg sc h
set_option maxHeartbeats 2000000 in
theorem tabE_pc (Y : YEnv) (σ : Sg) (s : Scale) (g : Night) (hs : s.Ok) (hg : g.Ok) (hE : knownE s g ≠ 0) :
    PC Try.prog Y 17 [scPV s, ngPV g] σ (.tuple [sds [], I (knownE s g)]) (σ) := by
  refine PC_of_W Try.func17 rfl (by kernel_rfl) Try.ntmps17 (by simp) fun hcl hca => ?_
  refine W_seq fun kz1 kq1 => ?_
  refine W_region [2, 3, 4, 5] fun R hR => ?_   -- r0
  simp only [go_sem]
  refine hR _ _ (kq1 _ _ ?_); clear hR R; try clear kq1 kz1
  try simp only [go_sem]
  refine W_seq fun kz2 kq2 => ?_
  refine W_region [2, 3, 4, 5, 6, 7] fun R hR => ?_   -- r1
  simp only [go_sem]
  refine GCall_of (knownOf_err Y _ s g hs hg hE) ?_   -- t14
  simp only [go_sem]
  refine hR _ _ (kq2 _ _ ?_); clear hR R; try clear kq2 kz2
  try simp only [go_sem]
  refine W_seq fun kz3 kq3 => ?_
  refine W_seq fun kz4 kq4 => ?_
  refine W_region [2, 3, 4, 5, 6, 7, 18] fun R hR => ?_   -- r2
  simp only [go_sem]
  refine hR _ _ (kq4 _ _ ?_); clear hR R; try clear kq4 kz4
  try simp only [go_sem]
  refine W_cond rfl (fun c1 => ?_) (fun c1 => ?_)
  · -- c1 true
    try simp only [nrm] at c1
    refine W_seq fun kz5 kq5 => ?_
    refine W_region [4, 5] fun R hR => ?_   -- r3
    simp only [go_sem]
    refine hR _ _ (kq5 _ _ ?_); clear hR R; try clear kq5 kz5
    try simp only [go_sem]
    refine W_ret ?_
    simp only [go_sem]
    refine ⟨.inr (by trivial), ?_⟩
    refine Fin_same hcl (by show resPV Try.prog _ _ [.cell 4 51, .cell 5 44] = some _; simp only [resPV, go_sem]; rfl) (Wk.ro (by simp only [go_sem]) ?_)
    try simp only [go_sem]
    all_goals
      first | rfl | (simp [PV.ro, PV.roL]; done)
  · -- c1 false
    try simp only [nrm] at c1
    exfalso
    first | exact hE (by omega) | (simp at c1; exact hE (by omega))
set_option maxHeartbeats 2000000 in
theorem tabS_pc (Y : YEnv) (σ : Sg) (s : Scale) (g : Night) (hs : s.Ok) (hg : g.Ok) (hE : knownE s g = 0) (hne0 : sealedK s (knownK s g) ≠ []) :
    PC Try.prog Y 17 [scPV s, ngPV g] σ (.tuple [sds [], I 11]) (σ) := by
  refine PC_of_W Try.func17 rfl (by kernel_rfl) Try.ntmps17 (by simp) fun hcl hca => ?_
  have hV := known_V hE
  obtain ⟨K, hK⟩ : ∃ z, knownK s g = z := ⟨_, rfl⟩
  rw [hK] at hV
  have hv := hV.v
  have q3 := hv.sc
  have q4 := hv.lo
  have q5 := hv.hi
  obtain ⟨N, hN⟩ : ∃ z : Nat, s.schools = z := ⟨s.schools.toNat, by omega⟩
  have hNi : (s.schools : Int) = (N : Int) := hN
  have hkn := fun Y σ => knownOf_ok Y σ s g hs hg hE
  rw [hK] at hkn
  have hne : sealedK s K ≠ [] := by rw [← hK]; exact hne0
  refine W_seq fun kz1 kq1 => ?_
  refine W_region [2, 3, 4, 5] fun R hR => ?_   -- r0
  simp only [go_sem]
  refine hR _ _ (kq1 _ _ ?_); clear hR R; try clear kq1 kz1
  try simp only [go_sem]
  refine W_seq fun kz2 kq2 => ?_
  refine W_region [2, 3, 4, 5, 6, 7] fun R hR => ?_   -- r1
  simp only [go_sem]
  refine GCall_of (hkn Y _) ?_   -- t14
  simp only [go_sem]
  refine hR _ _ (kq2 _ _ ?_); clear hR R; try clear kq2 kz2
  try simp only [go_sem]
  refine W_seq fun kz3 kq3 => ?_
  refine W_seq fun kz4 kq4 => ?_
  refine W_region [2, 3, 4, 5, 6, 7, 18] fun R hR => ?_   -- r2
  simp only [go_sem]
  refine hR _ _ (kq4 _ _ ?_); clear hR R; try clear kq4 kz4
  try simp only [go_sem]
  refine W_cond_false rfl ?_
  refine W_skip (kq3 _ _ ?_)
  refine W_seq fun kz5 kq5 => ?_
  refine W_seq fun kz6 kq6 => ?_
  refine W_region [2, 3, 4, 5, 6, 22] fun R hR => ?_   -- r4
  simp only [go_sem]
  refine GCall_of (sealed_pc Y _ (σ.store.length + 6) (by simp only [go_sem] <;> omega) s) ?_   -- t22
  simp only [go_sem]
  refine hR _ _ (kq6 _ _ ?_); clear hR R; try clear kq6 kz6
  try simp only [go_sem]
  refine W_block ?_
  have hLc : ∀ (z : Int) (n r yy : Nat), σ.store.length + 9 ≤ n → CleanLs n r yy [some (scCells s), some (ngCells g), some [.isl [] .exact], some [I z], some (scCells s), some (ngCells g), some (.mark :: knE K), some [.map (σ.store.length + 6)], some (scCells s)] := fun z n r yy h => by
    have c1 := cleans_ng (a := n) (b := r) (c := yy) g
    have c2 := cleans_sc (a := n) (b := r) (c := yy) s
    have c3 : CleanAll n r yy (knE K) := cA_kn.mpr trivial
    have c1' : CleanAll n r yy (ngCells g) := c1
    have c2' : CleanAll n r yy (scCells s) := c2
    simp only [CleanLs_cons, CleanLs_nil, CleanAll_cons, CleanAll_nil, Cl_map, Cl_mark, Cl_isl, OwnLt_exact, Cl_int, c1', c2', c3, true_and, and_true]
    omega
  refine W_rangeFunc (gf := 66) (v := .tuple []) (s := .done .ret) (σ5 := σ.ext [some (scCells s), some (ngCells g), some [.isl [] .exact], some [I 11], some (scCells s), some (ngCells g), some (.mark :: knE K), some [.map (σ.store.length + 6)], some (scCells s)] [] [.done .ret]) rfl (by simp) (fun args ρ b' ρ' => ∃ m n : Nat, args = [.agg [I m, I n]] ∧ b' = false ∧ ρ = (σ.ext [some (scCells s), some (ngCells g), some [.isl [] .exact], some [I 0], some (scCells s), some (ngCells g), some (.mark :: knE K), some [.map (σ.store.length + 6)], some (scCells s)] [] [.ready]).ext [some [.yield σ.ys.length], some (scCells s), some [I m, I n]] [] [.busy] ∧ ρ' = (σ.ext [some (scCells s), some (ngCells g), some [.isl [] .exact], some [I 11], some (scCells s), some (ngCells g), some (.mark :: knE K), some [.map (σ.store.length + 6)], some (scCells s)] [] [.done .ret]).ext [some [.yield σ.ys.length], some (scCells s), some [I m, I n]] [] [.busy]) ?_ ?_ ?_ ?_ ?_
  · rintro args τ b τ' ⟨m, n, rfl, rfl, rfl, rfl⟩
    refine ⟨rfl, ?_, ?_⟩
    · simp only [go_sem]
    · simp only [go_sem]
      refine W_skip ?_
      simp only [go_sem, putAll]
      skip
      refine W_post_weak ?_
      refine W_block ?_
      refine W_seq fun kz7 kq7 => ?_
      refine W_region [4, 5] fun R hR => ?_   -- r5
      simp only [go_sem, putAll]
      refine hR _ _ (kq7 _ _ ?_); clear hR R; try clear kq7 kz7
      try simp only [go_sem, putAll]
      refine W_ret ?_
      simp only [go_sem, putAll]
      refine ⟨[], _, Weak.keep [], ?_⟩
      simp only [RoundEnd, go_sem]
  · have hst := sealedB_pc (Y.at σ.ys.length (fun args ρ b' ρ' => ∃ m n : Nat, args = [.agg [I m, I n]] ∧ b' = false ∧ ρ = (σ.ext [some (scCells s), some (ngCells g), some [.isl [] .exact], some [I 0], some (scCells s), some (ngCells g), some (.mark :: knE K), some [.map (σ.store.length + 6)], some (scCells s)] [] [.ready]).ext [some [.yield σ.ys.length], some (scCells s), some [I m, I n]] [] [.busy] ∧ ρ' = (σ.ext [some (scCells s), some (ngCells g), some [.isl [] .exact], some [I 11], some (scCells s), some (ngCells g), some (.mark :: knE K), some [.map (σ.store.length + 6)], some (scCells s)] [] [.done .ret]).ext [some [.yield σ.ys.length], some (scCells s), some [I m, I n]] [] [.busy])) σ σ.ys.length (σ.store.length + 8) (σ.store.length + 7) (σ.store.length + 6) s hv K (σ.ext [some (scCells s), some (ngCells g), some [.isl [] .exact], some [I 0], some (scCells s), some (ngCells g), some (.mark :: knE K), some [.map (σ.store.length + 6)], some (scCells s)] [] [.ready]) (σ.ext [some (scCells s), some (ngCells g), some [.isl [] .exact], some [I 11], some (scCells s), some (ngCells g), some (.mark :: knE K), some [.map (σ.store.length + 6)], some (scCells s)] [] [.done .ret])
      (Sg.get_ext ..) (Sg.get_ext ..) (Sg.get_ext ..) (by simp only [go_sem]) (by simp only [go_sem]) (by simp only [go_sem]) (fun _ => CleanSg_ext hcl (hLc 11 _ _ _ (by simp only [go_sem] <;> omega))) hne
      (fun m n _ => by rw [YEnv.at_self]; exact ⟨m, n, rfl, rfl, rfl, rfl⟩)
    simp only [go_sem] at hst ⊢
    exact hst
  · simp only [go_sem]
  · simp only [go_sem]
    exact CleanCut_ext hcl (by first | omega | (simp only [go_sem] <;> omega)) (by first | omega | (simp only [go_sem] <;> omega)) (Nat.le_refl _) (hLc 11 _ _ _ (by first | omega | (simp only [go_sem] <;> omega)))
  · simp only [go_sem]
    simp only [AfterLoop]
    refine W_ret ?_
    simp only [go_sem]
    refine ⟨.inr (by trivial), ?_⟩
    refine Fin_same hcl (by show resPV Try.prog _ _ [.cell 4 51, .cell 5 44] = some _; simp only [resPV, go_sem]; rfl) (Wk.ro (by simp only [go_sem]) ?_)
    rfl
end Go.Proofs.Ytgelnjmddabgpaa
namespace Go.Proofs.Ytgelnjmddabgpaa
open Go Go.RowKit
set_option maxRecDepth 100000
theorem Weak.freezeS {N : Nat} {lo : Nat × Nat} {E : Env} {σ : Sg} {t : Nat} {A : List (Option (List PV))} {rm : List Nat} {ys : List LState} {out : List Stand} (ht : E.get t = glS (σ.store.length + A.length) out) (hne : out ≠ []) :
    Weak N lo E (σ.ext (A ++ gsS out) rm ys) (E.put (some t) (.isl (out.map sdPV) .ro)) (σ.ext (A ++ List.replicate out.length none) rm ys) := by
  cases out with
  | nil => exact absurd rfl hne
  | cons z zs =>
    have h := Weak.freeze (N := N) (lo := lo) (E := E) (σ := σ.ext (A ++ gsS (z :: zs)) rm ys) (t := t) (id := σ.store.length + (A.length + zs.length)) (len := zs.length + 1) (es := 3) (l := (z :: zs).map sdPV) (by rw [ht]; simp only [glS, Nat.add_assoc]) (by rw [Sg.get_ext]; exact gsS_get) (by simp) (fun q hq => by obtain ⟨x, _, rfl⟩ := List.mem_map.1 hq; rfl)
    rw [Sg.drop_ext, gsS_set] at h
    have e : List.replicate (z :: zs).length (none : Option (List PV)) = List.replicate zs.length none ++ [none] := by simp [List.replicate_succ']
    rw [e]
    exact h
set_option maxHeartbeats 4000000 in
theorem tabO_pc (Y : YEnv) (σ : Sg) (s : Scale) (g : Night) (hs : s.Ok) (hg : g.Ok) (hE : knownE s g = 0) (hne0 : sealedK s (knownK s g) = []) :
    PC Try.prog Y 17 [scPV s, ngPV g] σ (.tuple [sds (tblP s (knownK s g) g), I 0]) (σ) := by
  refine PC_of_W Try.func17 rfl (by kernel_rfl) Try.ntmps17 (by simp) fun hcl hca => ?_
  have hV := known_V hE
  obtain ⟨K, hK⟩ : ∃ z, knownK s g = z := ⟨_, rfl⟩
  rw [hK] at hV
  have hv := hV.v
  have q3 := hv.sc
  have q4 := hv.lo
  have q5 := hv.hi
  obtain ⟨N, hN⟩ : ∃ z : Nat, s.schools = z := ⟨s.schools.toNat, by omega⟩
  have hNi : (s.schools : Int) = (N : Int) := hN
  have hkn := fun Y σ => knownOf_ok Y σ s g hs hg hE
  rw [hK] at hkn
  have hne : sealedK s K = [] := by rw [← hK]; exact hne0
  have htb : tblP s (knownK s g) g = sortSd s.order (sdUp s K g N) := by rw [hK, tblP, hN, Int.toNat_natCast]
  rw [htb]
  have hol := hv.ol
  have q1 := hv.mt
  refine W_seq fun kz1 kq1 => ?_
  refine W_region [2, 3, 4, 5] fun R hR => ?_   -- r0
  simp only [go_sem]
  refine hR _ _ (kq1 _ _ ?_); clear hR R; try clear kq1 kz1
  try simp only [go_sem]
  refine W_seq fun kz2 kq2 => ?_
  refine W_region [2, 3, 4, 5, 6, 7] fun R hR => ?_   -- r1
  simp only [go_sem]
  refine GCall_of (hkn Y _) ?_   -- t14
  simp only [go_sem]
  refine hR _ _ (kq2 _ _ ?_); clear hR R; try clear kq2 kz2
  try simp only [go_sem]
  refine W_seq fun kz3 kq3 => ?_
  refine W_seq fun kz4 kq4 => ?_
  refine W_region [2, 3, 4, 5, 6, 7, 18] fun R hR => ?_   -- r2
  simp only [go_sem]
  refine hR _ _ (kq4 _ _ ?_); clear hR R; try clear kq4 kz4
  try simp only [go_sem]
  refine W_cond_false rfl ?_
  refine W_skip (kq3 _ _ ?_)
  refine W_seq fun kz5 kq5 => ?_
  refine W_seq fun kz6 kq6 => ?_
  refine W_region [2, 3, 4, 5, 6, 22] fun R hR => ?_   -- r4
  simp only [go_sem]
  refine GCall_of (sealed_pc Y _ (σ.store.length + 6) (by simp only [go_sem] <;> omega) s) ?_   -- t22
  simp only [go_sem]
  refine hR _ _ (kq6 _ _ ?_); clear hR R; try clear kq6 kz6
  try simp only [go_sem]
  refine W_block ?_
  have hLc : ∀ (z : Int) (n r yy : Nat), σ.store.length + 9 ≤ n → CleanLs n r yy [some (scCells s), some (ngCells g), some [.isl [] .exact], some [I z], some (scCells s), some (ngCells g), some (.mark :: knE K), some [.map (σ.store.length + 6)], some (scCells s)] := fun z n r yy h => by
    have c1 := cleans_ng (a := n) (b := r) (c := yy) g
    have c2 := cleans_sc (a := n) (b := r) (c := yy) s
    have c3 : CleanAll n r yy (knE K) := cA_kn.mpr trivial
    have c1' : CleanAll n r yy (ngCells g) := c1
    have c2' : CleanAll n r yy (scCells s) := c2
    simp only [CleanLs_cons, CleanLs_nil, CleanAll_cons, CleanAll_nil, Cl_map, Cl_mark, Cl_isl, OwnLt_exact, Cl_int, c1', c2', c3, true_and, and_true]
    omega
  refine W_rangeFunc (gf := 66) (v := .tuple []) (s := .ready) (σ5 := σ.ext [some (scCells s), some (ngCells g), some [.isl [] .exact], some [I 0], some (scCells s), some (ngCells g), some (.mark :: knE K), some [.map (σ.store.length + 6)], some (scCells s)] [] [.ready]) rfl (by simp) (fun _ _ _ _ => False) ?_ ?_ ?_ ?_ ?_
  · intro args τ b τ' h; exact h.elim
  · have hst := sealedA_pc (Y.at σ.ys.length (fun _ _ _ _ => False)) σ σ.ys.length (σ.store.length + 8) (σ.store.length + 7) (σ.store.length + 6) s hv K (fun _ => σ.ext [some (scCells s), some (ngCells g), some [.isl [] .exact], some [I 0], some (scCells s), some (ngCells g), some (.mark :: knE K), some [.map (σ.store.length + 6)], some (scCells s)] [] [.ready])
      (fun _ _ => Sg.get_ext ..) (fun _ _ => Sg.get_ext ..) (fun _ _ => Sg.get_ext ..) (fun _ _ => ⟨rfl, rfl, rfl⟩) (fun h _ _ => h)
      (fun c m n h => by rw [hne] at h; simp at h)
    simp only [go_sem] at hst ⊢
    exact hst
  · simp only [go_sem]
  · simp only [go_sem]
    exact CleanCut_ext hcl (by first | omega | (simp only [go_sem] <;> omega)) (by first | omega | (simp only [go_sem] <;> omega)) (Nat.le_refl _) (hLc 0 _ _ _ (by first | omega | (simp only [go_sem] <;> omega)))
  · simp only [AfterLoop, go_sem]
    refine kq5 _ _ ?_
    refine W_seq fun kz7 kq7 => ?_
    refine W_region [2, 3, 4, 5, 6, 8] fun R hR => ?_   -- r6
    simp only [go_sem]
    refine hR _ _ (kq7 _ _ ?_); clear hR R; try clear kq7 kz7
    try simp only [go_sem]
    refine W_seq fun kz8 kq8 => ?_
    refine W_seq fun kz9 kq9 => ?_
    refine W_region [2, 3, 4, 5, 6, 8, 25, 26] fun R hR => ?_   -- r7
    simp only [go_sem]
    refine hR _ _ (kq9 _ _ ?_); clear hR R; try clear kq9 kz9
    try simp only [go_sem]
    refine W_block ?_
    refine W_weak (Weak.gnil (t := 8) rfl) ?_
    refine W_weak (Weak.keep [2, 3, 4, 5, 6, 8, 25, 26]) ?_
    simp only [go_sem]
    refine W_loopT (α := Nat) (fun (i : Nat) => [(8, glS (σ.store.length + 9) (sdUp s K g i)), (26, I i)]) (fun (i : Nat) => σ.ext ([some (scCells s), some (ngCells g), some [.isl [] .exact], some [I 0], some (scCells s), some (ngCells g), some (.mark :: knE K), some [.map (σ.store.length + 6)], some (scCells s)] ++ gsS (sdUp s K g i)) []) (fun (i : Nat) => i ≤ N) (fun (i : Nat) => N - i) (0) rfl (by first | rfl | (simp only [go_sem]; done) | (simp only [go_sem]; rfl)) (Nat.zero_le _) ?_
    rintro i hi
    refine W_seq fun kz10 kq10 => ?_
    refine W_region [2, 3, 4, 5, 6, 8, 25, 26, 27] fun R hR => ?_   -- r8
    simp only [go_sem]
    refine hR _ _ (kq10 _ _ ?_); clear hR R; try clear kq10 kz10
    try simp only [go_sem]
    refine W_seq fun kz11 kq11 => ?_
    refine W_cond rfl (fun c1 => ?_) (fun c1 => ?_)
    · -- c1 true
      try simp only [nrm] at c1
      have hiN : i < N := by first | omega | (simp at c1; omega)
      have hsu := sdUp_succ s K g i
      have hsl : (sdUp s K g i).length = i := by simp [sdUp]
      have happ := appG_gs (σ := σ) (A := [some (scCells s), some (ngCells g), some [.isl [] .exact], some [I 0], some (scCells s), some (ngCells g), some (.mark :: knE K), some [.map (σ.store.length + 6)], some (scCells s)]) (rm := []) (ys := []) (out := sdUp s K g i) 40 (standK s K g i 0) (by omega)
      rw [← hsu] at happ
      simp only [go_sem, List.length_cons, List.length_nil] at happ
      refine W_skip (kq11 _ _ ?_)
      refine W_seq fun kz12 kq12 => ?_
      refine W_block ?_
      refine W_seq fun kz13 kq13 => ?_
      refine W_region [2, 3, 4, 5, 6, 8, 9, 25, 26] fun R hR => ?_   -- r9
      simp only [go_sem, happ]
      refine hR _ _ (kq13 _ _ ?_); clear hR R; try clear kq13 kz13
      try simp only [go_sem, happ]
      refine W_region [2, 3, 4, 5, 6, 8, 25, 26] fun R hR => ?_   -- r10
      simp only [go_sem, happ]
      refine GCall_of (standing_pc Y _ (σ.store.length + 6) K (Sg.get_ext ..) s g hV i (by omega) 0 (by omega)) ?_   -- t34
      simp only [go_sem, happ]
      try simp (disch := first | omega | (simp only [go_sem] <;> omega)) only [wrapI, wrapU, appX_exact, appX_tok]
      try simp only [go_sem, happ]
      refine hR _ _ (kq12 _ _ ?_); clear hR R; try clear kq12 kz12
      try simp only [go_sem, happ]
      refine W_region [2, 3, 4, 5, 6, 8, 25, 26] fun R hR => ?_   -- r11
      simp only [go_sem, happ]
      try simp (disch := omega) only [wrapI, wrapU]
      refine hR _ _ ?_; clear hR R
      try simp only [go_sem, happ]
      refine ⟨i + 1, ?_, by (try simp only []); omega, ?_⟩
      · exact Weak.refl
      · try dsimp only
        omega
    · -- c1 false
      try simp only [nrm] at c1
      have hie : N = i := by first | omega | (simp at c1; omega)
      subst hie
      have hsl : (sdUp s K g N).length = N := by simp [sdUp]
      have hCmp : ∀ a b, a ∈ sdUp s K g N → b ∈ sdUp s K g N → CmpOk s.order a b := fun a b ha hb => by
        obtain ⟨x, hx, rfl⟩ := List.mem_map.1 ha
        obtain ⟨y, hy, rfl⟩ := List.mem_map.1 hb
        have h1 := List.mem_range.1 hx
        have h2 := List.mem_range.1 hy
        exact cmp_ok hV (by omega) (by omega) (by omega) (by omega)
      refine W_exit ?_
      simp only [go_sem]
      refine kq8 _ _ ?_
      refine W_seq fun kz14 kq14 => ?_
      refine W_region [4, 5, 8, 10] fun R hR => ?_   -- r12
      simp only [go_sem]
      refine hR _ _ (kq14 _ _ ?_); clear hR R; try clear kq14 kz14
      try simp only [go_sem]
      refine W_seq fun kz15 kq15 => ?_
      refine W_region [4, 5, 8] fun R hR => ?_   -- r13
      simp only [go_sem]
      refine GCall_of (sort_gs Y σ [_, _, _, _, _, _, _, _, _] [] s.order (sdUp s K g N) hCmp (by omega) (by omega)) ?_   -- t44
      simp only [go_sem]
      refine hR _ _ (kq15 _ _ ?_); clear hR R; try clear kq15 kz15
      try simp only [go_sem]
      refine W_seq fun kz16 kq16 => ?_
      have hne3 : sortSd s.order (sdUp s K g N) ≠ [] := fun e => by
        have := sortSd_len s.order (sdUp s K g N)
        rw [e, hsl] at this
        simp at this; omega
      refine W_weak (Weak.freezeS (t := 8) (A := [_, _, _, _, _, _, _, _, _]) (out := sortSd s.order (sdUp s K g N)) (by rw [glS_sort]; rfl) hne3) ?_
      refine W_weak (Weak.keep [4, 5, 8]) ?_
      simp only [go_sem]
      refine W_region [4, 5] fun R hR => ?_   -- r14
      simp only [go_sem]
      refine hR _ _ (kq16 _ _ ?_); clear hR R; try clear kq16 kz16
      try simp only [go_sem]
      refine W_ret ?_
      simp only [go_sem]
      refine ⟨.inr (by trivial), ?_⟩
      refine Fin_same hcl (by show resPV Try.prog _ _ [.cell 4 51, .cell 5 44] = some _; simp only [resPV, go_sem]; rfl) (Wk.ro (by simp only [go_sem]) ?_)
      try simp only [go_sem]
      all_goals
        first | rfl | simp only [go_sem]
theorem Table_pc (Y : YEnv) (σ : Sg) (s : Scale) (g : Night) (hs : s.Ok) (hg : g.Ok) : PC Try.prog Y 17 [scPV s, ngPV g] σ (.tuple [sds (tableP s g).1, I (tableP s g).2]) σ := by
  unfold tableP
  by_cases h : knownE s g = 0
  · rw [if_neg (by simpa using h)]
    by_cases h2 : sealedK s (knownK s g) = []
    · rw [if_neg (by simpa using h2)]; exact tabO_pc Y σ s g hs hg h h2
    · rw [if_pos h2]; exact tabS_pc Y σ s g hs hg h h2
  · rw [if_pos h]; exact tabE_pc Y σ s g hs hg h
end Go.Proofs.Ytgelnjmddabgpaa
namespace Go.Proofs.Ytgelnjmddabgpaa
open Go Go.RowKit
set_option maxRecDepth 100000
def insI (x : Int) : List Int → List Int
  | [] => [x]
  | y :: l => if x ≤ y then x :: y :: l else y :: insI x l
def isortI : List Int → List Int
  | [] => []
  | x :: l => insI x (isortI l)
theorem sorted_sortI (l : List Int) : (sortI l).Pairwise (· ≤ ·) := by
  have h := List.pairwise_mergeSort (le := fun (a b : Int) => decide (a ≤ b)) (by intro a b c h1 h2; simp at *; omega) (by intro a b; simp; omega) l
  exact h.imp fun h => by simpa using h
theorem perm_sortI (l : List Int) : (sortI l).Perm l := List.mergeSort_perm l _
theorem insI_perm (x : Int) : ∀ l : List Int, (insI x l).Perm (x :: l) := by
  intro l
  induction l with
  | nil => exact .refl _
  | cons y l ih =>
    simp only [insI]
    split
    · exact .refl _
    · exact (ih.cons y).trans (.swap x y l)
theorem insI_sorted (x : Int) : ∀ {l : List Int}, l.Pairwise (· ≤ ·) → (insI x l).Pairwise (· ≤ ·) := by
  intro l
  induction l with
  | nil => intro _; simp [insI]
  | cons y l ih =>
    intro h
    obtain ⟨h1, h2⟩ := List.pairwise_cons.1 h
    simp only [insI]
    split
    · rename_i hxy
      exact List.pairwise_cons.2 ⟨fun z hz => by rcases List.mem_cons.1 hz with rfl | hz; exact hxy; exact Int.le_trans hxy (h1 z hz), h⟩
    · rename_i hxy
      refine List.pairwise_cons.2 ⟨fun z hz => ?_, ih h2⟩
      rcases List.mem_cons.1 ((insI_perm x l).mem_iff.1 hz) with rfl | hz
      · omega
      · exact h1 z hz
theorem isortI_perm : ∀ l : List Int, (isortI l).Perm l := by
  intro l
  induction l with
  | nil => exact .refl _
  | cons x l ih => exact (insI_perm x _).trans (ih.cons x)
theorem isortI_sorted : ∀ l : List Int, (isortI l).Pairwise (· ≤ ·) := by
  intro l
  induction l with
  | nil => exact .nil
  | cons x l ih => exact insI_sorted x ih
theorem sorted_unique : ∀ {l m : List Int}, l.Perm m → l.Pairwise (· ≤ ·) → m.Pairwise (· ≤ ·) → l = m := by
  intro l
  induction l with
  | nil => intro m h _ _; exact h.nil_eq
  | cons x l ih =>
    intro m h h1 h2
    obtain ⟨a1, a2⟩ := List.pairwise_cons.1 h1
    cases m with
    | nil => exact absurd h.length_eq (by simp)
    | cons y m =>
      obtain ⟨b1, b2⟩ := List.pairwise_cons.1 h2
      have e : x = y := by
        have hx : x ∈ y :: m := h.mem_iff.1 (by simp)
        have hy : y ∈ x :: l := h.mem_iff.2 (by simp)
        rcases List.mem_cons.1 hx with e | hx
        · exact e
        · rcases List.mem_cons.1 hy with e | hy
          · exact e.symm
          · have := b1 x hx; have := a1 y hy; omega
      subst e
      rw [ih ((List.perm_cons x).1 h) a2 b2]
theorem sortI_eq : sortI = isortI := by
  funext l
  exact sorted_unique ((perm_sortI l).trans (isortI_perm l).symm) (sorted_sortI l) (isortI_sorted l)
def exScale : Scale := ⟨3, 2, 3, 1, 50, 100, [1, 0]⟩
def exNight : Night := ⟨[⟨0, 0, [100, 90, 80], 633⟩, ⟨0, 1, [90, 100, 80], 655⟩, ⟨0, 2, [95, 95, 95], 707⟩, ⟨1, 0, [80, 90, 100], 774⟩, ⟨1, 1, [100, 70, 90], 736⟩], [(1, 2)], [(2, 5)]⟩
def exBefore : Night := ⟨[⟨0, 0, [100, 90, 80], 633⟩, ⟨0, 1, [90, 100, 80], 655⟩, ⟨0, 2, [95, 95, 95], 707⟩, ⟨1, 0, [80, 90, 100], 774⟩], [(1, 2)], [(2, 5)]⟩
theorem exTable : tableP exScale exNight = ([⟨0, 385, [195, 190]⟩, ⟨2, 365, [175, 195]⟩, ⟨1, 365, [195, 170]⟩], 0) := by
  simp only [tableP, tblP, sdUp, standK, pointsL, pointsK, sortI_eq]
  decide +kernel
theorem exTotals : totalsA exScale exBefore = ([(340, 385), (355, 390), (345, 370)], 0) := by
  simp only [totalsA, standK, pointsL, pointsK, sortI_eq]
  decide +kernel
theorem exPlace : placeA exScale exBefore 0 = ((1, 3), 0) := by
  simp only [placeA, placeK, standK, pointsL, pointsK, sortI_eq]
  decide +kernel
theorem exScale_ok : exScale.Ok := ⟨by decide⟩
theorem exNight_ok : exNight.Ok := ⟨by decide, by decide, by decide, by decide⟩
theorem exBefore_ok : exBefore.Ok := ⟨by decide, by decide, by decide, by decide⟩
set_option maxHeartbeats 2000000 in
theorem EqInts_pc (Y : YEnv) (σ : Sg) (xs ys : List Int) (o o2 : Own) (hx : xs.length < 2 ^ 50) :
    PC Try.prog Y 31 [.isl (xs.map I) o, .isl (ys.map I) o2] σ (.bool (decide (xs = ys))) (σ) := by
  refine PC_of_W Try.func31 rfl (by kernel_rfl) Try.ntmps31 (by simp) fun hcl hca => ?_
  refine W_seq fun kz1 kq1 => ?_
  refine W_region [0, 1] fun R hR => ?_   -- r0
  simp only [go_sem]
  refine hR _ _ (kq1 _ _ ?_); clear hR R; try clear kq1 kz1
  try simp only [go_sem]
  refine W_seq fun kz2 kq2 => ?_
  refine W_seq fun kz3 kq3 => ?_
  refine W_region [0, 1, 10] fun R hR => ?_   -- r1
  simp only [go_sem]
  refine hR _ _ (kq3 _ _ ?_); clear hR R; try clear kq3 kz3
  try simp only [go_sem]
  refine W_cond rfl (fun c1 => ?_) (fun c1 => ?_)
  · -- c1 true
    try simp only [nrm] at c1
    refine W_seq fun kz4 kq4 => ?_
    refine W_region [4] fun R hR => ?_   -- r2
    simp only [go_sem]
    refine hR _ _ (kq4 _ _ ?_); clear hR R; try clear kq4 kz4
    try simp only [go_sem]
    refine W_ret ?_
    simp only [go_sem]
    refine ⟨.inr (by trivial), ?_⟩
    first | refine Fin_same hcl rfl (Wk_eq ?_ (by simp only [go_sem])) | refine Fin_self hcl rfl (Wk_eq ?_ (by simp only [go_sem]))
    try simp only [go_sem]
    all_goals
      simp; intro h; subst h; exact c1 rfl
  · -- c1 false
    try simp only [nrm] at c1
    refine W_skip (kq2 _ _ ?_)
    refine W_seq fun kz5 kq5 => ?_
    refine W_seq fun kz6 kq6 => ?_
    refine W_region [0, 1, 5] fun R hR => ?_   -- r3
    simp only [go_sem]
    refine hR _ _ (kq6 _ _ ?_); clear hR R; try clear kq6 kz6
    try simp only [go_sem]
    refine W_block ?_
    refine W_loopS (α := Nat) (fun (i : Nat) => [(5, I i)]) (fun (i : Nat) => i ≤ xs.length ∧ xs.take i = ys.take i) (fun (i : Nat) => xs.length - i) (0) rfl (⟨Nat.zero_le _, rfl⟩) ?_
    rintro i ⟨hi, ht⟩
    refine W_seq fun kz7 kq7 => ?_
    refine W_seq fun kz8 kq8 => ?_
    refine W_region [0, 1, 5, 14] fun R hR => ?_   -- r4
    simp only [go_sem]
    refine hR _ _ (kq8 _ _ ?_); clear hR R; try clear kq8 kz8
    try simp only [go_sem]
    refine W_cond rfl (fun c2 => ?_) (fun c2 => ?_)
    · -- c2 true
      try simp only [nrm] at c2
      have hi' : i < xs.length := by first | assumption | omega
      obtain ⟨x, hxi⟩ : ∃ x, xs[i]? = some x := ⟨xs[i], by simp⟩
      obtain ⟨y, hyi⟩ : ∃ y, ys[i]? = some y := ⟨ys[i]'(by omega), by simp⟩
      refine W_skip (kq7 _ _ ?_)
      refine W_seq fun kz9 kq9 => ?_
      refine W_block ?_
      refine W_seq fun kz10 kq10 => ?_
      refine W_draw [0, 1, 5, 25] [0, 1, 2, 3, 4, 5, 6, 7, 8] [] [[], [], [0, 1], [0, 1, 2], [], [], [4, 5], [4, 5, 6], [0, 1, 2, 3, 4, 5, 6, 7]] mixed (by kernel_rfl) fun R hR => ?_   -- r6
      simp only [go_sem, hxi, hyi]
      try refine And.intro (by repeat' (first | refine And.intro ?_ ?_ | exact GOr_right (fun _ => by simp only [go_sem, hxi, hyi]))) ?_
      refine hR _ _ (kq10 _ _ ?_); clear hR R; try clear kq10 kz10
      try simp only [go_sem, hxi, hyi]
      refine W_cond rfl (fun c3 => ?_) (fun c3 => ?_)
      · -- c3 true
        try simp only [nrm] at c3
        refine W_seq fun kz11 kq11 => ?_
        refine W_region [4] fun R hR => ?_   -- r7
        simp only [go_sem, hxi, hyi]
        refine hR _ _ (kq11 _ _ ?_); clear hR R; try clear kq11 kz11
        try simp only [go_sem, hxi, hyi]
        refine W_ret ?_
        simp only [go_sem, hxi, hyi]
        refine ⟨.inr (by trivial), ?_⟩
        first | refine Fin_same hcl rfl (Wk_eq ?_ (by simp only [go_sem])) | refine Fin_self hcl rfl (Wk_eq ?_ (by simp only [go_sem]))
        try simp only [go_sem]
        all_goals
          simp; intro h; subst h; rw [hxi] at hyi; injection hyi with h; exact c3 h
      · -- c3 false
        try simp only [nrm] at c3
        refine W_skip (kq9 _ _ ?_)
        refine W_region [0, 1, 5] fun R hR => ?_   -- r5
        simp only [go_sem, hxi, hyi]
        try simp (disch := omega) only [wrapI, wrapU]
        refine hR _ _ ?_; clear hR R
        try simp only [go_sem, hxi, hyi]
        refine ⟨i + 1, ?_, by (try simp only []); omega, ?_⟩
        · first | exact Weak.refl | exact Weak.eq (by first | rfl | (simp only [go_sem]; done) | (simp only [go_sem]; rfl) | (simp [go_sem]; done) | (simp [go_sem] <;> omega)) (by first | rfl | (simp only [go_sem]; done) | (simp [go_sem]; done))
        · try dsimp only
          refine ⟨hi', ?_⟩
          rw [List.take_add_one, List.take_add_one, ht, hxi, hyi, c3]
    · -- c2 false
      try simp only [nrm] at c2
      have hie : i = xs.length := by omega
      subst hie
      have hxy : xs = ys := by rw [List.take_length] at ht; rw [c1, List.take_length] at ht; exact ht
      refine W_exit ?_
      simp only [go_sem]
      refine kq5 _ _ ?_
      refine W_seq fun kz12 kq12 => ?_
      refine W_region [4] fun R hR => ?_   -- r8
      simp only [go_sem]
      refine hR _ _ (kq12 _ _ ?_); clear hR R; try clear kq12 kz12
      try simp only [go_sem]
      refine W_ret ?_
      simp only [go_sem]
      refine ⟨.inr (by trivial), ?_⟩
      first | refine Fin_same hcl rfl (Wk_eq ?_ (by simp only [go_sem])) | refine Fin_self hcl rfl (Wk_eq ?_ (by simp only [go_sem]))
      try simp only [go_sem]
      all_goals
        simp [hxy]
theorem eqSp {a b c d : Int} : eqPV Try.prog 48 (.agg [.int .i64 a, .int .i64 b]) (.agg [.int .i64 c, .int .i64 d]) = some (decide ((a, b) = (c, d))) := by
  rw [eqs48]
  refine congrArg some ?_
  rw [Bool.eq_iff_iff]
  simp
attribute [go_sem high] eqSp
set_option maxHeartbeats 2000000 in
theorem EqSpans_pc (Y : YEnv) (σ : Sg) (xs ys : List (Int × Int)) (o o2 : Own) (hx : xs.length < 2 ^ 50) :
    PC Try.prog Y 18 [.isl (xs.map stPV) o, .isl (ys.map stPV) o2] σ (.bool (decide (xs = ys))) (σ) := by
  refine PC_of_W Try.func18 rfl (by kernel_rfl) Try.ntmps18 (by simp) fun hcl hca => ?_
  refine W_seq fun kz1 kq1 => ?_
  refine W_region [0, 1] fun R hR => ?_   -- r0
  simp only [go_sem]
  refine hR _ _ (kq1 _ _ ?_); clear hR R; try clear kq1 kz1
  try simp only [go_sem]
  refine W_seq fun kz2 kq2 => ?_
  refine W_seq fun kz3 kq3 => ?_
  refine W_region [0, 1, 10] fun R hR => ?_   -- r1
  simp only [go_sem]
  refine hR _ _ (kq3 _ _ ?_); clear hR R; try clear kq3 kz3
  try simp only [go_sem]
  refine W_cond rfl (fun c1 => ?_) (fun c1 => ?_)
  · -- c1 true
    try simp only [nrm] at c1
    refine W_seq fun kz4 kq4 => ?_
    refine W_region [4] fun R hR => ?_   -- r2
    simp only [go_sem]
    refine hR _ _ (kq4 _ _ ?_); clear hR R; try clear kq4 kz4
    try simp only [go_sem]
    refine W_ret ?_
    simp only [go_sem]
    refine ⟨.inr (by trivial), ?_⟩
    first | refine Fin_same hcl rfl (Wk_eq ?_ (by simp only [go_sem])) | refine Fin_self hcl rfl (Wk_eq ?_ (by simp only [go_sem]))
    try simp only [go_sem]
    all_goals
      simp; intro h; subst h; exact c1 rfl
  · -- c1 false
    try simp only [nrm] at c1
    refine W_skip (kq2 _ _ ?_)
    refine W_seq fun kz5 kq5 => ?_
    refine W_seq fun kz6 kq6 => ?_
    refine W_region [0, 1, 5] fun R hR => ?_   -- r3
    simp only [go_sem]
    refine hR _ _ (kq6 _ _ ?_); clear hR R; try clear kq6 kz6
    try simp only [go_sem]
    refine W_block ?_
    refine W_loopS (α := Nat) (fun (i : Nat) => [(5, I i)]) (fun (i : Nat) => i ≤ xs.length ∧ xs.take i = ys.take i) (fun (i : Nat) => xs.length - i) (0) rfl (⟨Nat.zero_le _, rfl⟩) ?_
    rintro i ⟨hi, ht⟩
    refine W_seq fun kz7 kq7 => ?_
    refine W_seq fun kz8 kq8 => ?_
    refine W_region [0, 1, 5, 14] fun R hR => ?_   -- r4
    simp only [go_sem]
    refine hR _ _ (kq8 _ _ ?_); clear hR R; try clear kq8 kz8
    try simp only [go_sem]
    refine W_cond rfl (fun c2 => ?_) (fun c2 => ?_)
    · -- c2 true
      try simp only [nrm] at c2
      have hi' : i < xs.length := by first | assumption | omega
      obtain ⟨x, hxi⟩ : ∃ x, xs[i]? = some x := ⟨xs[i], by simp⟩
      obtain ⟨y, hyi⟩ : ∃ y, ys[i]? = some y := ⟨ys[i]'(by omega), by simp⟩
      refine W_skip (kq7 _ _ ?_)
      refine W_seq fun kz9 kq9 => ?_
      refine W_block ?_
      refine W_seq fun kz10 kq10 => ?_
      refine W_draw [0, 1, 5, 25] [0, 1, 2, 3, 4, 5, 6, 7, 8] [] [[], [], [0, 1], [0, 1, 2], [], [], [4, 5], [4, 5, 6], [0, 1, 2, 3, 4, 5, 6, 7]] mixed (by kernel_rfl) fun R hR => ?_   -- r6
      simp only [go_sem, hxi, hyi]
      try refine And.intro (by repeat' (first | refine And.intro ?_ ?_ | exact GOr_right (fun _ => by simp only [go_sem, hxi, hyi]))) ?_
      refine hR _ _ (kq10 _ _ ?_); clear hR R; try clear kq10 kz10
      try simp only [go_sem, hxi, hyi]
      refine W_cond rfl (fun c3 => ?_) (fun c3 => ?_)
      · -- c3 true
        try simp only [nrm] at c3
        refine W_seq fun kz11 kq11 => ?_
        refine W_region [4] fun R hR => ?_   -- r7
        simp only [go_sem, hxi, hyi]
        refine hR _ _ (kq11 _ _ ?_); clear hR R; try clear kq11 kz11
        try simp only [go_sem, hxi, hyi]
        refine W_ret ?_
        simp only [go_sem, hxi, hyi]
        refine ⟨.inr (by trivial), ?_⟩
        first | refine Fin_same hcl rfl (Wk_eq ?_ (by simp only [go_sem])) | refine Fin_self hcl rfl (Wk_eq ?_ (by simp only [go_sem]))
        try simp only [go_sem]
        all_goals
          simp; intro h; subst h; rw [hxi] at hyi; injection hyi with h; subst h; simp at c3
      · -- c3 false
        try simp only [nrm] at c3
        refine W_skip (kq9 _ _ ?_)
        refine W_region [0, 1, 5] fun R hR => ?_   -- r5
        simp only [go_sem, hxi, hyi]
        try simp (disch := omega) only [wrapI, wrapU]
        refine hR _ _ ?_; clear hR R
        try simp only [go_sem, hxi, hyi]
        refine ⟨i + 1, ?_, by (try simp only []); omega, ?_⟩
        · first | exact Weak.refl | exact Weak.eq (by first | rfl | (simp only [go_sem]; done) | (simp only [go_sem]; rfl) | (simp [go_sem]; done) | (simp [go_sem] <;> omega)) (by first | rfl | (simp only [go_sem]; done) | (simp [go_sem]; done))
        · try dsimp only
          refine ⟨hi', ?_⟩
          rw [List.take_add_one, List.take_add_one, ht, hxi, hyi, show x = y by obtain ⟨a, b⟩ := x; obtain ⟨c, d⟩ := y; simpa using c3]
    · -- c2 false
      try simp only [nrm] at c2
      have hie : i = xs.length := by omega
      subst hie
      have hxy : xs = ys := by rw [List.take_length] at ht; rw [c1, List.take_length] at ht; exact ht
      refine W_exit ?_
      simp only [go_sem]
      refine kq5 _ _ ?_
      refine W_seq fun kz12 kq12 => ?_
      refine W_region [4] fun R hR => ?_   -- r8
      simp only [go_sem]
      refine hR _ _ (kq12 _ _ ?_); clear hR R; try clear kq12 kz12
      try simp only [go_sem]
      refine W_ret ?_
      simp only [go_sem]
      refine ⟨.inr (by trivial), ?_⟩
      first | refine Fin_same hcl rfl (Wk_eq ?_ (by simp only [go_sem])) | refine Fin_self hcl rfl (Wk_eq ?_ (by simp only [go_sem]))
      try simp only [go_sem]
      all_goals
        simp [hxy]
set_option maxHeartbeats 2000000 in
theorem EqTables_pc (Y : YEnv) (σ : Sg) (xs ys : List Stand) (o o2 : Own) (hx : xs.length < 2 ^ 50) (hy : ∀ x, x ∈ xs → x.points.length < 2 ^ 40) :
    PC Try.prog Y 19 [.isl (xs.map sdPV) o, .isl (ys.map sdPV) o2] σ (.bool (decide (xs = ys))) (σ) := by
  refine PC_of_W Try.func19 rfl (by kernel_rfl) Try.ntmps19 (by simp) fun hcl hca => ?_
  refine W_seq fun kz1 kq1 => ?_
  refine W_region [0, 1] fun R hR => ?_   -- r0
  simp only [go_sem]
  refine hR _ _ (kq1 _ _ ?_); clear hR R; try clear kq1 kz1
  try simp only [go_sem]
  refine W_seq fun kz2 kq2 => ?_
  refine W_seq fun kz3 kq3 => ?_
  refine W_region [0, 1, 10] fun R hR => ?_   -- r1
  simp only [go_sem]
  refine hR _ _ (kq3 _ _ ?_); clear hR R; try clear kq3 kz3
  try simp only [go_sem]
  refine W_cond rfl (fun c1 => ?_) (fun c1 => ?_)
  · -- c1 true
    try simp only [nrm] at c1
    refine W_seq fun kz4 kq4 => ?_
    refine W_region [4] fun R hR => ?_   -- r2
    simp only [go_sem]
    refine hR _ _ (kq4 _ _ ?_); clear hR R; try clear kq4 kz4
    try simp only [go_sem]
    refine W_ret ?_
    simp only [go_sem]
    refine ⟨.inr (by trivial), ?_⟩
    first | refine Fin_same hcl rfl (Wk_eq ?_ (by simp only [go_sem])) | refine Fin_self hcl rfl (Wk_eq ?_ (by simp only [go_sem]))
    try simp only [go_sem]
    all_goals
      simp; intro h; subst h; exact c1 rfl
  · -- c1 false
    try simp only [nrm] at c1
    refine W_skip (kq2 _ _ ?_)
    refine W_seq fun kz5 kq5 => ?_
    refine W_seq fun kz6 kq6 => ?_
    refine W_region [0, 1, 5] fun R hR => ?_   -- r3
    simp only [go_sem]
    refine hR _ _ (kq6 _ _ ?_); clear hR R; try clear kq6 kz6
    try simp only [go_sem]
    refine W_block ?_
    refine W_loopS (α := Nat) (fun (i : Nat) => [(5, I i)]) (fun (i : Nat) => i ≤ xs.length ∧ xs.take i = ys.take i) (fun (i : Nat) => xs.length - i) (0) rfl (⟨Nat.zero_le _, rfl⟩) ?_
    rintro i ⟨hi, ht⟩
    refine W_seq fun kz7 kq7 => ?_
    refine W_seq fun kz8 kq8 => ?_
    refine W_region [0, 1, 5, 14] fun R hR => ?_   -- r4
    simp only [go_sem]
    refine hR _ _ (kq8 _ _ ?_); clear hR R; try clear kq8 kz8
    try simp only [go_sem]
    refine W_cond rfl (fun c2 => ?_) (fun c2 => ?_)
    · -- c2 true
      try simp only [nrm] at c2
      have hi' : i < xs.length := by first | assumption | omega
      obtain ⟨x, hxi⟩ : ∃ x, xs[i]? = some x := ⟨xs[i], by simp⟩
      obtain ⟨y, hyi⟩ : ∃ y, ys[i]? = some y := ⟨ys[i]'(by omega), by simp⟩
      refine W_skip (kq7 _ _ ?_)
      refine W_seq fun kz9 kq9 => ?_
      refine W_block ?_
      refine W_seq fun kz10 kq10 => ?_
      refine W_draw [0, 1, 5, 54] [0, 1, 2, 3, 4, 5, 6, 7, 8, 9, 10, 11, 12, 13, 14, 15, 16, 17, 18, 19, 20, 21, 22, 23, 24, 25, 26, 27, 28, 29, 30, 31, 32, 33, 34, 35, 36, 37] [] [[], [], [0, 1], [0, 1, 2], [0, 1, 2, 3], [], [], [5, 6], [5, 6, 7], [5, 6, 7, 8], [0, 1, 2, 3, 4, 5, 6, 7, 8, 9], [0, 1, 2, 3, 4, 5, 6, 7, 8, 9, 10], [0, 1, 2, 3, 4, 5, 6, 7, 8, 9, 10, 11], [0, 1, 2, 3, 4, 5, 6, 7, 8, 9, 10, 11], [0, 1, 2, 3, 4, 5, 6, 7, 8, 9, 10, 11, 12, 13], [0, 1, 2, 3, 4, 5, 6, 7, 8, 9, 10, 11, 12, 13, 14], [0, 1, 2, 3, 4, 5, 6, 7, 8, 9, 10, 11, 12, 13, 14, 15], [0, 1, 2, 3, 4, 5, 6, 7, 8, 9, 10, 11], [0, 1, 2, 3, 4, 5, 6, 7, 8, 9, 10, 11], [0, 1, 2, 3, 4, 5, 6, 7, 8, 9, 10, 11, 17, 18], [0, 1, 2, 3, 4, 5, 6, 7, 8, 9, 10, 11, 17, 18, 19], [0, 1, 2, 3, 4, 5, 6, 7, 8, 9, 10, 11, 17, 18, 19, 20], [0, 1, 2, 3, 4, 5, 6, 7, 8, 9, 10, 11, 12, 13, 14, 15, 16, 17, 18, 19, 20, 21], [0, 1, 2, 3, 4, 5, 6, 7, 8, 9, 10, 11, 12, 13, 14, 15, 16, 17, 18, 19, 20, 21, 22], [0, 1, 2, 3, 4, 5, 6, 7, 8, 9, 10, 11, 12, 13, 14, 15, 16, 17, 18, 19, 20, 21, 22, 23], [0, 1, 2, 3, 4, 5, 6, 7, 8, 9, 10, 11, 12, 13, 14, 15, 16, 17, 18, 19, 20, 21, 22, 23, 24], [0, 1, 2, 3, 4, 5, 6, 7, 8, 9, 10, 11, 12, 13, 14, 15, 16, 17, 18, 19, 20, 21, 22, 23, 24], [0, 1, 2, 3, 4, 5, 6, 7, 8, 9, 10, 11, 12, 13, 14, 15, 16, 17, 18, 19, 20, 21, 22, 23, 24, 25, 26], [0, 1, 2, 3, 4, 5, 6, 7, 8, 9, 10, 11, 12, 13, 14, 15, 16, 17, 18, 19, 20, 21, 22, 23, 24, 25, 26, 27], [0, 1, 2, 3, 4, 5, 6, 7, 8, 9, 10, 11, 12, 13, 14, 15, 16, 17, 18, 19, 20, 21, 22, 23, 24, 25, 26, 27, 28], [0, 1, 2, 3, 4, 5, 6, 7, 8, 9, 10, 11, 12, 13, 14, 15, 16, 17, 18, 19, 20, 21, 22, 23, 24], [0, 1, 2, 3, 4, 5, 6, 7, 8, 9, 10, 11, 12, 13, 14, 15, 16, 17, 18, 19, 20, 21, 22, 23, 24], [0, 1, 2, 3, 4, 5, 6, 7, 8, 9, 10, 11, 12, 13, 14, 15, 16, 17, 18, 19, 20, 21, 22, 23, 24, 30, 31], [0, 1, 2, 3, 4, 5, 6, 7, 8, 9, 10, 11, 12, 13, 14, 15, 16, 17, 18, 19, 20, 21, 22, 23, 24, 30, 31, 32], [0, 1, 2, 3, 4, 5, 6, 7, 8, 9, 10, 11, 12, 13, 14, 15, 16, 17, 18, 19, 20, 21, 22, 23, 24, 30, 31, 32, 33], [0, 1, 2, 3, 4, 5, 6, 7, 8, 9, 10, 11, 12, 13, 14, 15, 16, 17, 18, 19, 20, 21, 22, 23, 24, 25, 26, 27, 28, 29, 30, 31, 32, 33, 34], [0, 1, 2, 3, 4, 5, 6, 7, 8, 9, 10, 11, 12, 13, 14, 15, 16, 17, 18, 19, 20, 21, 22, 23, 24, 25, 26, 27, 28, 29, 30, 31, 32, 33, 34, 35], [0, 1, 2, 3, 4, 5, 6, 7, 8, 9, 10, 11, 12, 13, 14, 15, 16, 17, 18, 19, 20, 21, 22, 23, 24, 25, 26, 27, 28, 29, 30, 31, 32, 33, 34, 35, 36]] mixed (by kernel_rfl) fun R hR => ?_   -- r6
      simp only [go_sem, hxi, hyi]
      refine GWant_split (fun g1 => ?_) (fun g1 => ?_)
      · try simp only [Bool.not_eq_true', Bool.not_eq_false'] at g1
        have n1 := g1; try simp only [nrm] at n1
        simp only [go_sem, hxi, hyi, g1]
        refine GWant_split (fun g2 => ?_) (fun g2 => ?_)
        · try simp only [Bool.not_eq_true', Bool.not_eq_false'] at g2
          have n2 := g2; try simp only [nrm] at n2
          simp only [go_sem, hxi, hyi, g1, g2]
          refine GCall_of (EqInts_pc Y _ x.points y.points .ro .ro (by have := hy x (List.mem_of_getElem? hxi); omega)) ?_   -- t52
          simp only [go_sem, hxi, hyi, g1, g2]
          try refine And.intro (by repeat' (first | refine And.intro ?_ ?_ | exact GOr_right (fun _ => by simp only [go_sem, hxi, hyi]))) ?_
          refine hR _ _ (kq10 _ _ ?_); clear hR R; try clear kq10 kz10
          try simp only [go_sem, hxi, hyi]
          refine W_cond rfl (fun c3 => ?_) (fun c3 => ?_)
          · -- c3 true
            try simp only [nrm] at c3
            refine W_seq fun kz11 kq11 => ?_
            refine W_region [4] fun R hR => ?_   -- r7
            simp only [go_sem, hxi, hyi]
            refine hR _ _ (kq11 _ _ ?_); clear hR R; try clear kq11 kz11
            try simp only [go_sem, hxi, hyi]
            refine W_ret ?_
            simp only [go_sem, hxi, hyi]
            refine ⟨.inr (by trivial), ?_⟩
            first | refine Fin_same hcl rfl (Wk_eq ?_ (by simp only [go_sem])) | refine Fin_self hcl rfl (Wk_eq ?_ (by simp only [go_sem]))
            try simp only [go_sem]
            all_goals
              simp; intro h; subst h; rw [hxi] at hyi; injection hyi with h; subst h; simp_all
          · -- c3 false
            try simp only [nrm] at c3
            refine W_skip (kq9 _ _ ?_)
            refine W_region [0, 1, 5] fun R hR => ?_   -- r5
            simp only [go_sem, hxi, hyi]
            try simp (disch := omega) only [wrapI, wrapU]
            refine hR _ _ ?_; clear hR R
            try simp only [go_sem, hxi, hyi]
            refine ⟨i + 1, ?_, by (try simp only []); omega, ?_⟩
            · first | exact Weak.refl | exact Weak.eq (by first | rfl | (simp only [go_sem]; done) | (simp only [go_sem]; rfl) | (simp [go_sem]; done) | (simp [go_sem] <;> omega)) (by first | rfl | (simp only [go_sem]; done) | (simp [go_sem]; done))
            · try dsimp only
              refine ⟨hi', ?_⟩
              rw [List.take_add_one, List.take_add_one, ht, hxi, hyi, show x = y by obtain ⟨a, b, c⟩ := x; obtain ⟨a2, b2, c2⟩ := y; simp_all]
        · try simp only [Bool.not_eq_true', Bool.not_eq_false'] at g2
          have n2 := g2; try simp only [nrm] at n2
          simp only [go_sem, hxi, hyi, g1, g2]
          try refine And.intro (by repeat' (first | refine And.intro ?_ ?_ | exact GOr_right (fun _ => by simp only [go_sem, hxi, hyi]))) ?_
          refine hR _ _ (kq10 _ _ ?_); clear hR R; try clear kq10 kz10
          try simp only [go_sem, hxi, hyi]
          refine W_cond_true rfl ?_
          refine W_seq fun kz12 kq12 => ?_
          refine W_region [4] fun R hR => ?_   -- r7
          simp only [go_sem, hxi, hyi]
          refine hR _ _ (kq12 _ _ ?_); clear hR R; try clear kq12 kz12
          try simp only [go_sem, hxi, hyi]
          refine W_ret ?_
          simp only [go_sem, hxi, hyi]
          refine ⟨.inr (by trivial), ?_⟩
          first | refine Fin_same hcl rfl (Wk_eq ?_ (by simp only [go_sem])) | refine Fin_self hcl rfl (Wk_eq ?_ (by simp only [go_sem]))
          try simp only [go_sem]
          all_goals
            simp; intro h; subst h; rw [hxi] at hyi; injection hyi with h; subst h; simp_all
      · try simp only [Bool.not_eq_true', Bool.not_eq_false'] at g1
        have n1 := g1; try simp only [nrm] at n1
        simp only [go_sem, hxi, hyi, g1]
        try refine And.intro (by repeat' (first | refine And.intro ?_ ?_ | exact GOr_right (fun _ => by simp only [go_sem, hxi, hyi]))) ?_
        refine hR _ _ (kq10 _ _ ?_); clear hR R; try clear kq10 kz10
        try simp only [go_sem, hxi, hyi]
        refine W_cond_true rfl ?_
        refine W_seq fun kz13 kq13 => ?_
        refine W_region [4] fun R hR => ?_   -- r7
        simp only [go_sem, hxi, hyi]
        refine hR _ _ (kq13 _ _ ?_); clear hR R; try clear kq13 kz13
        try simp only [go_sem, hxi, hyi]
        refine W_ret ?_
        simp only [go_sem, hxi, hyi]
        refine ⟨.inr (by trivial), ?_⟩
        first | refine Fin_same hcl rfl (Wk_eq ?_ (by simp only [go_sem])) | refine Fin_self hcl rfl (Wk_eq ?_ (by simp only [go_sem]))
        try simp only [go_sem]
        all_goals
          simp; intro h; subst h; rw [hxi] at hyi; injection hyi with h; subst h; simp_all
    · -- c2 false
      try simp only [nrm] at c2
      have hie : i = xs.length := by omega
      subst hie
      have hxy : xs = ys := by rw [List.take_length] at ht; rw [c1, List.take_length] at ht; exact ht
      refine W_exit ?_
      simp only [go_sem]
      refine kq5 _ _ ?_
      refine W_seq fun kz14 kq14 => ?_
      refine W_region [4] fun R hR => ?_   -- r8
      simp only [go_sem]
      refine hR _ _ (kq14 _ _ ?_); clear hR R; try clear kq14 kz14
      try simp only [go_sem]
      refine W_ret ?_
      simp only [go_sem]
      refine ⟨.inr (by trivial), ?_⟩
      first | refine Fin_same hcl rfl (Wk_eq ?_ (by simp only [go_sem])) | refine Fin_self hcl rfl (Wk_eq ?_ (by simp only [go_sem]))
      try simp only [go_sem]
      all_goals
        simp [hxy]
set_option maxHeartbeats 2000000 in
theorem span_pc (Y : YEnv) (σ : Sg) (a b : Int) :
    PC Try.prog Y 48 [I a, I b] σ (.agg [I a, I b]) (σ) := by
  refine PC_of_W Try.func48 rfl (by kernel_rfl) Try.ntmps48 (by simp) fun hcl hca => ?_
  refine W_seq fun kz1 kq1 => ?_
  refine W_region [0, 1, 4] fun R hR => ?_   -- r0
  simp only [go_sem]
  refine hR _ _ (kq1 _ _ ?_); clear hR R; try clear kq1 kz1
  try simp only [go_sem]
  refine W_seq fun kz2 kq2 => ?_
  refine W_region [4] fun R hR => ?_   -- r1
  simp only [go_sem]
  refine hR _ _ (kq2 _ _ ?_); clear hR R; try clear kq2 kz2
  try simp only [go_sem]
  refine W_ret ?_
  simp only [go_sem]
  refine ⟨.inr (by trivial), ?_⟩
  first | refine Fin_same hcl (by show resPV Try.prog _ _ [.cell 4 48] = some _; simp only [resPV, go_sem]; rfl) (Wk_eq ?_ (by simp only [go_sem])) | refine Fin_same hcl rfl (Wk_eq ?_ (by simp only [go_sem]))
  try simp only [go_sem]
  all_goals
    first | rfl | (simp_all; done) | (simp_all; omega)
set_option maxHeartbeats 2000000 in
theorem scale_pc (Y : YEnv) (σ : Sg)  :
    PC Try.prog Y 45 [] σ (scPV exScale) (σ) := by
  refine PC_of_W Try.func45 rfl (by kernel_rfl) Try.ntmps45 (by simp) fun hcl hca => ?_
  refine W_seq fun kz1 kq1 => ?_
  refine W_region [0] fun R hR => ?_   -- r0
  simp only [go_sem]
  refine hR _ _ (kq1 _ _ ?_); clear hR R; try clear kq1 kz1
  try simp only [go_sem]
  refine W_seq fun kz2 kq2 => ?_
  refine W_region [0] fun R hR => ?_   -- r1
  simp only [go_sem]
  refine hR _ _ (kq2 _ _ ?_); clear hR R; try clear kq2 kz2
  try simp only [go_sem]
  refine W_ret ?_
  simp only [go_sem]
  refine ⟨.inr (by trivial), ?_⟩
  refine Fin_same hcl (by show resPV Try.prog _ _ [.cell 0 26] = some _; simp only [resPV, go_sem]; rfl) (Wk.ro (by simp only [go_sem]) ?_)
  try simp only [go_sem]
  all_goals
    rfl
set_option maxHeartbeats 2000000 in
theorem night_pc (Y : YEnv) (σ : Sg)  :
    PC Try.prog Y 46 [] σ (ngPV exNight) (σ) := by
  refine PC_of_W Try.func46 rfl (by kernel_rfl) Try.ntmps46 (by simp) fun hcl hca => ?_
  refine W_seq fun kz1 kq1 => ?_
  refine W_region [0] fun R hR => ?_   -- r0
  simp only [go_sem]
  refine hR _ _ (kq1 _ _ ?_); clear hR R; try clear kq1 kz1
  try simp only [go_sem]
  refine W_seq fun kz2 kq2 => ?_
  refine W_region [0] fun R hR => ?_   -- r1
  simp only [go_sem]
  refine hR _ _ (kq2 _ _ ?_); clear hR R; try clear kq2 kz2
  try simp only [go_sem]
  refine W_ret ?_
  simp only [go_sem]
  refine ⟨.inr (by trivial), ?_⟩
  refine Fin_same hcl (by show resPV Try.prog _ _ [.cell 0 32] = some _; simp only [resPV, go_sem]; rfl) (Wk.ro (by simp only [go_sem]) ?_)
  try simp only [go_sem]
  all_goals
    rfl
set_option maxHeartbeats 2000000 in
theorem before_pc (Y : YEnv) (σ : Sg)  :
    PC Try.prog Y 47 [] σ (ngPV exBefore) (σ) := by
  refine PC_of_W Try.func47 rfl (by kernel_rfl) Try.ntmps47 (by simp) fun hcl hca => ?_
  refine W_seq fun kz1 kq1 => ?_
  refine W_region [0] fun R hR => ?_   -- r0
  simp only [go_sem]
  refine hR _ _ (kq1 _ _ ?_); clear hR R; try clear kq1 kz1
  try simp only [go_sem]
  refine W_seq fun kz2 kq2 => ?_
  refine W_region [0, 1] fun R hR => ?_   -- r1
  simp only [go_sem]
  refine GCall_of (night_pc Y _) ?_   -- t2
  simp only [go_sem]
  refine hR _ _ (kq2 _ _ ?_); clear hR R; try clear kq2 kz2
  try simp only [go_sem]
  refine W_seq fun kz3 kq3 => ?_
  have hz4 : ((0 : Int) ≤ 4) = True := by decide
  have hb4 : (Int.toNat 4 ≤ exNight.opened.length) = True := by decide
  refine W_region [0, 1] fun R hR => ?_   -- r2
  simp only [go_sem, hz4, hb4]
  refine hR _ _ (kq3 _ _ ?_); clear hR R; try clear kq3 kz3
  try simp only [go_sem]
  refine W_seq fun kz4 kq4 => ?_
  refine W_region [0] fun R hR => ?_   -- r3
  simp only [go_sem]
  refine hR _ _ (kq4 _ _ ?_); clear hR R; try clear kq4 kz4
  try simp only [go_sem]
  refine W_ret ?_
  simp only [go_sem]
  refine ⟨.inr (by trivial), ?_⟩
  refine Fin_same hcl (by show resPV Try.prog _ _ [.cell 0 32] = some _; simp only [resPV, go_sem]; rfl) (Wk.ro (by simp only [go_sem]) ?_)
  try simp only [go_sem]
  all_goals
    rfl
end Go.Proofs.Ytgelnjmddabgpaa
namespace Go.Proofs.Ytgelnjmddabgpaa
open Go Go.RowKit
set_option maxRecDepth 100000
def exTab : List Stand := [⟨0, 385, [195, 190]⟩, ⟨2, 365, [175, 195]⟩, ⟨1, 365, [195, 170]⟩]
def exTot : List (Int × Int) := [(340, 385), (355, 390), (345, 370)]
set_option maxHeartbeats 4000000 in
theorem awake_pc (Y : YEnv) (σ : Sg)  :
    PC Try.prog Y 20 [] σ (.bool true) (σ) := by
  refine PC_of_W Try.func20 rfl (by kernel_rfl) Try.ntmps20 (by simp) fun hcl hca => ?_
  refine W_seq fun kz1 kq1 => ?_
  refine W_region [] fun R hR => ?_   -- r0
  simp only [go_sem]
  refine hR _ _ (kq1 _ _ ?_); clear hR R; try clear kq1 kz1
  try simp only [go_sem]
  refine W_seq fun kz2 kq2 => ?_
  refine W_region [1, 2] fun R hR => ?_   -- r1
  simp only [go_sem]
  refine GCall_of (scale_pc Y _) ?_   -- t8
  simp only [go_sem]
  refine GCall_of (night_pc Y _) ?_   -- t9
  simp only [go_sem]
  refine GCall_of (PC.val (v' := .tuple [sds exTab, I 0]) (Table_pc Y _ exScale exNight exScale_ok exNight_ok) (by rw [exTable]; rfl)) ?_   -- t10
  simp only [go_sem]
  refine hR _ _ (kq2 _ _ ?_); clear hR R; try clear kq2 kz2
  try simp only [go_sem]
  refine W_seq fun kz3 kq3 => ?_
  refine W_region [1, 2, 3, 4] fun R hR => ?_   -- r2
  simp only [go_sem]
  refine GCall_of (scale_pc Y _) ?_   -- t14
  simp only [go_sem]
  refine GCall_of (before_pc Y _) ?_   -- t15
  simp only [go_sem]
  refine GCall_of (PC.val (v' := .tuple [sts exTot, I 0]) (Totals_pc Y _ exScale exBefore exScale_ok exBefore_ok) (by rw [exTotals]; rfl)) ?_   -- t16
  simp only [go_sem]
  refine hR _ _ (kq3 _ _ ?_); clear hR R; try clear kq3 kz3
  try simp only [go_sem]
  refine W_seq fun kz4 kq4 => ?_
  refine W_region [1, 2, 3, 4, 5, 6] fun R hR => ?_   -- r3
  simp only [go_sem]
  refine GCall_of (scale_pc Y _) ?_   -- t20
  simp only [go_sem]
  refine GCall_of (before_pc Y _) ?_   -- t21
  simp only [go_sem]
  refine GCall_of (PC.val (v' := .tuple [.agg [I 1, I 3], I 0]) (Place_pc Y _ exScale exBefore exScale_ok exBefore_ok 0) (by rw [exPlace])) ?_   -- t22
  simp only [go_sem]
  refine hR _ _ (kq4 _ _ ?_); clear hR R; try clear kq4 kz4
  try simp only [go_sem]
  refine W_seq fun kz5 kq5 => ?_
  refine W_draw [0] [0, 1, 2, 3, 4, 5, 6, 7, 8, 9, 10, 11, 12, 13, 14, 15, 16, 17, 18, 19, 20, 21, 22, 23, 24, 25, 26, 27, 28, 29, 30, 31, 32, 33, 34] [(22, 24), (22, 25), (22, 27), (30, 35)] [[], [0], [0, 1], [0, 1, 2], [0, 1, 2, 3], [0, 1, 2, 3, 4], [0, 1, 2, 3, 4, 5], [0, 1, 2, 3, 4, 5, 6], [0, 1, 2, 3, 4, 5, 6, 7], [0, 1, 2, 3, 4, 5, 6, 7, 8], [0, 1, 2, 3, 4, 5, 6, 7, 8, 9], [0, 1, 2, 3, 4, 5, 6, 7, 8, 9, 10], [0, 1, 2, 3, 4, 5, 6, 7, 8, 9, 10], [0, 1, 2, 3, 4, 5, 6, 7, 8, 9, 10, 12], [0, 1, 2, 3, 4, 5, 6, 7, 8, 9, 10], [0, 1, 2, 3, 4, 5, 6, 7, 8, 9, 10, 14], [0, 1, 2, 3, 4, 5, 6, 7, 8, 9, 10], [0, 1, 2, 3, 4, 5, 6, 7, 8, 9, 10, 16], [0, 1, 2, 3, 4, 5, 6, 7, 8, 9, 10, 12, 13, 14, 15, 16, 17], [0, 1, 2, 3, 4, 5, 6, 7, 8, 9, 10, 11, 12, 13, 14, 15, 16, 17, 18], [0, 1, 2, 3, 4, 5, 6, 7, 8, 9, 10, 11, 12, 13, 14, 15, 16, 17, 18, 19], [0, 1, 2, 3, 4, 5, 6, 7, 8, 9, 10, 11, 12, 13, 14, 15, 16, 17, 18, 19, 20], [0, 1, 2, 3, 4, 5, 6, 7, 8, 9, 10, 11, 12, 13, 14, 15, 16, 17, 18, 19, 20, 21], [0, 1, 2, 3, 4, 5, 6, 7, 8, 9, 10, 11, 12, 13, 14, 15, 16, 17, 18, 19, 20, 21], [0, 1, 2, 3, 4, 5, 6, 7, 8, 9, 10, 11, 12, 13, 14, 15, 16, 17, 18, 19, 20, 21, 23], [0, 1, 2, 3, 4, 5, 6, 7, 8, 9, 10, 11, 12, 13, 14, 15, 16, 17, 18, 19, 20, 21, 23, 24], [0, 1, 2, 3, 4, 5, 6, 7, 8, 9, 10, 11, 12, 13, 14, 15, 16, 17, 18, 19, 20, 21, 23, 24, 25], [0, 1, 2, 3, 4, 5, 6, 7, 8, 9, 10, 11, 12, 13, 14, 15, 16, 17, 18, 19, 20, 21, 22, 23, 24, 25, 26], [0, 1, 2, 3, 4, 5, 6, 7, 8, 9, 10, 11, 12, 13, 14, 15, 16, 17, 18, 19, 20, 21, 22, 23, 24, 25, 26, 27], [0, 1, 2, 3, 4, 5, 6, 7, 8, 9, 10, 11, 12, 13, 14, 15, 16, 17, 18, 19, 20, 21, 22, 23, 24, 25, 26, 27, 28], [0, 1, 2, 3, 4, 5, 6, 7, 8, 9, 10, 11, 12, 13, 14, 15, 16, 17, 18, 19, 20, 21, 22, 23, 24, 25, 26, 27, 28, 29], [0, 1, 2, 3, 4, 5, 6, 7, 8, 9, 10, 11, 12, 13, 14, 15, 16, 17, 18, 19, 20, 21, 22, 23, 24, 25, 26, 27, 28, 29], [0, 1, 2, 3, 4, 5, 6, 7, 8, 9, 10, 11, 12, 13, 14, 15, 16, 17, 18, 19, 20, 21, 22, 23, 24, 25, 26, 27, 28, 29, 30, 31], [0, 1, 2, 3, 4, 5, 6, 7, 8, 9, 10, 11, 12, 13, 14, 15, 16, 17, 18, 19, 20, 21, 22, 23, 24, 25, 26, 27, 28, 29, 30, 31, 32], [0, 1, 2, 3, 4, 5, 6, 7, 8, 9, 10, 11, 12, 13, 14, 15, 16, 17, 18, 19, 20, 21, 22, 23, 24, 25, 26, 27, 28, 29, 30, 31, 32, 33]] mixed (by kernel_rfl) fun R hR => ?_   -- r4
  simp only [go_sem]
  refine GCall_of (PC.val (v' := .bool true) (PC.ofRo (EqTables_pc Y _ exTab exTab .ro .ro (by decide) (by decide)) (by simp only [go_sem, exTab] <;> rfl)) (by rfl)) ?_   -- t44
  simp only [go_sem]
  refine GCall_of (span_pc Y _ 340 385) ?_   -- t48
  simp only [go_sem]
  refine GCall_of (span_pc Y _ 355 390) ?_   -- t49
  simp only [go_sem]
  refine GCall_of (span_pc Y _ 345 370) ?_   -- t50
  simp only [go_sem]
  refine GCall_of (EqSpans_pc Y _ exTot exTot .ro .exact (by decide)) ?_   -- t52
  simp only [go_sem]
  refine GCall_of (span_pc Y _ 1 3) ?_   -- t56
  simp only [go_sem]
  try refine And.intro (by repeat' (first | refine And.intro ?_ ?_ | exact GOr_right (fun _ => by simp only [go_sem]))) ?_
  refine hR _ _ (kq5 _ _ ?_); clear hR R; try clear kq5 kz5
  try simp only [go_sem]
  refine W_ret ?_
  simp only [go_sem]
  refine ⟨.inr (by trivial), ?_⟩
  first | refine Fin_same hcl rfl (Wk_eq ?_ (by simp only [go_sem])) | refine Fin_self hcl rfl (Wk_eq ?_ (by simp only [go_sem]))
  try simp only [go_sem]
  all_goals
    first | rfl | (simp_all; done) | (simp_all; omega)
end Go.Proofs.Ytgelnjmddabgpaa
namespace Go.Proofs.Ytgelnjmddabgpaa
open Go Go.RowKit
set_option maxRecDepth 100000
theorem Scale.V.okS {s : Scale} (h : s.V) : s.Ok := ⟨by have := h.ol; have := h.mt; omega⟩
end Go.Proofs.Ytgelnjmddabgpaa
namespace Go.Proofs.Ytgelnjmddabgpaa
open Go Go.RowKit
set_option maxRecDepth 100000
theorem mem4 {a b c d r : Int} (h : r ∈ [a, b, c, d]) : r = a ∨ r = b ∨ r = c ∨ r = d := by simpa using h
/-- What is asked of an envelope that may be another one. -/
def sealLaw (s : Scale) (x y : Envl) : Prop := (y = x → knownE s ⟨[y], [], []⟩ = 0) ∧ (y ≠ x → knownE s ⟨[y], [], []⟩ = 14)
theorem sealLaw_of {s : Scale} (hc : chkSc s = 0) {x y : Envl} (hx : GoodE s x) (hy : marked s (jdE y) y.marks = 0) (hsl : y.sl = x.sl) (h : sealOf (jdE y) y.marks = sealOf (jdE x) x.marks → y = x) : sealLaw s x y := by
  refine ⟨fun e => ?_, fun e => ?_⟩
  · rw [one_env hc hy, if_pos (by rw [e]; exact hx.sl)]
  · rw [one_env hc hy, if_neg fun k => e (h (by rw [← k, hsl, hx.sl]))]
set_option maxHeartbeats 16000000 in
theorem MarksSealed_pc (Y : YEnv) (σ : Sg) (nums : List Int) (hn : nums.length < 2 ^ 60) :
    PC Try.prog Y 6 [ints nums] σ (.bool true) (σ) := by
  refine PC_of_W Try.func6 rfl (by kernel_rfl) Try.ntmps6 (by simp) fun hcl hca => ?_
  obtain ⟨b0, hb0⟩ : ∃ z, drumB nums 2685821657736338717 = z := ⟨_, rfl⟩
  obtain ⟨s, hs⟩ : ∃ zz, (scaleD 8 b0).1 = zz := ⟨_, rfl⟩
  obtain ⟨b1, hb1⟩ : ∃ zz, (scaleD 8 b0).2 = zz := ⟨_, rfl⟩
  have ds := scaleD_ok 8 (by omega) (by omega) b0
  simp only [hs] at ds
  have hsc := ds.1
  have hvS := Scale.v hsc
  have q1 := hvS.mt
  have q2 := hvS.jd
  have q3 := hvS.sc
  have q4 := hvS.lo
  have q5 := hvS.hi
  have q6 := hvS.lh
  have hsO := hvS.okS
  obtain ⟨mz, hmz⟩ : ∃ zz, (roll s.matters b1).1 = zz := ⟨_, rfl⟩
  obtain ⟨b2, hb2⟩ : ∃ zz, (roll s.matters b1).2 = zz := ⟨_, rfl⟩
  have dmz := roll_bd s.matters b1
  simp only [hmz] at dmz
  obtain ⟨jz, hjz⟩ : ∃ zz, (roll s.judges b2).1 = zz := ⟨_, rfl⟩
  obtain ⟨b3, hb3⟩ : ∃ zz, (roll s.judges b2).2 = zz := ⟨_, rfl⟩
  have djz := roll_bd s.judges b2
  simp only [hjz] at djz
  obtain ⟨ml, hml⟩ : ∃ zz, (marksD s b3).1 = zz := ⟨_, rfl⟩
  obtain ⟨b4, hb4⟩ : ∃ zz, (marksD s b3).2 = zz := ⟨_, rfl⟩
  have dml := marksD_ok hvS b3
  simp only [hml] at dml
  obtain ⟨iz, hiz⟩ : ∃ zz, (roll s.schools b4).1 = zz := ⟨_, rfl⟩
  obtain ⟨b5, hb5⟩ : ∃ zz, (roll s.schools b4).2 = zz := ⟨_, rfl⟩
  have diz := roll_bd s.schools b4
  simp only [hiz] at diz
  obtain ⟨kz, hkz⟩ : ∃ zz, (roll s.schools b5).1 = zz := ⟨_, rfl⟩
  obtain ⟨b6, hb6⟩ : ∃ zz, (roll s.schools b5).2 = zz := ⟨_, rfl⟩
  have dkz := roll_bd s.schools b5
  simp only [hkz] at dkz
  obtain ⟨q4, hq4⟩ : ∃ zz, (roll 4 b6).1 = zz := ⟨_, rfl⟩
  obtain ⟨b7, hb7⟩ : ∃ zz, (roll 4 b6).2 = zz := ⟨_, rfl⟩
  have dq4 := roll_bd 4 b6
  simp only [hq4] at dq4
  have hof : ofSc s (mz, jz) = true := by rw [ofSc_true]; simp only; omega
  have hmV : MarksV s ml := ⟨dml.1, dml.2⟩
  have hmn : ∀ x, x ∈ ml → 0 ≤ x := fun x hx => by have := dml.2 x hx; omega
  obtain ⟨x, hxe⟩ : ∃ z, sealedE s mz jz ml = z := ⟨_, rfl⟩
  have hxg : GoodE s x := by rw [← hxe]; exact sealed_good hsc hof dml
  obtain ⟨sl, hsl⟩ : ∃ z, (sealAns s (mz, jz) ml).1 = z := ⟨_, rfl⟩
  have hxe2 : sealedE s mz jz ml = ⟨mz, jz, ml, sl⟩ := by unfold sealedE; rw [hsl]
  have hmk : marked s (mz, jz) ml = 0 := marked_of hof dml.1 dml.2
  have hsa2 : (sealAns s (mz, jz) ml).2 = 0 := by unfold sealAns; rw [if_neg (by simp [hsc]), if_neg (by simp [hmk])]
  rw [hxe2] at hxe
  have hxk : knownE s ⟨[x], [], []⟩ = 0 := by rw [one_env hsc hxg.m, if_pos hxg.sl]
  obtain ⟨N, hN⟩ : ∃ z : Nat, s.schools = z := ⟨s.schools.toNat, by omega⟩
  have hmN : ml.length = N := by have := dml.1; omega
  have hmne : ml ≠ [] := fun e => by rw [e] at hmN; simp at hmN; omega
  obtain ⟨i, rfl⟩ : ∃ z : Nat, iz = z := ⟨iz.toNat, by omega⟩
  obtain ⟨k, rfl⟩ : ∃ z : Nat, kz = z := ⟨kz.toNat, by omega⟩
  have hiN : i < ml.length := by omega
  have hkN : k < ml.length := by omega
  obtain ⟨w, hw⟩ : ∃ z, ml[i]? = some z := ⟨ml[i], by simp⟩
  obtain ⟨v0, hv0⟩ : ∃ z, ml[k]? = some z := ⟨ml[k], by simp⟩
  have hwb := dml.2 w (List.mem_of_getElem? hw)
  have hvb := dml.2 v0 (List.mem_of_getElem? hv0)
  have hI1 : (i : Int) < (N : Int) := by omega
  have hI2 : (k : Int) < (N : Int) := by omega
  have hm1 : i + 1 ≤ N := by omega
  have hm2 : k + 1 ≤ N := by omega
  have hw1 : IntKind.i64.wrap (w + 1) = w + 1 := wrapI (by omega) (by omega)
  refine W_seq fun kz1 kq1 => ?_
  refine W_region [0] fun R hR => ?_   -- r0
  simp only [go_sem, hb0, hs, hb1, hmz, hb2, hjz, hb3, hml, hb4, hiz, hb5, hkz, hb6, hq4, hb7, hxe2, hmN]
  refine hR _ _ (kq1 _ _ ?_); clear hR R; try clear kq1 kz1
  try simp only [go_sem, hb0, hs, hb1, hmz, hb2, hjz, hb3, hml, hb4, hiz, hb5, hkz, hb6, hq4, hb7, hxe2, hmN]
  refine W_seq fun kz2 kq2 => ?_
  refine W_region [3] fun R hR => ?_   -- r1
  simp only [go_sem, hb0, hs, hb1, hmz, hb2, hjz, hb3, hml, hb4, hiz, hb5, hkz, hb6, hq4, hb7, hxe2, hmN]
  refine GCall_of (DrumOf_pc Y _ nums hn) ?_   -- t14
  simp only [go_sem, hb0, hs, hb1, hmz, hb2, hjz, hb3, hml, hb4, hiz, hb5, hkz, hb6, hq4, hb7, hxe2, hmN]
  refine hR _ _ (kq2 _ _ ?_); clear hR R; try clear kq2 kz2
  try simp only [go_sem, hb0, hs, hb1, hmz, hb2, hjz, hb3, hml, hb4, hiz, hb5, hkz, hb6, hq4, hb7, hxe2, hmN]
  refine W_seq fun kz3 kq3 => ?_
  refine W_region [3, 4] fun R hR => ?_   -- r2
  simp only [go_sem, hb0, hs, hb1, hmz, hb2, hjz, hb3, hml, hb4, hiz, hb5, hkz, hb6, hq4, hb7, hxe2, hmN]
  refine GCall_of (ScaleOf_pc Y _ _ b0 (Sg.get_ext0 ..) 8 (by omega) (by omega)) ?_   -- t16
  simp only [go_sem, hb0, hs, hb1, hmz, hb2, hjz, hb3, hml, hb4, hiz, hb5, hkz, hb6, hq4, hb7, hxe2, hmN]
  refine hR _ _ (kq3 _ _ ?_); clear hR R; try clear kq3 kz3
  try simp only [go_sem, hb0, hs, hb1, hmz, hb2, hjz, hb3, hml, hb4, hiz, hb5, hkz, hb6, hq4, hb7, hxe2, hmN]
  refine W_seq fun kz4 kq4 => ?_
  refine W_draw [3, 4, 5] [0, 1, 2, 3, 4, 5, 6, 7, 8, 9, 10, 11, 12, 13, 14] [(0, 8), (0, 11), (0, 12), (5, 4), (6, 4), (7, 4), (9, 4), (9, 8), (10, 4), (10, 8)] [[], [], [], [2], [1, 2, 3], [], [], [6], [1, 2, 3, 4, 5, 6, 7], [], [], [1, 2, 3, 4, 5, 6, 7, 8, 9, 10], [0, 1, 2, 3, 4, 5, 6, 7, 8, 9, 10, 11], [], [0, 1, 2, 3, 4, 5, 6, 7, 8, 9, 10, 11, 12, 13]] mixed (by kernel_rfl) fun R hR => ?_   -- r3
  simp only [go_sem, hb0, hs, hb1, hmz, hb2, hjz, hb3, hml, hb4, hiz, hb5, hkz, hb6, hq4, hb7, hxe2, hmN]
  refine GCall_of (Roll_pc Y _ _ b1 (Sg.get_ext0 ..) s.matters (by omega)) ?_   -- t21
  simp only [go_sem, hb0, hs, hb1, hmz, hb2, hjz, hb3, hml, hb4, hiz, hb5, hkz, hb6, hq4, hb7, hxe2, hmN]
  refine GCall_of (Roll_pc Y _ _ b2 (Sg.get_ext0 ..) s.judges (by omega)) ?_   -- t25
  simp only [go_sem, hb0, hs, hb1, hmz, hb2, hjz, hb3, hml, hb4, hiz, hb5, hkz, hb6, hq4, hb7, hxe2, hmN]
  refine GCall_of (MarksOf_pc Y _ _ b3 (Sg.get_ext0 ..) s hvS) ?_   -- t28
  simp only [go_sem, hb0, hs, hb1, hmz, hb2, hjz, hb3, hml, hb4, hiz, hb5, hkz, hb6, hq4, hb7, hxe2, hmN]
  refine GCall_of (PC.val (v' := evPV ⟨mz, jz, ml, sl⟩) (Sealed_pc Y _ s mz jz ml (by omega) hsO) (by rw [hxe2])) ?_   -- t29
  simp only [go_sem, hb0, hs, hb1, hmz, hb2, hjz, hb3, hml, hb4, hiz, hb5, hkz, hb6, hq4, hb7, hxe2, hmN]
  try refine And.intro (by repeat' (first | refine And.intro ?_ ?_ | exact GOr_right (fun _ => by simp only [go_sem, hb0, hs, hb1, hmz, hb2, hjz, hb3, hml, hb4, hiz, hb5, hkz, hb6, hq4, hb7, hxe2, hmN]))) ?_
  refine hR _ _ (kq4 _ _ ?_); clear hR R; try clear kq4 kz4
  try simp only [go_sem, hb0, hs, hb1, hmz, hb2, hjz, hb3, hml, hb4, hiz, hb5, hkz, hb6, hq4, hb7, hxe2, hmN]
  refine W_seq fun kz5 kq5 => ?_
  refine W_seq fun kz6 kq6 => ?_
  refine W_region [3, 4, 5, 6, 7] fun R hR => ?_   -- r4
  simp only [go_sem, hb0, hs, hb1, hmz, hb2, hjz, hb3, hml, hb4, hiz, hb5, hkz, hb6, hq4, hb7, hxe2, hmN]
  refine GCall_of (PC.val (v' := .tuple [I sl, I 0]) (Seal_pc Y _ s mz jz ml .ro (by omega) hsO) (by rw [hsl, hsa2])) ?_   -- t38
  simp only [go_sem, hb0, hs, hb1, hmz, hb2, hjz, hb3, hml, hb4, hiz, hb5, hkz, hb6, hq4, hb7, hxe2, hmN]
  refine hR _ _ (kq6 _ _ ?_); clear hR R; try clear kq6 kz6
  try simp only [go_sem, hb0, hs, hb1, hmz, hb2, hjz, hb3, hml, hb4, hiz, hb5, hkz, hb6, hq4, hb7, hxe2, hmN]
  refine W_seq fun kz7 kq7 => ?_
  refine W_regionJ [3, 4, 5, 56] [(56, .bool false)] ?_ fun R hR => ?_   -- r5
  · refine kq7 _ _ ?_
    simp only [go_sem, hb0, hs, hb1, hmz, hb2, hjz, hb3, hml, hb4, hiz, hb5, hkz, hb6, hq4, hb7, hxe2, hmN]
    refine W_cond rfl (fun c1 => ?_) (fun c1 => ?_)
    · -- c1 true
      try simp only [nrm] at c1
      exfalso
      simp at c1
    · -- c1 false
      try simp only [nrm] at c1
      refine W_skip (kq5 _ _ ?_)
      refine W_seq fun kz8 kq8 => ?_
      refine W_region [3, 4, 5, 8] fun R hR => ?_   -- r7
      simp only [go_sem, hb0, hs, hb1, hmz, hb2, hjz, hb3, hml, hb4, hiz, hb5, hkz, hb6, hq4, hb7, hxe2, hmN]
      refine hR _ _ (kq8 _ _ ?_); clear hR R; try clear kq8 kz8
      try simp only [go_sem, hb0, hs, hb1, hmz, hb2, hjz, hb3, hml, hb4, hiz, hb5, hkz, hb6, hq4, hb7, hxe2, hmN]
      refine W_seq fun kz9 kq9 => ?_
      refine W_region [3, 4, 5, 8] fun R hR => ?_   -- r8
      simp only [go_sem, hb0, hs, hb1, hmz, hb2, hjz, hb3, hml, hb4, hiz, hb5, hkz, hb6, hq4, hb7, hxe2, hmN]
      refine GCall_of (IntsW_pc Y _ ml .ro hmne (by omega)) ?_   -- t60
      simp only [go_sem, hb0, hs, hb1, hmz, hb2, hjz, hb3, hml, hb4, hiz, hb5, hkz, hb6, hq4, hb7, hxe2, hmN]
      refine hR _ _ (kq9 _ _ ?_); clear hR R; try clear kq9 kz9
      try simp only [go_sem, hb0, hs, hb1, hmz, hb2, hjz, hb3, hml, hb4, hiz, hb5, hkz, hb6, hq4, hb7, hxe2, hmN]
      refine W_seq fun kz10 kq10 => ?_
      refine W_draw [3, 4, 5, 8, 9, 10] [0, 1, 2, 3, 4, 5, 6, 7, 8, 9] [(4, 3), (5, 3), (6, 3)] [[], [], [1], [0, 1, 2], [], [], [5], [0, 1, 2, 3, 4, 5, 6], [0, 1, 2, 3, 4, 5, 6, 7], [0, 1, 2, 3, 4, 5, 6, 7, 8]] mixed (by kernel_rfl) fun R hR => ?_   -- r9
      simp only [go_sem, hb0, hs, hb1, hmz, hb2, hjz, hb3, hml, hb4, hiz, hb5, hkz, hb6, hq4, hb7, hxe2, hmN]
      refine GCall_of (Roll_pc Y _ _ b4 (Sg.get_ext0 ..) s.schools (by omega)) ?_   -- t65
      simp only [go_sem, hb0, hs, hb1, hmz, hb2, hjz, hb3, hml, hb4, hiz, hb5, hkz, hb6, hq4, hb7, hxe2, hmN]
      refine GCall_of (Roll_pc Y _ _ b5 (Sg.get_ext0 ..) s.schools (by omega)) ?_   -- t69
      simp only [go_sem, hb0, hs, hb1, hmz, hb2, hjz, hb3, hml, hb4, hiz, hb5, hkz, hb6, hq4, hb7, hxe2, hmN]
      try refine And.intro (by repeat' (first | refine And.intro ?_ ?_ | exact GOr_right (fun _ => by simp only [go_sem, hb0, hs, hb1, hmz, hb2, hjz, hb3, hml, hb4, hiz, hb5, hkz, hb6, hq4, hb7, hxe2, hmN]))) ?_
      refine hR _ _ (kq10 _ _ ?_); clear hR R; try clear kq10 kz10
      try simp only [go_sem, hb0, hs, hb1, hmz, hb2, hjz, hb3, hml, hb4, hiz, hb5, hkz, hb6, hq4, hb7, hxe2, hmN]
      refine W_seq fun kz11 kq11 => ?_
      refine W_seq fun kz12 kq12 => ?_
      refine W_region [3, 4, 5, 8, 9, 10, 71] fun R hR => ?_   -- r10
      simp only [go_sem, hb0, hs, hb1, hmz, hb2, hjz, hb3, hml, hb4, hiz, hb5, hkz, hb6, hq4, hb7, hxe2, hmN]
      refine GCall_of (Roll_pc Y _ _ b6 (Sg.get_ext0 ..) 4 (by omega)) ?_   -- t71
      simp only [go_sem, hb0, hs, hb1, hmz, hb2, hjz, hb3, hml, hb4, hiz, hb5, hkz, hb6, hq4, hb7, hxe2, hmN]
      refine hR _ _ (kq12 _ _ ?_); clear hR R; try clear kq12 kz12
      try simp only [go_sem, hb0, hs, hb1, hmz, hb2, hjz, hb3, hml, hb4, hiz, hb5, hkz, hb6, hq4, hb7, hxe2, hmN]
      refine W_block ?_
      refine W_seq fun kz13 kq13 => ?_
      refine W_region [3, 4, 5, 8, 9, 10, 71, 77] fun R hR => ?_   -- r12
      simp only [go_sem, hb0, hs, hb1, hmz, hb2, hjz, hb3, hml, hb4, hiz, hb5, hkz, hb6, hq4, hb7, hxe2, hmN]
      refine hR _ _ (kq13 _ _ ?_); clear hR R; try clear kq13 kz13
      try simp only [go_sem, hb0, hs, hb1, hmz, hb2, hjz, hb3, hml, hb4, hiz, hb5, hkz, hb6, hq4, hb7, hxe2, hmN]
      refine W_cond rfl (fun c2 => ?_) (fun c2 => ?_)
      · -- c2 true
        try simp only [nrm] at c2
        obtain ⟨md, hmd⟩ : ∃ zz, (mid s.low s.high b7).1 = zz := ⟨_, rfl⟩
        obtain ⟨b8, hb8⟩ : ∃ zz, (mid s.low s.high b7).2 = zz := ⟨_, rfl⟩
        have dmd := mid_bd s.low s.high q6 b7
        simp only [hmd] at dmd
        obtain ⟨v, hv⟩ : ∃ zz, (anyOf [s.low, s.high, min s.high (w + 1), md] b8).1 = zz := ⟨_, rfl⟩
        obtain ⟨b9, hb9⟩ : ∃ zz, (anyOf [s.low, s.high, min s.high (w + 1), md] b8).2 = zz := ⟨_, rfl⟩
        have dv := anyOf_mem [s.low, s.high, min s.high (w + 1), md] (by simp) b8
        simp only [hv] at dv
        have hvr : s.low ≤ v ∧ v ≤ s.high := by rcases mem4 dv with h | h | h | h <;> omega
        obtain ⟨l2, hl2e⟩ : ∃ z, ml.set i v = z := ⟨_, rfl⟩
        have hl2 : l2.length = N := by rw [← hl2e]; simp [hmN]
        have hlaw : sealLaw s x ⟨mz, jz, l2, sl⟩ := by
          rw [← hl2e]
          refine sealLaw_of hsc hxg (marked_of (s := s) (j := (mz, jz)) hof (hmV.set (i := i) hvr).ln (hmV.set (i := i) hvr).bd) (by rw [← hxe]) fun he => ?_
          have := seal_mark (m := mz) (j := jz) hvS hmV (by omega) (by omega) hvr hw (by rw [← hxe] at he; exact he)
          rw [← hxe]; simp only [this]
        obtain ⟨e2, he2⟩ : ∃ z, knownE s ⟨[⟨mz, jz, l2, sl⟩], [], []⟩ = z := ⟨_, rfl⟩
        have hck : ∀ σ' : Sg, PC Try.prog Y 27 [scPV s, ngPV ⟨[⟨mz, jz, l2, sl⟩], [], []⟩] σ' (I e2) σ' := fun σ' => PC.val (CheckNight_pc Y σ' s ⟨[⟨mz, jz, l2, sl⟩], [], []⟩ hsO ⟨by simp, by simp, by simp, fun z hz => by simp only [List.mem_singleton] at hz; subst hz; simp only; omega⟩) (by rw [he2])
        obtain ⟨sm, hsm⟩ : ∃ z, (decide (mz = mz) && (decide (jz = jz) && decide (ml = l2))) = z := ⟨_, rfl⟩
        have hlw : (sm = true → e2 = 0) ∧ (sm = false → e2 = 14) := by
          rw [← he2, ← hsm]
          refine ⟨fun e => hlaw.1 ?_, fun e => hlaw.2 fun h => ?_⟩
          · rw [Bool.and_eq_true, Bool.and_eq_true, decide_eq_true_eq, decide_eq_true_eq, decide_eq_true_eq] at e; rw [← hxe, ← e.1, ← e.2.1, ← e.2.2]
          · rw [← hxe] at h; injection h with h1 h2 h3; simp [h1, h2, h3] at e
        refine W_draw [4, 5, 8] [0, 1, 2, 3, 4, 5, 6, 7, 8, 9, 10, 11, 12, 13, 14, 15, 16, 17, 18, 19, 20, 21, 22, 23, 24, 25, 26] [(0, 24), (0, 26), (1, 24), (1, 26), (2, 24), (2, 26), (3, 24), (4, 24), (5, 24), (6, 24), (7, 24), (8, 24), (9, 24), (10, 24), (11, 24), (12, 24), (13, 24), (14, 24), (15, 24), (16, 24)] [[], [0], [], [], [], [4], [], [6], [], [8], [], [10], [], [10, 11, 12], [10, 11, 12, 13], [10, 11, 12, 13, 14], [8, 9, 10, 11, 12, 13, 14, 15], [], [], [18], [], [20], [17, 18, 19, 20, 21], [4, 5, 6, 7, 8, 9, 10, 11, 12, 13, 14, 15, 16, 17, 18, 19, 20, 21, 22], [3, 4, 5, 6, 7, 8, 9, 10, 11, 12, 13, 14, 15, 16, 17, 18, 19, 20, 21, 22, 23], [0, 1, 2, 3, 4, 5, 6, 7, 8, 9, 10, 11, 12, 13, 14, 15, 16, 17, 18, 19, 20, 21, 22, 23, 24], [0, 1, 2, 3, 4, 5, 6, 7, 8, 9, 10, 11, 12, 13, 14, 15, 16, 17, 18, 19, 20, 21, 22, 23, 24, 25]] mixed (by kernel_rfl) fun R hR => ?_   -- r13
        simp only [go_sem, hb0, hs, hb1, hmz, hb2, hjz, hb3, hml, hb4, hiz, hb5, hkz, hb6, hq4, hb7, hxe2, hmN, hmd, hb8, hv, hb9, hI1, hI2, iaM_nat (Int.ofNat_lt.1 hI1), iaM_nat (Int.ofNat_lt.1 hI2), Nat.mul_one, Nat.zero_add, hw, hv0, hw1, hm1, hm2, List.getElem?_map, List.length_set, List.length_map]
        try simp (disch := omega) only [wrapI, wrapU]
        refine GCall_of (Mid_pc Y _ _ b7 (Sg.get_ext0 ..) s.low s.high (by omega) (by omega) (by omega) (by omega)) ?_   -- t101
        simp only [go_sem, hb0, hs, hb1, hmz, hb2, hjz, hb3, hml, hb4, hiz, hb5, hkz, hb6, hq4, hb7, hxe2, hmN, hmd, hb8, hv, hb9, hI1, hI2, iaM_nat (Int.ofNat_lt.1 hI1), iaM_nat (Int.ofNat_lt.1 hI2), Nat.mul_one, Nat.zero_add, hw, hv0, hw1, hm1, hm2, List.getElem?_map, List.length_set, List.length_map]
        try simp (disch := omega) only [wrapI, wrapU]
        refine GCall_of (Any_pc Y _ _ b8 (Sg.get_ext0 ..) [s.low, s.high, min s.high (w + 1), md] (by simp) (by simp)) ?_   -- t103
        simp only [go_sem, hb0, hs, hb1, hmz, hb2, hjz, hb3, hml, hb4, hiz, hb5, hkz, hb6, hq4, hb7, hxe2, hmN, hmd, hb8, hv, hb9, hI1, hI2, iaM_nat (Int.ofNat_lt.1 hI1), iaM_nat (Int.ofNat_lt.1 hI2), Nat.mul_one, Nat.zero_add, hw, hv0, hw1, hm1, hm2, List.getElem?_map, List.length_set, List.length_map]
        try simp (disch := omega) only [wrapI, wrapU]
        try refine And.intro (by repeat' (first | refine And.intro ?_ ?_ | exact GOr_right (fun _ => by simp only [go_sem, hb0, hs, hb1, hmz, hb2, hjz, hb3, hml, hb4, hiz, hb5, hkz, hb6, hq4, hb7, hxe2, hmN, hmd, hb8, hv, hb9, hI1, hI2, iaM_nat (Int.ofNat_lt.1 hI1), iaM_nat (Int.ofNat_lt.1 hI2), Nat.mul_one, Nat.zero_add, hw, hv0, hw1, hm1, hm2, List.getElem?_map, List.length_set, List.length_map]))) ?_
        refine hR _ _ (kq11 _ _ ?_); clear hR R; try clear kq11 kz11
        try simp only [go_sem, hb0, hs, hb1, hmz, hb2, hjz, hb3, hml, hb4, hiz, hb5, hkz, hb6, hq4, hb7, hxe2, hmN, hmd, hb8, hv, hb9]
        refine W_seq fun kz14 kq14 => ?_
        simp only [hl2e]
        refine W_weak (Weak.freezeX (j := 3) (k := 4) (off := 2) (len := N) (es := 1) (rest := []) (m := (l2).map I) (by decide) rfl rfl (by rw [rowC_ints, List.append_nil]; rfl) (by simp only [List.length_map]; exact hl2) (fun q hq => by obtain ⟨x, _, rfl⟩ := List.mem_map.1 hq; rfl)) ?_
        refine W_weak (Weak.keep [4, 5, 8]) ?_
        simp only [go_sem]
        refine W_regionJ [4, 8, 11] [(11, .bool sm)] ?_ fun R hR => ?_   -- r18
        · refine kq14 _ _ ?_
          simp only [go_sem, hb0, hs, hb1, hmz, hb2, hjz, hb3, hml, hb4, hiz, hb5, hkz, hb6, hq4, hb7, hxe2, hmN, hmd, hb8, hv, hb9]
          refine W_seq fun kz15 kq15 => ?_
          refine W_region [11, 12] fun R hR => ?_   -- r19
          simp only [go_sem, hb0, hs, hb1, hmz, hb2, hjz, hb3, hml, hb4, hiz, hb5, hkz, hb6, hq4, hb7, hxe2, hmN, hmd, hb8, hv, hb9]
          refine GCall_of (PC.ofRo (hck _) (by simp only [go_sem] <;> rfl)) ?_   -- t155
          simp only [go_sem, hb0, hs, hb1, hmz, hb2, hjz, hb3, hml, hb4, hiz, hb5, hkz, hb6, hq4, hb7, hxe2, hmN, hmd, hb8, hv, hb9]
          refine hR _ _ (kq15 _ _ ?_); clear hR R; try clear kq15 kz15
          try simp only [go_sem, hb0, hs, hb1, hmz, hb2, hjz, hb3, hml, hb4, hiz, hb5, hkz, hb6, hq4, hb7, hxe2, hmN, hmd, hb8, hv, hb9]
          refine W_seq fun kz16 kq16 => ?_
          refine W_regionJ [2] [(2, .bool true)] ?_ fun R hR => ?_   -- r20
          · refine kq16 _ _ ?_
            simp only [go_sem, hb0, hs, hb1, hmz, hb2, hjz, hb3, hml, hb4, hiz, hb5, hkz, hb6, hq4, hb7, hxe2, hmN, hmd, hb8, hv, hb9]
            refine W_ret ?_
            simp only [go_sem, hb0, hs, hb1, hmz, hb2, hjz, hb3, hml, hb4, hiz, hb5, hkz, hb6, hq4, hb7, hxe2, hmN, hmd, hb8, hv, hb9]
            refine ⟨.inr (by trivial), ?_⟩
            first | refine Fin_same hcl rfl (Wk_eq ?_ (by simp only [go_sem])) | refine Fin_self hcl rfl (Wk_eq ?_ (by simp only [go_sem]))
            try simp only [go_sem]
            all_goals
              first | rfl | (simp_all; done)
          · simp only [go_sem, hb0, hs, hb1, hmz, hb2, hjz, hb3, hml, hb4, hiz, hb5, hkz, hb6, hq4, hb7, hxe2, hmN, hmd, hb8, hv, hb9]
            refine GWant_split (fun g1 => ?_) (fun g1 => ?_)
            · try simp only [Bool.not_eq_true', Bool.not_eq_false'] at g1
              have n1 := g1; try simp only [nrm] at n1
              have he0 := hlw.1 g1
              simp only [go_sem, hb0, hs, hb1, hmz, hb2, hjz, hb3, hml, hb4, hiz, hb5, hkz, hb6, hq4, hb7, hxe2, hmN, hmd, hb8, hv, hb9, he0, g1]
              refine GCall_of (awake_pc Y _) ?_   -- t170
              simp only [go_sem, hb0, hs, hb1, hmz, hb2, hjz, hb3, hml, hb4, hiz, hb5, hkz, hb6, hq4, hb7, hxe2, hmN, hmd, hb8, hv, hb9, he0, g1]
              refine hR _ ?_
              all_goals try simp only [go_sem, hb0, hs, hb1, hmz, hb2, hjz, hb3, hml, hb4, hiz, hb5, hkz, hb6, hq4, hb7, hxe2, hmN, hmd, hb8, hv, hb9, he0]
              all_goals
                first | rfl | (cases sm <;> simp_all; done)
            · try simp only [Bool.not_eq_true', Bool.not_eq_false'] at g1
              have n1 := g1; try simp only [nrm] at n1
              have he0 := hlw.2 g1
              simp only [go_sem, hb0, hs, hb1, hmz, hb2, hjz, hb3, hml, hb4, hiz, hb5, hkz, hb6, hq4, hb7, hxe2, hmN, hmd, hb8, hv, hb9, he0, g1]
              refine GCall_of (awake_pc Y _) ?_   -- t170
              simp only [go_sem, hb0, hs, hb1, hmz, hb2, hjz, hb3, hml, hb4, hiz, hb5, hkz, hb6, hq4, hb7, hxe2, hmN, hmd, hb8, hv, hb9, he0, g1]
              refine hR _ ?_
              all_goals try simp only [go_sem, hb0, hs, hb1, hmz, hb2, hjz, hb3, hml, hb4, hiz, hb5, hkz, hb6, hq4, hb7, hxe2, hmN, hmd, hb8, hv, hb9, he0]
              all_goals
                first | rfl | (cases sm <;> simp_all; done)
        · simp only [go_sem, hb0, hs, hb1, hmz, hb2, hjz, hb3, hml, hb4, hiz, hb5, hkz, hb6, hq4, hb7, hxe2, hmN, hmd, hb8, hv, hb9]
          refine GCall_of (EqInts_pc Y _ ml _ .ro .ro (by omega)) ?_   -- t149
          simp only [go_sem, hb0, hs, hb1, hmz, hb2, hjz, hb3, hml, hb4, hiz, hb5, hkz, hb6, hq4, hb7, hxe2, hmN, hmd, hb8, hv, hb9]
          refine hR _ ?_
          all_goals try simp only [go_sem, hb0, hs, hb1, hmz, hb2, hjz, hb3, hml, hb4, hiz, hb5, hkz, hb6, hq4, hb7, hxe2, hmN, hmd, hb8, hv, hb9]
          all_goals
            first | rfl | (rw [← hsm, n4]; simp only [eq_self, decide_true, Bool.and_self]; done) | (rw [← hsm, n6]; simp only [eq_self, decide_true, Bool.and_self]; done) | (rw [← hsm]; simp only [eq_self, decide_true, Bool.and_self, Bool.true_and, n4, n6, decide_false, Bool.false_and, Bool.and_false]; done) | (rw [← hsm]; simp only [eq_self, decide_true, Bool.and_self, Bool.true_and, n4, decide_false, Bool.false_and, Bool.and_false]; done) | (rw [← hsm]; simp only [eq_self, decide_true, Bool.and_self, Bool.true_and, n6, decide_false, Bool.false_and, Bool.and_false]; done) | (rw [← hsm]; simp only [eq_self, decide_true, Bool.true_and]; done)
      · -- c2 false
        try simp only [nrm] at c2
        refine W_seq fun kz17 kq17 => ?_
        refine W_region [3, 4, 5, 8, 9, 10, 71, 105] fun R hR => ?_   -- r14
        simp only [go_sem, hb0, hs, hb1, hmz, hb2, hjz, hb3, hml, hb4, hiz, hb5, hkz, hb6, hq4, hb7, hxe2, hmN]
        refine hR _ _ (kq17 _ _ ?_); clear hR R; try clear kq17 kz17
        try simp only [go_sem, hb0, hs, hb1, hmz, hb2, hjz, hb3, hml, hb4, hiz, hb5, hkz, hb6, hq4, hb7, hxe2, hmN]
        refine W_cond rfl (fun c3 => ?_) (fun c3 => ?_)
        · -- c3 true
          try simp only [nrm] at c3
          obtain ⟨l2, hl2e⟩ : ∃ z, (ml.set i v0).set k w = z := ⟨_, rfl⟩
          have hl2 : l2.length = N := by rw [← hl2e]; simp [hmN]
          have hlaw : sealLaw s x ⟨mz, jz, l2, sl⟩ := by
            rw [← hl2e]
            refine sealLaw_of hsc hxg (marked_of (s := s) (j := (mz, jz)) hof ((hmV.set (i := i) hvb).set (i := k) hwb).ln ((hmV.set (i := i) hvb).set (i := k) hwb).bd) (by rw [← hxe]) fun he => ?_
            have := seal_swap (m := mz) (j := jz) hvS hmV (by omega) (by omega) hw hv0 (by rw [← hxe] at he; exact he)
            rw [← hxe]; simp only [this]
          obtain ⟨e2, he2⟩ : ∃ z, knownE s ⟨[⟨mz, jz, l2, sl⟩], [], []⟩ = z := ⟨_, rfl⟩
          have hck : ∀ σ' : Sg, PC Try.prog Y 27 [scPV s, ngPV ⟨[⟨mz, jz, l2, sl⟩], [], []⟩] σ' (I e2) σ' := fun σ' => PC.val (CheckNight_pc Y σ' s ⟨[⟨mz, jz, l2, sl⟩], [], []⟩ hsO ⟨by simp, by simp, by simp, fun z hz => by simp only [List.mem_singleton] at hz; subst hz; simp only; omega⟩) (by rw [he2])
          obtain ⟨sm, hsm⟩ : ∃ z, (decide (mz = mz) && (decide (jz = jz) && decide (ml = l2))) = z := ⟨_, rfl⟩
          have hlw : (sm = true → e2 = 0) ∧ (sm = false → e2 = 14) := by
            rw [← he2, ← hsm]
            refine ⟨fun e => hlaw.1 ?_, fun e => hlaw.2 fun h => ?_⟩
            · rw [Bool.and_eq_true, Bool.and_eq_true, decide_eq_true_eq, decide_eq_true_eq, decide_eq_true_eq] at e; rw [← hxe, ← e.1, ← e.2.1, ← e.2.2]
            · rw [← hxe] at h; injection h with h1 h2 h3; simp [h1, h2, h3] at e
          refine W_draw [4, 5, 8] [0, 1, 2, 3, 4, 5, 6, 7, 8, 9, 10, 11, 12, 13, 14, 15, 16, 17, 18, 19] [(3, 19), (4, 19), (5, 19)] [[], [0], [], [], [3], [], [], [6], [], [6, 7, 8], [6, 7, 8, 9], [], [11], [], [11, 12, 13], [11, 12, 13, 14], [0, 1, 2, 6, 7, 8, 9, 10, 11, 12, 13, 14, 15], [0, 1, 2, 6, 7, 8, 9, 10, 11, 12, 13, 14, 15, 16], [0, 1, 2, 3, 4, 5, 6, 7, 8, 9, 10, 11, 12, 13, 14, 15, 16, 17], [0, 1, 2, 3, 4, 5, 6, 7, 8, 9, 10, 11, 12, 13, 14, 15, 16, 17, 18]] mixed (by kernel_rfl) fun R hR => ?_   -- r15
          simp only [go_sem, hb0, hs, hb1, hmz, hb2, hjz, hb3, hml, hb4, hiz, hb5, hkz, hb6, hq4, hb7, hxe2, hmN, hI1, hI2, iaM_nat (Int.ofNat_lt.1 hI1), iaM_nat (Int.ofNat_lt.1 hI2), Nat.mul_one, Nat.zero_add, hw, hv0, hw1, hm1, hm2, List.getElem?_map, List.length_set, List.length_map]
          try refine And.intro (by repeat' (first | refine And.intro ?_ ?_ | exact GOr_right (fun _ => by simp only [go_sem, hb0, hs, hb1, hmz, hb2, hjz, hb3, hml, hb4, hiz, hb5, hkz, hb6, hq4, hb7, hxe2, hmN, hI1, hI2, iaM_nat (Int.ofNat_lt.1 hI1), iaM_nat (Int.ofNat_lt.1 hI2), Nat.mul_one, Nat.zero_add, hw, hv0, hw1, hm1, hm2, List.getElem?_map, List.length_set, List.length_map]))) ?_
          refine hR _ _ (kq11 _ _ ?_); clear hR R; try clear kq11 kz11
          try simp only [go_sem, hb0, hs, hb1, hmz, hb2, hjz, hb3, hml, hb4, hiz, hb5, hkz, hb6, hq4, hb7, hxe2, hmN]
          refine W_seq fun kz18 kq18 => ?_
          simp only [hl2e]
          refine W_weak (Weak.freezeX (j := 3) (k := 4) (off := 2) (len := N) (es := 1) (rest := []) (m := (l2).map I) (by decide) rfl rfl (by rw [rowC_ints, List.append_nil]; rfl) (by simp only [List.length_map]; exact hl2) (fun q hq => by obtain ⟨x, _, rfl⟩ := List.mem_map.1 hq; rfl)) ?_
          refine W_weak (Weak.keep [4, 5, 8]) ?_
          simp only [go_sem]
          refine W_regionJ [4, 8, 11] [(11, .bool sm)] ?_ fun R hR => ?_   -- r18
          · refine kq18 _ _ ?_
            simp only [go_sem, hb0, hs, hb1, hmz, hb2, hjz, hb3, hml, hb4, hiz, hb5, hkz, hb6, hq4, hb7, hxe2, hmN]
            refine W_seq fun kz19 kq19 => ?_
            refine W_region [11, 12] fun R hR => ?_   -- r19
            simp only [go_sem, hb0, hs, hb1, hmz, hb2, hjz, hb3, hml, hb4, hiz, hb5, hkz, hb6, hq4, hb7, hxe2, hmN]
            refine GCall_of (PC.ofRo (hck _) (by simp only [go_sem] <;> rfl)) ?_   -- t155
            simp only [go_sem, hb0, hs, hb1, hmz, hb2, hjz, hb3, hml, hb4, hiz, hb5, hkz, hb6, hq4, hb7, hxe2, hmN]
            refine hR _ _ (kq19 _ _ ?_); clear hR R; try clear kq19 kz19
            try simp only [go_sem, hb0, hs, hb1, hmz, hb2, hjz, hb3, hml, hb4, hiz, hb5, hkz, hb6, hq4, hb7, hxe2, hmN]
            refine W_seq fun kz20 kq20 => ?_
            refine W_regionJ [2] [(2, .bool true)] ?_ fun R hR => ?_   -- r20
            · refine kq20 _ _ ?_
              simp only [go_sem, hb0, hs, hb1, hmz, hb2, hjz, hb3, hml, hb4, hiz, hb5, hkz, hb6, hq4, hb7, hxe2, hmN]
              refine W_ret ?_
              simp only [go_sem, hb0, hs, hb1, hmz, hb2, hjz, hb3, hml, hb4, hiz, hb5, hkz, hb6, hq4, hb7, hxe2, hmN]
              refine ⟨.inr (by trivial), ?_⟩
              first | refine Fin_same hcl rfl (Wk_eq ?_ (by simp only [go_sem])) | refine Fin_self hcl rfl (Wk_eq ?_ (by simp only [go_sem]))
              try simp only [go_sem]
              all_goals
                first | rfl | (simp_all; done)
            · simp only [go_sem, hb0, hs, hb1, hmz, hb2, hjz, hb3, hml, hb4, hiz, hb5, hkz, hb6, hq4, hb7, hxe2, hmN]
              refine GWant_split (fun g2 => ?_) (fun g2 => ?_)
              · try simp only [Bool.not_eq_true', Bool.not_eq_false'] at g2
                have n2 := g2; try simp only [nrm] at n2
                have he0 := hlw.1 g2
                simp only [go_sem, hb0, hs, hb1, hmz, hb2, hjz, hb3, hml, hb4, hiz, hb5, hkz, hb6, hq4, hb7, hxe2, hmN, he0, g2]
                refine GCall_of (awake_pc Y _) ?_   -- t170
                simp only [go_sem, hb0, hs, hb1, hmz, hb2, hjz, hb3, hml, hb4, hiz, hb5, hkz, hb6, hq4, hb7, hxe2, hmN, he0, g2]
                refine hR _ ?_
                all_goals try simp only [go_sem, hb0, hs, hb1, hmz, hb2, hjz, hb3, hml, hb4, hiz, hb5, hkz, hb6, hq4, hb7, hxe2, hmN, he0]
                all_goals
                  first | rfl | (cases sm <;> simp_all; done)
              · try simp only [Bool.not_eq_true', Bool.not_eq_false'] at g2
                have n2 := g2; try simp only [nrm] at n2
                have he0 := hlw.2 g2
                simp only [go_sem, hb0, hs, hb1, hmz, hb2, hjz, hb3, hml, hb4, hiz, hb5, hkz, hb6, hq4, hb7, hxe2, hmN, he0, g2]
                refine GCall_of (awake_pc Y _) ?_   -- t170
                simp only [go_sem, hb0, hs, hb1, hmz, hb2, hjz, hb3, hml, hb4, hiz, hb5, hkz, hb6, hq4, hb7, hxe2, hmN, he0, g2]
                refine hR _ ?_
                all_goals try simp only [go_sem, hb0, hs, hb1, hmz, hb2, hjz, hb3, hml, hb4, hiz, hb5, hkz, hb6, hq4, hb7, hxe2, hmN, he0]
                all_goals
                  first | rfl | (cases sm <;> simp_all; done)
          · simp only [go_sem, hb0, hs, hb1, hmz, hb2, hjz, hb3, hml, hb4, hiz, hb5, hkz, hb6, hq4, hb7, hxe2, hmN]
            refine GCall_of (EqInts_pc Y _ ml _ .ro .ro (by omega)) ?_   -- t149
            simp only [go_sem, hb0, hs, hb1, hmz, hb2, hjz, hb3, hml, hb4, hiz, hb5, hkz, hb6, hq4, hb7, hxe2, hmN]
            refine hR _ ?_
            all_goals try simp only [go_sem, hb0, hs, hb1, hmz, hb2, hjz, hb3, hml, hb4, hiz, hb5, hkz, hb6, hq4, hb7, hxe2, hmN]
            all_goals
              first | rfl | (rw [← hsm, n4]; simp only [eq_self, decide_true, Bool.and_self]; done) | (rw [← hsm, n6]; simp only [eq_self, decide_true, Bool.and_self]; done) | (rw [← hsm]; simp only [eq_self, decide_true, Bool.and_self, Bool.true_and, n4, n6, decide_false, Bool.false_and, Bool.and_false]; done) | (rw [← hsm]; simp only [eq_self, decide_true, Bool.and_self, Bool.true_and, n4, decide_false, Bool.false_and, Bool.and_false]; done) | (rw [← hsm]; simp only [eq_self, decide_true, Bool.and_self, Bool.true_and, n6, decide_false, Bool.false_and, Bool.and_false]; done) | (rw [← hsm]; simp only [eq_self, decide_true, Bool.true_and]; done)
        · -- c3 false
          try simp only [nrm] at c3
          refine W_seq fun kz21 kq21 => ?_
          refine W_region [3, 4, 5, 8, 125] fun R hR => ?_   -- r16
          simp only [go_sem, hb0, hs, hb1, hmz, hb2, hjz, hb3, hml, hb4, hiz, hb5, hkz, hb6, hq4, hb7, hxe2, hmN]
          refine hR _ _ (kq21 _ _ ?_); clear hR R; try clear kq21 kz21
          try simp only [go_sem, hb0, hs, hb1, hmz, hb2, hjz, hb3, hml, hb4, hiz, hb5, hkz, hb6, hq4, hb7, hxe2, hmN]
          refine W_cond rfl (fun c4 => ?_) (fun c4 => ?_)
          · -- c4 true
            try simp only [nrm] at c4
            obtain ⟨j2, hj2⟩ : ∃ zz, (roll s.judges b7).1 = zz := ⟨_, rfl⟩
            obtain ⟨b8, hb8⟩ : ∃ zz, (roll s.judges b7).2 = zz := ⟨_, rfl⟩
            have dj2 := roll_bd s.judges b7
            simp only [hj2] at dj2
            obtain ⟨l2, hl2e⟩ : ∃ z, ml = z := ⟨_, rfl⟩
            have hl2 : l2.length = N := by rw [← hl2e]; simp [hmN]
            have hlaw : sealLaw s x ⟨mz, j2, l2, sl⟩ := by
              rw [← hl2e]
              refine sealLaw_of hsc hxg (marked_of (s := s) (j := (mz, j2)) (by rw [ofSc_true]; simp only; omega) hmV.ln hmV.bd) (by rw [← hxe]) fun he => ?_
              have := seal_judge (m := mz) (j := jz) (j2 := j2) hmn (by omega) (by omega) (by omega) (by rw [← hxe] at he; exact he)
              rw [← hxe]; simp only [this]
            obtain ⟨e2, he2⟩ : ∃ z, knownE s ⟨[⟨mz, j2, l2, sl⟩], [], []⟩ = z := ⟨_, rfl⟩
            have hck : ∀ σ' : Sg, PC Try.prog Y 27 [scPV s, ngPV ⟨[⟨mz, j2, l2, sl⟩], [], []⟩] σ' (I e2) σ' := fun σ' => PC.val (CheckNight_pc Y σ' s ⟨[⟨mz, j2, l2, sl⟩], [], []⟩ hsO ⟨by simp, by simp, by simp, fun z hz => by simp only [List.mem_singleton] at hz; subst hz; simp only; omega⟩) (by rw [he2])
            obtain ⟨sm, hsm⟩ : ∃ z, (decide (mz = mz) && (decide (jz = j2) && decide (ml = l2))) = z := ⟨_, rfl⟩
            have hlw : (sm = true → e2 = 0) ∧ (sm = false → e2 = 14) := by
              rw [← he2, ← hsm]
              refine ⟨fun e => hlaw.1 ?_, fun e => hlaw.2 fun h => ?_⟩
              · rw [Bool.and_eq_true, Bool.and_eq_true, decide_eq_true_eq, decide_eq_true_eq, decide_eq_true_eq] at e; rw [← hxe, ← e.1, ← e.2.1, ← e.2.2]
              · rw [← hxe] at h; injection h with h1 h2 h3; simp [h1, h2, h3] at e
            subst hl2e
            refine W_region [4, 5, 8] fun R hR => ?_   -- r17
            simp only [go_sem, hb0, hs, hb1, hmz, hb2, hjz, hb3, hml, hb4, hiz, hb5, hkz, hb6, hq4, hb7, hxe2, hmN, hj2, hb8]
            refine GCall_of (Roll_pc Y _ _ b7 (Sg.get_ext0 ..) s.judges (by omega)) ?_   -- t130
            simp only [go_sem, hb0, hs, hb1, hmz, hb2, hjz, hb3, hml, hb4, hiz, hb5, hkz, hb6, hq4, hb7, hxe2, hmN, hj2, hb8]
            refine hR _ _ (kq11 _ _ ?_); clear hR R; try clear kq11 kz11
            try simp only [go_sem, hb0, hs, hb1, hmz, hb2, hjz, hb3, hml, hb4, hiz, hb5, hkz, hb6, hq4, hb7, hxe2, hmN, hj2, hb8]
            refine W_seq fun kz22 kq22 => ?_
            refine W_weak (Weak.freezeX (j := 3) (k := 4) (off := 2) (len := N) (es := 1) (rest := []) (m := (ml).map I) (by decide) rfl rfl (by rw [rowC_ints, List.append_nil]; rfl) (by simp only [List.length_map]; exact hmN) (fun q hq => by obtain ⟨x, _, rfl⟩ := List.mem_map.1 hq; rfl)) ?_
            refine W_weak (Weak.keep [4, 5, 8]) ?_
            simp only [go_sem]
            refine W_regionJ [4, 8, 11] [(11, .bool sm)] ?_ fun R hR => ?_   -- r18
            · refine kq22 _ _ ?_
              simp only [go_sem, hb0, hs, hb1, hmz, hb2, hjz, hb3, hml, hb4, hiz, hb5, hkz, hb6, hq4, hb7, hxe2, hmN, hj2, hb8]
              refine W_seq fun kz23 kq23 => ?_
              refine W_region [11, 12] fun R hR => ?_   -- r19
              simp only [go_sem, hb0, hs, hb1, hmz, hb2, hjz, hb3, hml, hb4, hiz, hb5, hkz, hb6, hq4, hb7, hxe2, hmN, hj2, hb8]
              refine GCall_of (PC.ofRo (hck _) (by simp only [go_sem] <;> rfl)) ?_   -- t155
              simp only [go_sem, hb0, hs, hb1, hmz, hb2, hjz, hb3, hml, hb4, hiz, hb5, hkz, hb6, hq4, hb7, hxe2, hmN, hj2, hb8]
              refine hR _ _ (kq23 _ _ ?_); clear hR R; try clear kq23 kz23
              try simp only [go_sem, hb0, hs, hb1, hmz, hb2, hjz, hb3, hml, hb4, hiz, hb5, hkz, hb6, hq4, hb7, hxe2, hmN, hj2, hb8]
              refine W_seq fun kz24 kq24 => ?_
              refine W_regionJ [2] [(2, .bool true)] ?_ fun R hR => ?_   -- r20
              · refine kq24 _ _ ?_
                simp only [go_sem, hb0, hs, hb1, hmz, hb2, hjz, hb3, hml, hb4, hiz, hb5, hkz, hb6, hq4, hb7, hxe2, hmN, hj2, hb8]
                refine W_ret ?_
                simp only [go_sem, hb0, hs, hb1, hmz, hb2, hjz, hb3, hml, hb4, hiz, hb5, hkz, hb6, hq4, hb7, hxe2, hmN, hj2, hb8]
                refine ⟨.inr (by trivial), ?_⟩
                first | refine Fin_same hcl rfl (Wk_eq ?_ (by simp only [go_sem])) | refine Fin_self hcl rfl (Wk_eq ?_ (by simp only [go_sem]))
                try simp only [go_sem]
                all_goals
                  first | rfl | (simp_all; done)
              · simp only [go_sem, hb0, hs, hb1, hmz, hb2, hjz, hb3, hml, hb4, hiz, hb5, hkz, hb6, hq4, hb7, hxe2, hmN, hj2, hb8]
                refine GWant_split (fun g3 => ?_) (fun g3 => ?_)
                · try simp only [Bool.not_eq_true', Bool.not_eq_false'] at g3
                  have n3 := g3; try simp only [nrm] at n3
                  have he0 := hlw.1 g3
                  simp only [go_sem, hb0, hs, hb1, hmz, hb2, hjz, hb3, hml, hb4, hiz, hb5, hkz, hb6, hq4, hb7, hxe2, hmN, hj2, hb8, he0, g3]
                  refine GCall_of (awake_pc Y _) ?_   -- t170
                  simp only [go_sem, hb0, hs, hb1, hmz, hb2, hjz, hb3, hml, hb4, hiz, hb5, hkz, hb6, hq4, hb7, hxe2, hmN, hj2, hb8, he0, g3]
                  refine hR _ ?_
                  all_goals try simp only [go_sem, hb0, hs, hb1, hmz, hb2, hjz, hb3, hml, hb4, hiz, hb5, hkz, hb6, hq4, hb7, hxe2, hmN, hj2, hb8, he0]
                  all_goals
                    first | rfl | (cases sm <;> simp_all; done)
                · try simp only [Bool.not_eq_true', Bool.not_eq_false'] at g3
                  have n3 := g3; try simp only [nrm] at n3
                  have he0 := hlw.2 g3
                  simp only [go_sem, hb0, hs, hb1, hmz, hb2, hjz, hb3, hml, hb4, hiz, hb5, hkz, hb6, hq4, hb7, hxe2, hmN, hj2, hb8, he0, g3]
                  refine GCall_of (awake_pc Y _) ?_   -- t170
                  simp only [go_sem, hb0, hs, hb1, hmz, hb2, hjz, hb3, hml, hb4, hiz, hb5, hkz, hb6, hq4, hb7, hxe2, hmN, hj2, hb8, he0, g3]
                  refine hR _ ?_
                  all_goals try simp only [go_sem, hb0, hs, hb1, hmz, hb2, hjz, hb3, hml, hb4, hiz, hb5, hkz, hb6, hq4, hb7, hxe2, hmN, hj2, hb8, he0]
                  all_goals
                    first | rfl | (cases sm <;> simp_all; done)
            · simp only [go_sem, hb0, hs, hb1, hmz, hb2, hjz, hb3, hml, hb4, hiz, hb5, hkz, hb6, hq4, hb7, hxe2, hmN, hj2, hb8]
              refine GWant_split (fun g4 => ?_) (fun g4 => ?_)
              · try simp only [Bool.not_eq_true', Bool.not_eq_false'] at g4
                have n4 := g4; try simp only [nrm] at n4
                simp only [go_sem, hb0, hs, hb1, hmz, hb2, hjz, hb3, hml, hb4, hiz, hb5, hkz, hb6, hq4, hb7, hxe2, hmN, hj2, hb8, g4]
                refine GCall_of (EqInts_pc Y _ ml _ .ro .ro (by omega)) ?_   -- t149
                simp only [go_sem, hb0, hs, hb1, hmz, hb2, hjz, hb3, hml, hb4, hiz, hb5, hkz, hb6, hq4, hb7, hxe2, hmN, hj2, hb8, g4]
                refine hR _ ?_
                all_goals try simp only [go_sem, hb0, hs, hb1, hmz, hb2, hjz, hb3, hml, hb4, hiz, hb5, hkz, hb6, hq4, hb7, hxe2, hmN, hj2, hb8]
                all_goals
                  first | rfl | (rw [← hsm, n4]; simp only [eq_self, decide_true, Bool.and_self]; done) | (rw [← hsm, n6]; simp only [eq_self, decide_true, Bool.and_self]; done) | (rw [← hsm]; simp only [eq_self, decide_true, Bool.and_self, Bool.true_and, n4, n6, decide_false, Bool.false_and, Bool.and_false]; done) | (rw [← hsm]; simp only [eq_self, decide_true, Bool.and_self, Bool.true_and, n4, decide_false, Bool.false_and, Bool.and_false]; done) | (rw [← hsm]; simp only [eq_self, decide_true, Bool.and_self, Bool.true_and, n6, decide_false, Bool.false_and, Bool.and_false]; done) | (rw [← hsm]; simp only [eq_self, decide_true, Bool.true_and]; done)
              · try simp only [Bool.not_eq_true', Bool.not_eq_false'] at g4
                have n4 := g4; try simp only [nrm] at n4
                simp only [go_sem, hb0, hs, hb1, hmz, hb2, hjz, hb3, hml, hb4, hiz, hb5, hkz, hb6, hq4, hb7, hxe2, hmN, hj2, hb8, g4]
                refine hR _ ?_
                all_goals try simp only [go_sem, hb0, hs, hb1, hmz, hb2, hjz, hb3, hml, hb4, hiz, hb5, hkz, hb6, hq4, hb7, hxe2, hmN, hj2, hb8]
                all_goals
                  first | rfl | (rw [← hsm, n4]; simp only [eq_self, decide_true, Bool.and_self]; done) | (rw [← hsm, n6]; simp only [eq_self, decide_true, Bool.and_self]; done) | (rw [← hsm]; simp only [eq_self, decide_true, Bool.and_self, Bool.true_and, n4, n6, decide_false, Bool.false_and, Bool.and_false]; done) | (rw [← hsm]; simp only [eq_self, decide_true, Bool.and_self, Bool.true_and, n4, decide_false, Bool.false_and, Bool.and_false]; done) | (rw [← hsm]; simp only [eq_self, decide_true, Bool.and_self, Bool.true_and, n6, decide_false, Bool.false_and, Bool.and_false]; done) | (rw [← hsm]; simp only [eq_self, decide_true, Bool.true_and]; done)
          · -- c4 false
            try simp only [nrm] at c4
            obtain ⟨m2, hm2⟩ : ∃ zz, (roll s.matters b7).1 = zz := ⟨_, rfl⟩
            obtain ⟨b8, hb8⟩ : ∃ zz, (roll s.matters b7).2 = zz := ⟨_, rfl⟩
            have dm2 := roll_bd s.matters b7
            simp only [hm2] at dm2
            obtain ⟨l2, hl2e⟩ : ∃ z, ml = z := ⟨_, rfl⟩
            have hl2 : l2.length = N := by rw [← hl2e]; simp [hmN]
            have hlaw : sealLaw s x ⟨m2, jz, l2, sl⟩ := by
              rw [← hl2e]
              refine sealLaw_of hsc hxg (marked_of (s := s) (j := (m2, jz)) (by rw [ofSc_true]; simp only; omega) hmV.ln hmV.bd) (by rw [← hxe]) fun he => ?_
              have := seal_matter (m := mz) (m2 := m2) (j := jz) hmn (by omega) (by omega) (by omega) (by rw [← hxe] at he; exact he)
              rw [← hxe]; simp only [this]
            obtain ⟨e2, he2⟩ : ∃ z, knownE s ⟨[⟨m2, jz, l2, sl⟩], [], []⟩ = z := ⟨_, rfl⟩
            have hck : ∀ σ' : Sg, PC Try.prog Y 27 [scPV s, ngPV ⟨[⟨m2, jz, l2, sl⟩], [], []⟩] σ' (I e2) σ' := fun σ' => PC.val (CheckNight_pc Y σ' s ⟨[⟨m2, jz, l2, sl⟩], [], []⟩ hsO ⟨by simp, by simp, by simp, fun z hz => by simp only [List.mem_singleton] at hz; subst hz; simp only; omega⟩) (by rw [he2])
            obtain ⟨sm, hsm⟩ : ∃ z, (decide (mz = m2) && (decide (jz = jz) && decide (ml = l2))) = z := ⟨_, rfl⟩
            have hlw : (sm = true → e2 = 0) ∧ (sm = false → e2 = 14) := by
              rw [← he2, ← hsm]
              refine ⟨fun e => hlaw.1 ?_, fun e => hlaw.2 fun h => ?_⟩
              · rw [Bool.and_eq_true, Bool.and_eq_true, decide_eq_true_eq, decide_eq_true_eq, decide_eq_true_eq] at e; rw [← hxe, ← e.1, ← e.2.1, ← e.2.2]
              · rw [← hxe] at h; injection h with h1 h2 h3; simp [h1, h2, h3] at e
            subst hl2e
            refine W_region [4, 5, 8] fun R hR => ?_   -- r11
            simp only [go_sem, hb0, hs, hb1, hmz, hb2, hjz, hb3, hml, hb4, hiz, hb5, hkz, hb6, hq4, hb7, hxe2, hmN, hm2, hb8]
            refine GCall_of (Roll_pc Y _ _ b7 (Sg.get_ext0 ..) s.matters (by omega)) ?_   -- t75
            simp only [go_sem, hb0, hs, hb1, hmz, hb2, hjz, hb3, hml, hb4, hiz, hb5, hkz, hb6, hq4, hb7, hxe2, hmN, hm2, hb8]
            refine hR _ _ (kq11 _ _ ?_); clear hR R; try clear kq11 kz11
            try simp only [go_sem, hb0, hs, hb1, hmz, hb2, hjz, hb3, hml, hb4, hiz, hb5, hkz, hb6, hq4, hb7, hxe2, hmN, hm2, hb8]
            refine W_seq fun kz25 kq25 => ?_
            refine W_weak (Weak.freezeX (j := 3) (k := 4) (off := 2) (len := N) (es := 1) (rest := []) (m := (ml).map I) (by decide) rfl rfl (by rw [rowC_ints, List.append_nil]; rfl) (by simp only [List.length_map]; exact hmN) (fun q hq => by obtain ⟨x, _, rfl⟩ := List.mem_map.1 hq; rfl)) ?_
            refine W_weak (Weak.keep [4, 5, 8]) ?_
            simp only [go_sem]
            refine W_regionJ [4, 8, 11] [(11, .bool sm)] ?_ fun R hR => ?_   -- r18
            · refine kq25 _ _ ?_
              simp only [go_sem, hb0, hs, hb1, hmz, hb2, hjz, hb3, hml, hb4, hiz, hb5, hkz, hb6, hq4, hb7, hxe2, hmN, hm2, hb8]
              refine W_seq fun kz26 kq26 => ?_
              refine W_region [11, 12] fun R hR => ?_   -- r19
              simp only [go_sem, hb0, hs, hb1, hmz, hb2, hjz, hb3, hml, hb4, hiz, hb5, hkz, hb6, hq4, hb7, hxe2, hmN, hm2, hb8]
              refine GCall_of (PC.ofRo (hck _) (by simp only [go_sem] <;> rfl)) ?_   -- t155
              simp only [go_sem, hb0, hs, hb1, hmz, hb2, hjz, hb3, hml, hb4, hiz, hb5, hkz, hb6, hq4, hb7, hxe2, hmN, hm2, hb8]
              refine hR _ _ (kq26 _ _ ?_); clear hR R; try clear kq26 kz26
              try simp only [go_sem, hb0, hs, hb1, hmz, hb2, hjz, hb3, hml, hb4, hiz, hb5, hkz, hb6, hq4, hb7, hxe2, hmN, hm2, hb8]
              refine W_seq fun kz27 kq27 => ?_
              refine W_regionJ [2] [(2, .bool true)] ?_ fun R hR => ?_   -- r20
              · refine kq27 _ _ ?_
                simp only [go_sem, hb0, hs, hb1, hmz, hb2, hjz, hb3, hml, hb4, hiz, hb5, hkz, hb6, hq4, hb7, hxe2, hmN, hm2, hb8]
                refine W_ret ?_
                simp only [go_sem, hb0, hs, hb1, hmz, hb2, hjz, hb3, hml, hb4, hiz, hb5, hkz, hb6, hq4, hb7, hxe2, hmN, hm2, hb8]
                refine ⟨.inr (by trivial), ?_⟩
                first | refine Fin_same hcl rfl (Wk_eq ?_ (by simp only [go_sem])) | refine Fin_self hcl rfl (Wk_eq ?_ (by simp only [go_sem]))
                try simp only [go_sem]
                all_goals
                  first | rfl | (simp_all; done)
              · simp only [go_sem, hb0, hs, hb1, hmz, hb2, hjz, hb3, hml, hb4, hiz, hb5, hkz, hb6, hq4, hb7, hxe2, hmN, hm2, hb8]
                refine GWant_split (fun g5 => ?_) (fun g5 => ?_)
                · try simp only [Bool.not_eq_true', Bool.not_eq_false'] at g5
                  have n5 := g5; try simp only [nrm] at n5
                  have he0 := hlw.1 g5
                  simp only [go_sem, hb0, hs, hb1, hmz, hb2, hjz, hb3, hml, hb4, hiz, hb5, hkz, hb6, hq4, hb7, hxe2, hmN, hm2, hb8, he0, g5]
                  refine GCall_of (awake_pc Y _) ?_   -- t170
                  simp only [go_sem, hb0, hs, hb1, hmz, hb2, hjz, hb3, hml, hb4, hiz, hb5, hkz, hb6, hq4, hb7, hxe2, hmN, hm2, hb8, he0, g5]
                  refine hR _ ?_
                  all_goals try simp only [go_sem, hb0, hs, hb1, hmz, hb2, hjz, hb3, hml, hb4, hiz, hb5, hkz, hb6, hq4, hb7, hxe2, hmN, hm2, hb8, he0]
                  all_goals
                    first | rfl | (cases sm <;> simp_all; done)
                · try simp only [Bool.not_eq_true', Bool.not_eq_false'] at g5
                  have n5 := g5; try simp only [nrm] at n5
                  have he0 := hlw.2 g5
                  simp only [go_sem, hb0, hs, hb1, hmz, hb2, hjz, hb3, hml, hb4, hiz, hb5, hkz, hb6, hq4, hb7, hxe2, hmN, hm2, hb8, he0, g5]
                  refine GCall_of (awake_pc Y _) ?_   -- t170
                  simp only [go_sem, hb0, hs, hb1, hmz, hb2, hjz, hb3, hml, hb4, hiz, hb5, hkz, hb6, hq4, hb7, hxe2, hmN, hm2, hb8, he0, g5]
                  refine hR _ ?_
                  all_goals try simp only [go_sem, hb0, hs, hb1, hmz, hb2, hjz, hb3, hml, hb4, hiz, hb5, hkz, hb6, hq4, hb7, hxe2, hmN, hm2, hb8, he0]
                  all_goals
                    first | rfl | (cases sm <;> simp_all; done)
            · simp only [go_sem, hb0, hs, hb1, hmz, hb2, hjz, hb3, hml, hb4, hiz, hb5, hkz, hb6, hq4, hb7, hxe2, hmN, hm2, hb8]
              refine GWant_split (fun g6 => ?_) (fun g6 => ?_)
              · try simp only [Bool.not_eq_true', Bool.not_eq_false'] at g6
                have n6 := g6; try simp only [nrm] at n6
                simp only [go_sem, hb0, hs, hb1, hmz, hb2, hjz, hb3, hml, hb4, hiz, hb5, hkz, hb6, hq4, hb7, hxe2, hmN, hm2, hb8, g6]
                refine GCall_of (EqInts_pc Y _ ml _ .ro .ro (by omega)) ?_   -- t149
                simp only [go_sem, hb0, hs, hb1, hmz, hb2, hjz, hb3, hml, hb4, hiz, hb5, hkz, hb6, hq4, hb7, hxe2, hmN, hm2, hb8, g6]
                refine hR _ ?_
                all_goals try simp only [go_sem, hb0, hs, hb1, hmz, hb2, hjz, hb3, hml, hb4, hiz, hb5, hkz, hb6, hq4, hb7, hxe2, hmN, hm2, hb8]
                all_goals
                  first | rfl | (rw [← hsm, n4]; simp only [eq_self, decide_true, Bool.and_self]; done) | (rw [← hsm, n6]; simp only [eq_self, decide_true, Bool.and_self]; done) | (rw [← hsm]; simp only [eq_self, decide_true, Bool.and_self, Bool.true_and, n4, n6, decide_false, Bool.false_and, Bool.and_false]; done) | (rw [← hsm]; simp only [eq_self, decide_true, Bool.and_self, Bool.true_and, n4, decide_false, Bool.false_and, Bool.and_false]; done) | (rw [← hsm]; simp only [eq_self, decide_true, Bool.and_self, Bool.true_and, n6, decide_false, Bool.false_and, Bool.and_false]; done) | (rw [← hsm]; simp only [eq_self, decide_true, Bool.true_and]; done)
              · try simp only [Bool.not_eq_true', Bool.not_eq_false'] at g6
                have n6 := g6; try simp only [nrm] at n6
                simp only [go_sem, hb0, hs, hb1, hmz, hb2, hjz, hb3, hml, hb4, hiz, hb5, hkz, hb6, hq4, hb7, hxe2, hmN, hm2, hb8, g6]
                refine hR _ ?_
                all_goals try simp only [go_sem, hb0, hs, hb1, hmz, hb2, hjz, hb3, hml, hb4, hiz, hb5, hkz, hb6, hq4, hb7, hxe2, hmN, hm2, hb8]
                all_goals
                  first | rfl | (rw [← hsm, n4]; simp only [eq_self, decide_true, Bool.and_self]; done) | (rw [← hsm, n6]; simp only [eq_self, decide_true, Bool.and_self]; done) | (rw [← hsm]; simp only [eq_self, decide_true, Bool.and_self, Bool.true_and, n4, n6, decide_false, Bool.false_and, Bool.and_false]; done) | (rw [← hsm]; simp only [eq_self, decide_true, Bool.and_self, Bool.true_and, n4, decide_false, Bool.false_and, Bool.and_false]; done) | (rw [← hsm]; simp only [eq_self, decide_true, Bool.and_self, Bool.true_and, n6, decide_false, Bool.false_and, Bool.and_false]; done) | (rw [← hsm]; simp only [eq_self, decide_true, Bool.true_and]; done)
  · simp only [go_sem, hb0, hs, hb1, hmz, hb2, hjz, hb3, hml, hb4, hiz, hb5, hkz, hb6, hq4, hb7, hxe2, hmN]
    refine GCall_of (PC.ofRo (PC.val (v' := I 0) (CheckNight_pc Y _ s ⟨[⟨mz, jz, ml, sl⟩], [], []⟩ hsO (nightV_iff.1 (by rw [hxe]; exact hxk)).ok) (by rw [hxe, hxk])) (by simp only [go_sem] <;> rfl)) ?_   -- t54
    simp only [go_sem, hb0, hs, hb1, hmz, hb2, hjz, hb3, hml, hb4, hiz, hb5, hkz, hb6, hq4, hb7, hxe2, hmN]
    refine hR _ ?_
    all_goals try simp only [go_sem, hb0, hs, hb1, hmz, hb2, hjz, hb3, hml, hb4, hiz, hb5, hkz, hb6, hq4, hb7, hxe2, hmN]
    all_goals
      first | rfl | (simp_all; done) | (simp_all; omega)
end Go.Proofs.Ytgelnjmddabgpaa
namespace Go.Proofs.Ytgelnjmddabgpaa
open Go Go.RowKit
theorem rdMarksSealedArgs : All2 (fun t R => Rd Try.prog t R) Try.f6.params.toList [fun p => ∃ xs : List Int, p = ints xs ∧ intsSz xs] :=
  .cons rdInts .nil
set_option maxHeartbeats 4000000 in
theorem MarksSealed_walk : ∀ qs, AllR [fun p => ∃ xs : List Int, p = ints xs ∧ intsSz xs] qs → ∃ σ', PC Try.prog noY 6 qs Sg.zero (.bool true) σ' := by
  intro qs hq
  obtain ⟨px0, qs, rfl, ⟨x0, hx0, sx0⟩, hq⟩ := allR_cons hq
  obtain rfl := allR_nil hq
  subst hx0
  exact ⟨_, MarksSealed_pc noY _ x0 (by unfold intsSz at sx0; omega)⟩
theorem MarksSealed_lifted (os : Os) (started : os.Started) (H : Type) (enc : TypeId × Value → H) :
    ReturnsInHanded {} Try.checked os 6 .any (Rows.marksSealedSpec.pre6 enc Try.prog Try.f6 Rows.marksSealedRow.domain false) (Rows.marksSealedSpec.post enc Try.prog Try.f6 false true false false) :=
  law_lifted (C := Try.checked) own started (by kernel_rfl) Try.func6 rfl laidOut (by kernel_rfl) rdMarksSealedArgs rfl Try.underlying4
    (fun ds h => match ds, h with | [_], _ => rfl)
    (ChangeSpec.witness6 (enc := enc) (C := Try.checked) false ⟨#[], #[.slice none 0 0], []⟩ 8 (by kernel_rfl) (by kernel_rfl) (by kernel_rfl) (by kernel_rfl))
    MarksSealed_walk
theorem MarksSealed_holds : Rows.MarksSealedSaid :=
  OpenClaim.holds_of_wide 6 Try.f6 rfl rfl rfl rfl rfl rfl rfl ⟨rfl, rfl, rfl, rfl, rfl⟩ rfl rfl rfl rfl rfl (by kernel_rfl) Try.func6 (by kernel_rfl)
    (of_decide_eq_true (by kernel_rfl)) (by unfold Func.isWrapper; first | (rw [if_pos (by decide +kernel)]; kernel_rfl) | (rw [if_neg (by decide +kernel)]; exact ⟨rfl, rfl⟩))
    (fun os started H enc _ => MarksSealed_lifted os started H enc)
end Go.Proofs.Ytgelnjmddabgpaa
