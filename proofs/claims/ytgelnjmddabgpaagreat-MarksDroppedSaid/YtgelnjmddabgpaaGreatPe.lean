/-
  Walks: numbers copied, to be written again (bateriakit).
  Walks: what is known of judges (marks).
  Walks: what is known of a night, or its first error (marks).
  Sorting, as the library does it.
  Walks: rows sorted; the points of a school in a matter (marks).
  Walks: the points of a school in a matter (marks).
  Walks: standings, and which of two is ahead (marks).
  Walks: the judges of whom nothing is known (marks).
  Walks: totals, places, who wins, who is missing (marks).
-/
import Derived.Test.YtgelnjmddabgpaaGreatPd
import Derived.CallsIn
import Derived.RangeFuncLeaves
import Derived.RangeFuncRecord
import Derived.OrdersIn
import Derived.Below
import Derived.Laws.World
import Derived.Laws.StructEq
import Derived.Laws.Append
import Derived.MapKept
import Derived.ProofKit
import Derived.Carry
import Derived.Handed
import Derived.ChangeCalls
import Derived.RangeFuncIn
import Derived.RangeFuncNested
import Derived.Test.YtgelnjmddabgpaaGreatProg
import Derived.KernelRfl
import Derived.IntWalk
import Derived.Test.YtgelnjmddabgpaaGreatRows
import Derived.Sort.OwnSortedInts
import Derived.Lib.SlicesCompact
import Derived.Shelf.Sort.Plain
import Derived.Shelf.Slices.In.SortNone
import Derived.Shelf.Small.Bits
import Derived.JoinedOf
set_option linter.unusedSimpArgs false
set_option linter.unusedVariables false
namespace Go.Proofs.YtgelnjmddabgpaaGreat
open Go Go.RowKit
set_option maxRecDepth 100000
set_option maxHeartbeats 2000000 in
theorem IntsW_pc (Y : YEnv) (σ : Sg) (xs : List Int) (o : Own) (hne : xs ≠ []) (h : xs.length < 2 ^ 40) :
    PC Tryz.prog Y 38 [intsO o xs] σ (.gsl σ.store.length xs.length 1) (σ.ext [some (xs.map I)] []) := by
  refine PC_of_W Tryz.func38 rfl (by kernel_rfl) Tryz.ntmps38 (by simp) fun hcl hca => ?_
  refine W_seq fun kz1 kq1 => ?_
  refine W_region [0] fun R hR => ?_   -- r0
  simp only [go_sem]
  refine hR _ _ (kq1 _ _ ?_); clear hR R; try clear kq1 kz1
  try simp only [go_sem]
  refine W_seq fun kz2 kq2 => ?_
  refine W_regionN [2] 2 fun R hR => ?_   -- r1
  simp only [GLw, go_sem]
  refine ⟨_, _, Weak.gnil (t := 3) (by simp only [go_sem]), ?_⟩
  simp only [go_sem]
  have hpos : 0 < xs.length := List.length_pos_iff.2 hne
  rw [appG_nil (by simp [PV.cells, PV.scalar]) (by simpa using hpos) (by simp; omega), rowC_ints]
  simp only [go_sem]
  refine hR _ _ (kq2 _ _ ?_); clear hR R; try clear kq2 kz2
  try simp only [go_sem]
  refine W_ret ?_
  simp only [go_sem]
  refine ⟨.inr (by trivial), ?_⟩
  refine Fin_ext (σ := σ) (l := [some (xs.map I)]) (rm := []) 1 0 hcl rfl (Wk_eq rfl (by simp only [go_sem] <;> omega)) (by show CleanLs _ _ _ _; simp only [go_sem])
end Go.Proofs.YtgelnjmddabgpaaGreat
namespace Go.Proofs.YtgelnjmddabgpaaGreat
open Go Go.RowKit
set_option maxRecDepth 100000
theorem cells_map {a : Nat} : (PV.map a).cells = [PV.map a] := rfl
theorem cells_nilmap : PV.nilmap.cells = [PV.nilmap] := rfl
theorem cells_yield {a : Nat} : (PV.yield a).cells = [PV.yield a] := rfl
theorem cells_msl {a b c : Nat} : (PV.msl a b c).cells = [PV.msl a b c] := rfl
attribute [go_sem] cells_map cells_nilmap cells_yield cells_msl
theorem lkX_osv {P : Program} {kt : TypeId} {z : PV} {σ : Sg} {l : List (Option (List PV))} {rm : List Nat} {ys : List LState} {d : Nat} {cs : List PV} {k : PV} {ok : Bool} (h : d < σ.store.length) : lkX P kt z ((σ.setVar d cs).ext l rm ys) d k ok = lkM P kt z (some (some cs)) k ok := by
  simp only [lkX, get_svx h]
theorem upX_osv {P : Program} {kt : TypeId} {σ : Sg} {l : List (Option (List PV))} {rm : List Nat} {ys : List LState} {d : Nat} {cs : List PV} {k v : PV} (h : d < σ.store.length) : upX P kt ((σ.setVar d cs).ext l rm ys) d k v = (upM P kt (some (some cs)) k v).map fun cs' => (σ.setVar d cs').ext l rm ys := by
  simp only [upX, get_svx h]
  cases upM P kt (some (some cs)) k v with
  | none => rfl
  | some x => simp only [Option.map_some, sv_ext_sv h]
theorem upKm {k : Kn} {a b : Int} {v : List Int} (h : v ≠ []) : upM Tryz.prog 116 (some (some (.mark :: knE k))) (.agg [.int .i64 a, .int .i64 b]) (.isl (v.map I) .ro) = some (.mark :: knE (aput (a, b) v k)) := by
  cases v with
  | nil => exact absurd rfl h
  | cons x v => exact upKs
/-- No envelope without marks. -/
def KnPos (k : Kn) : Prop := ∀ e, e ∈ k → e.2 ≠ []
theorem KnPos.get {k : Kn} (h : KnPos k) {j : Int × Int} {l : List Int} (e : aget j k = some l) : l ≠ [] := h _ (aget_mem e)
theorem aput_mem {κ ν : Type} [DecidableEq κ] {j : κ} {v : ν} : ∀ {k : List (κ × ν)} {e : κ × ν}, e ∈ aput j v k → e = (j, v) ∨ e ∈ k := by
  intro k
  induction k with
  | nil => intro e h; simp [aput] at h; exact .inl h
  | cons x k ih =>
    intro e h
    simp only [aput] at h
    split at h
    · rcases List.mem_cons.1 h with h | h
      · exact .inl h
      · exact .inr (List.mem_cons_of_mem _ h)
    · rcases List.mem_cons.1 h with h | h
      · exact .inr (h ▸ List.mem_cons_self ..)
      · rcases ih h with h | h
        · exact .inl h
        · exact .inr (List.mem_cons_of_mem _ h)
theorem KnPos.put {k : Kn} (h : KnPos k) {j : Int × Int} {l : List Int} (hl : l ≠ []) : KnPos (aput j l k) := fun e he => by
  rcases aput_mem he with rfl | he
  · exact hl
  · exact h e he
structure Night.Ok (n : Night) : Prop where
  ho : n.opened.length < 2 ^ 40
  ha : n.absent.length < 2 ^ 40
  hf : n.fines.length < 2 ^ 40
  hm : ∀ x, x ∈ n.opened → x.marks.length < 2 ^ 40
set_option maxHeartbeats 2000000 in
theorem open_pc (Y : YEnv) (σ : Sg) (id : Nat) (k : Kn) (hd : σ.store[id]? = some (some (.mark :: knE k))) (s : Scale) (l : List Envl) (hv : s.V) (hk : KnPos k) (hk2 : ∀ e, e ∈ k → e.2.length < 2 ^ 40) (hl : l.length < 2 ^ 40) (hm : ∀ x, x ∈ l → x.marks.length < 2 ^ 40) :
    PC Tryz.prog Y 75 [.map id, scPV s, evs l] σ (I (openK s l k).1) (σ.setVar id (.mark :: knE (openK s l k).2)) := by
  refine PC_of_W Tryz.func75 rfl (by kernel_rfl) Tryz.ntmps75 (by simp) fun hcl hca => ?_
  have hlt := lt_of_get hd
  have q1 := hv.mt
  have q2 := hv.jd
  have q3 := hv.sc
  have q4 := hv.lo
  have q5 := hv.hi
  obtain ⟨res, hres⟩ : ∃ r, openK s l k = r := ⟨_, rfl⟩
  rw [hres]
  refine W_seq fun kz1 kq1 => ?_
  refine W_region [0, 2, 4] fun R hR => ?_   -- r0
  simp only [go_sem, ldS_at hd, stX_at hd, ldS_sv hlt, stX_sv hlt, sv_ext hlt, sv_ext_sv hlt, lkX_osv hlt, upX_osv hlt]
  refine hR _ _ (kq1 _ _ ?_); clear hR R; try clear kq1 kz1
  try simp only [go_sem, ldS_at hd, stX_at hd, ldS_sv hlt, stX_sv hlt, sv_ext hlt, sv_ext_sv hlt, lkX_osv hlt, upX_osv hlt]
  refine W_seq fun kz2 kq2 => ?_
  refine W_seq fun kz3 kq3 => ?_
  refine W_region [0, 4, 13, 14, 15] fun R hR => ?_   -- r1
  simp only [go_sem, ldS_at hd, stX_at hd, ldS_sv hlt, stX_sv hlt, sv_ext hlt, sv_ext_sv hlt, lkX_osv hlt, upX_osv hlt]
  refine hR _ _ (kq3 _ _ ?_); clear hR R; try clear kq3 kz3
  try simp only [go_sem, ldS_at hd, stX_at hd, ldS_sv hlt, stX_sv hlt, sv_ext hlt, sv_ext_sv hlt, lkX_osv hlt, upX_osv hlt]
  refine W_block ?_
  refine W_loopT (α := Nat × Kn) (fun ⟨i, kk⟩ => [(15, I i)]) (fun ⟨i, kk⟩ => (σ.setVar id (.mark :: knE kk)).ext [some (scCells s)] []) (fun ⟨i, kk⟩ => i ≤ l.length ∧ KnPos kk ∧ (∀ e, e ∈ kk → e.2.length < 2 ^ 40) ∧ res = openK s (l.drop i) kk) (fun ⟨i, kk⟩ => l.length - i) ((0, k)) rfl (by simp only [go_sem, sv_self hd]) (⟨Nat.zero_le _, hk, hk2, hres.symm⟩) ?_
  rintro ⟨i, kk⟩ ⟨hi, hkk, hkl, hinv⟩
  refine W_seq fun kz4 kq4 => ?_
  refine W_region [0, 4, 13, 14, 15, 16] fun R hR => ?_   -- r2
  simp only [go_sem, ldS_at hd, stX_at hd, ldS_sv hlt, stX_sv hlt, sv_ext hlt, sv_ext_sv hlt, lkX_osv hlt, upX_osv hlt]
  refine hR _ _ (kq4 _ _ ?_); clear hR R; try clear kq4 kz4
  try simp only [go_sem, ldS_at hd, stX_at hd, ldS_sv hlt, stX_sv hlt, sv_ext hlt, sv_ext_sv hlt, lkX_osv hlt, upX_osv hlt]
  refine W_seq fun kz5 kq5 => ?_
  refine W_cond rfl (fun c1 => ?_) (fun c1 => ?_)
  · -- c1 true
    try simp only [nrm] at c1
    have hi' : i < l.length := by first | assumption | omega
    obtain ⟨x, hx⟩ : ∃ x, l[i]? = some x := ⟨l[i], by simp [hi']⟩
    have hdrop : l.drop i = x :: l.drop (i + 1) := by
      rw [List.drop_eq_getElem_cons hi']; congr 1; exact (List.getElem?_eq_some_iff.1 hx).2
    have hxl : x ∈ l := List.mem_of_getElem? hx
    rw [hdrop] at hinv
    simp only [openK] at hinv
    refine W_skip (kq5 _ _ ?_)
    refine W_seq fun kz6 kq6 => ?_
    refine W_block ?_
    refine W_seq fun kz7 kq7 => ?_
    refine W_region [0, 4, 8, 13, 14, 15] fun R hR => ?_   -- r3
    simp only [go_sem, ldS_at hd, stX_at hd, ldS_sv hlt, stX_sv hlt, sv_ext hlt, sv_ext_sv hlt, lkX_osv hlt, upX_osv hlt, hx]
    refine hR _ _ (kq7 _ _ ?_); clear hR R; try clear kq7 kz7
    try simp only [go_sem, ldS_at hd, stX_at hd, ldS_sv hlt, stX_sv hlt, sv_ext hlt, sv_ext_sv hlt, lkX_osv hlt, upX_osv hlt, hx]
    refine W_seq fun kz8 kq8 => ?_
    refine W_region [0, 4, 8, 9, 13, 14, 15] fun R hR => ?_   -- r4
    simp only [go_sem, ldS_at hd, stX_at hd, ldS_sv hlt, stX_sv hlt, sv_ext hlt, sv_ext_sv hlt, lkX_osv hlt, upX_osv hlt, hx]
    refine hR _ _ (kq8 _ _ ?_); clear hR R; try clear kq8 kz8
    try simp only [go_sem, ldS_at hd, stX_at hd, ldS_sv hlt, stX_sv hlt, sv_ext hlt, sv_ext_sv hlt, lkX_osv hlt, upX_osv hlt, hx]
    refine W_seq fun kz9 kq9 => ?_
    refine W_seq fun kz10 kq10 => ?_
    refine W_region [0, 4, 8, 9, 10, 13, 14, 15] fun R hR => ?_   -- r5
    simp only [go_sem, ldS_at hd, stX_at hd, ldS_sv hlt, stX_sv hlt, sv_ext hlt, sv_ext_sv hlt, lkX_osv hlt, upX_osv hlt, hx]
    refine GCall_of (marked_pc Y _ s (x.matter, x.judge) x.marks .ro (hm x hxl) hv) ?_   -- t28
    simp only [go_sem, ldS_at hd, stX_at hd, ldS_sv hlt, stX_sv hlt, sv_ext hlt, sv_ext_sv hlt, lkX_osv hlt, upX_osv hlt, hx]
    refine hR _ _ (kq10 _ _ ?_); clear hR R; try clear kq10 kz10
    try simp only [go_sem, ldS_at hd, stX_at hd, ldS_sv hlt, stX_sv hlt, sv_ext hlt, sv_ext_sv hlt, lkX_osv hlt, upX_osv hlt, hx]
    refine W_seq fun kz11 kq11 => ?_
    refine W_region [0, 4, 8, 9, 10, 13, 14, 15, 30] fun R hR => ?_   -- r6
    simp only [go_sem, ldS_at hd, stX_at hd, ldS_sv hlt, stX_sv hlt, sv_ext hlt, sv_ext_sv hlt, lkX_osv hlt, upX_osv hlt, hx]
    refine hR _ _ (kq11 _ _ ?_); clear hR R; try clear kq11 kz11
    try simp only [go_sem, ldS_at hd, stX_at hd, ldS_sv hlt, stX_sv hlt, sv_ext hlt, sv_ext_sv hlt, lkX_osv hlt, upX_osv hlt, hx]
    refine W_cond rfl (fun c2 => ?_) (fun c2 => ?_)
    · -- c2 true
      try simp only [nrm] at c2
      refine W_seq fun kz12 kq12 => ?_
      refine W_region [6] fun R hR => ?_   -- r7
      simp only [go_sem, ldS_at hd, stX_at hd, ldS_sv hlt, stX_sv hlt, sv_ext hlt, sv_ext_sv hlt, lkX_osv hlt, upX_osv hlt, hx]
      refine hR _ _ (kq12 _ _ ?_); clear hR R; try clear kq12 kz12
      try simp only [go_sem, ldS_at hd, stX_at hd, ldS_sv hlt, stX_sv hlt, sv_ext hlt, sv_ext_sv hlt, lkX_osv hlt, upX_osv hlt, hx]
      refine W_ret ?_
      simp only [go_sem, ldS_at hd, stX_at hd, ldS_sv hlt, stX_sv hlt, sv_ext hlt, sv_ext_sv hlt, lkX_osv hlt, upX_osv hlt, hx]
      refine ⟨.inr (by trivial), ?_⟩
      have hr2 : res.2 = kk := by rw [hinv] <;> first | rfl | (simp [*]; done) | (simp_all; done)
      rw [hr2]
      first | refine Fin_set hcl (by simp only [go_sem]) rfl (Wk_eq ?_ (by simp only [go_sem])) | refine Fin_set0 hcl (by simp only [go_sem]) rfl (Wk_eq ?_ (by simp only [go_sem]))
      try simp only [go_sem]
      all_goals
        first | rfl | (simp_all; done) | (simp_all; omega)
    · -- c2 false
      try simp only [nrm] at c2
      obtain ⟨k1, k2, k3⟩ := marked_ok c2
      simp only [ofSc_true] at k1
      have hne : x.marks ≠ [] := fun e => by rw [e] at k2; simp at k2; omega
      refine W_skip (kq9 _ _ ?_)
      refine W_seq fun kz13 kq13 => ?_
      refine W_seq fun kz14 kq14 => ?_
      refine W_draw [0, 4, 8, 9, 13, 14, 15, 38] [0, 1, 2, 3, 4, 5, 6] [(0, 7), (1, 7)] [[], [0], [], [], [3], [2, 3, 4], [0, 1, 2, 3, 4, 5]] mixed (by kernel_rfl) fun R hR => ?_   -- r8
      simp only [go_sem, ldS_at hd, stX_at hd, ldS_sv hlt, stX_sv hlt, sv_ext hlt, sv_ext_sv hlt, lkX_osv hlt, upX_osv hlt, hx]
      refine GCall_of (seal_pc Y _ (x.matter, x.judge) x.marks .ro (by omega) (by omega) (by omega) (fun z hz => by have := k3 z hz; omega)) ?_   -- t37
      simp only [go_sem, ldS_at hd, stX_at hd, ldS_sv hlt, stX_sv hlt, sv_ext hlt, sv_ext_sv hlt, lkX_osv hlt, upX_osv hlt, hx]
      try refine And.intro (by repeat' (first | refine And.intro ?_ ?_ | exact GOr_right (fun _ => by simp only [go_sem, ldS_at hd, stX_at hd, ldS_sv hlt, stX_sv hlt, sv_ext hlt, sv_ext_sv hlt, lkX_osv hlt, upX_osv hlt, hx]))) ?_
      refine hR _ _ (kq14 _ _ ?_); clear hR R; try clear kq14 kz14
      try simp only [go_sem, ldS_at hd, stX_at hd, ldS_sv hlt, stX_sv hlt, sv_ext hlt, sv_ext_sv hlt, lkX_osv hlt, upX_osv hlt, hx]
      refine W_cond rfl (fun c3 => ?_) (fun c3 => ?_)
      · -- c3 true
        try simp only [nrm] at c3
        refine W_seq fun kz15 kq15 => ?_
        refine W_region [6] fun R hR => ?_   -- r9
        simp only [go_sem, ldS_at hd, stX_at hd, ldS_sv hlt, stX_sv hlt, sv_ext hlt, sv_ext_sv hlt, lkX_osv hlt, upX_osv hlt, hx]
        refine hR _ _ (kq15 _ _ ?_); clear hR R; try clear kq15 kz15
        try simp only [go_sem, ldS_at hd, stX_at hd, ldS_sv hlt, stX_sv hlt, sv_ext hlt, sv_ext_sv hlt, lkX_osv hlt, upX_osv hlt, hx]
        refine W_ret ?_
        simp only [go_sem, ldS_at hd, stX_at hd, ldS_sv hlt, stX_sv hlt, sv_ext hlt, sv_ext_sv hlt, lkX_osv hlt, upX_osv hlt, hx]
        refine ⟨.inr (by trivial), ?_⟩
        have hr2 : res.2 = kk := by rw [hinv] <;> first | rfl | (simp [*]; done) | (simp_all; done)
        rw [hr2]
        first | refine Fin_set hcl (by simp only [go_sem]) rfl (Wk_eq ?_ (by simp only [go_sem])) | refine Fin_set0 hcl (by simp only [go_sem]) rfl (Wk_eq ?_ (by simp only [go_sem]))
        try simp only [go_sem]
        all_goals
          first | rfl | (simp_all; done) | (simp_all; omega)
      · -- c3 false
        try simp only [nrm] at c3
        refine W_skip (kq13 _ _ ?_)
        refine W_seq fun kz16 kq16 => ?_
        refine W_seq fun kz17 kq17 => ?_
        refine W_region [0, 4, 8, 9, 11, 12, 13, 14, 15] fun R hR => ?_   -- r10
        simp only [go_sem, ldS_at hd, stX_at hd, ldS_sv hlt, stX_sv hlt, sv_ext hlt, sv_ext_sv hlt, lkX_osv hlt, upX_osv hlt, hx]
        refine hR _ _ (kq17 _ _ ?_); clear hR R; try clear kq17 kz17
        try simp only [go_sem, ldS_at hd, stX_at hd, ldS_sv hlt, stX_sv hlt, sv_ext hlt, sv_ext_sv hlt, lkX_osv hlt, upX_osv hlt, hx]
        refine W_seq fun kz18 kq18 => ?_
        refine W_region [0, 4, 8, 9, 13, 14, 15, 52] fun R hR => ?_   -- r11
        simp only [go_sem, ldS_at hd, stX_at hd, ldS_sv hlt, stX_sv hlt, sv_ext hlt, sv_ext_sv hlt, lkX_osv hlt, upX_osv hlt, hx]
        refine GWant_split (fun g1 => ?_) (fun g1 => ?_)
        · try simp only [Bool.not_eq_true', Bool.not_eq_false'] at g1
          have n1 := g1; try simp only [nrm] at n1
          simp only [go_sem, ldS_at hd, stX_at hd, ldS_sv hlt, stX_sv hlt, sv_ext hlt, sv_ext_sv hlt, lkX_osv hlt, upX_osv hlt, hx, g1]
          obtain ⟨old, hold⟩ : ∃ z, aget (x.matter, x.judge) kk = some z := Option.isSome_iff_exists.1 (by assumption)
          simp only [hold, Option.getD_some, mkPV_ne (KnPos.get hkk hold)]
          have holdl : old.length < 2 ^ 50 := by have := hkl _ (aget_mem hold); simp only at this; omega
          refine GCall_of (Equal_pc Y _ old x.marks _ _ holdl) ?_   -- t50
          simp only [go_sem, ldS_at hd, stX_at hd, ldS_sv hlt, stX_sv hlt, sv_ext hlt, sv_ext_sv hlt, lkX_osv hlt, upX_osv hlt, hx, g1]
          refine hR _ _ (kq18 _ _ ?_); clear hR R; try clear kq18 kz18
          try simp only [go_sem, ldS_at hd, stX_at hd, ldS_sv hlt, stX_sv hlt, sv_ext hlt, sv_ext_sv hlt, lkX_osv hlt, upX_osv hlt, hx]
          refine W_cond rfl (fun c4 => ?_) (fun c4 => ?_)
          · -- c4 true
            try simp only [nrm] at c4
            refine W_seq fun kz19 kq19 => ?_
            refine W_region [6] fun R hR => ?_   -- r12
            simp only [go_sem, ldS_at hd, stX_at hd, ldS_sv hlt, stX_sv hlt, sv_ext hlt, sv_ext_sv hlt, lkX_osv hlt, upX_osv hlt, hx]
            refine hR _ _ (kq19 _ _ ?_); clear hR R; try clear kq19 kz19
            try simp only [go_sem, ldS_at hd, stX_at hd, ldS_sv hlt, stX_sv hlt, sv_ext hlt, sv_ext_sv hlt, lkX_osv hlt, upX_osv hlt, hx]
            refine W_ret ?_
            simp only [go_sem, ldS_at hd, stX_at hd, ldS_sv hlt, stX_sv hlt, sv_ext hlt, sv_ext_sv hlt, lkX_osv hlt, upX_osv hlt, hx]
            refine ⟨.inr (by trivial), ?_⟩
            have hr2 : res.2 = kk := by rw [hinv] <;> first | rfl | (simp [*]; done) | (simp_all; done)
            rw [hr2]
            first | refine Fin_set hcl (by simp only [go_sem]) rfl (Wk_eq ?_ (by simp only [go_sem])) | refine Fin_set0 hcl (by simp only [go_sem]) rfl (Wk_eq ?_ (by simp only [go_sem]))
            try simp only [go_sem]
            all_goals
              first | rfl | (simp_all; done) | (simp_all; omega)
          · -- c4 false
            try simp only [nrm] at c4
            refine W_skip (kq16 _ _ ?_)
            refine W_region [0, 4, 13, 14, 15] fun R hR => ?_   -- r13
            simp only [go_sem, ldS_at hd, stX_at hd, ldS_sv hlt, stX_sv hlt, sv_ext hlt, sv_ext_sv hlt, lkX_osv hlt, upX_osv hlt, hx, upKm hne]
            refine hR _ _ (kq6 _ _ ?_); clear hR R; try clear kq6 kz6
            try simp only [go_sem, ldS_at hd, stX_at hd, ldS_sv hlt, stX_sv hlt, sv_ext hlt, sv_ext_sv hlt, lkX_osv hlt, upX_osv hlt, hx]
            refine W_region [0, 4, 13, 14, 15] fun R hR => ?_   -- r14
            simp only [go_sem, ldS_at hd, stX_at hd, ldS_sv hlt, stX_sv hlt, sv_ext hlt, sv_ext_sv hlt, lkX_osv hlt, upX_osv hlt, hx]
            try simp (disch := omega) only [wrapI, wrapU]
            refine hR _ _ ?_; clear hR R
            try simp only [go_sem, ldS_at hd, stX_at hd, ldS_sv hlt, stX_sv hlt, sv_ext hlt, sv_ext_sv hlt, lkX_osv hlt, upX_osv hlt, hx]
            refine ⟨(i + 1, aput (x.matter, x.judge) x.marks kk), ?_, by (try simp only []); omega, ?_⟩
            · refine Weak.trans (Weak.cutSV 1 0 (by omega) (by omega) hcl (by simp only [go_sem]) (by simp only [go_sem] <;> omega) (by simp only [go_sem] <;> omega)) ?_
              simp only [go_sem]
              exact Weak.eq (by first | rfl | (simp only [go_sem]; done) | (simp only [go_sem]; rfl) | (simp [go_sem]; done) | (simp [go_sem]; omega)) (by first | rfl | (simp only [go_sem]; done) | (simp [go_sem]; done))
            · try dsimp only
              refine ⟨hi', hkk.put hne, ?_, ?_⟩
              · intro e he
                rcases aput_mem he with rfl | he
                · exact hm x hxl
                · exact hkl e he
              · simp_all
        · try simp only [Bool.not_eq_true', Bool.not_eq_false'] at g1
          have n1 := g1; try simp only [nrm] at n1
          simp only [go_sem, ldS_at hd, stX_at hd, ldS_sv hlt, stX_sv hlt, sv_ext hlt, sv_ext_sv hlt, lkX_osv hlt, upX_osv hlt, hx, g1]
          refine hR _ _ (kq18 _ _ ?_); clear hR R; try clear kq18 kz18
          try simp only [go_sem, ldS_at hd, stX_at hd, ldS_sv hlt, stX_sv hlt, sv_ext hlt, sv_ext_sv hlt, lkX_osv hlt, upX_osv hlt, hx]
          refine W_cond_false rfl ?_
          refine W_skip (kq16 _ _ ?_)
          refine W_region [0, 4, 13, 14, 15] fun R hR => ?_   -- r13
          simp only [go_sem, ldS_at hd, stX_at hd, ldS_sv hlt, stX_sv hlt, sv_ext hlt, sv_ext_sv hlt, lkX_osv hlt, upX_osv hlt, hx, upKm hne]
          refine hR _ _ (kq6 _ _ ?_); clear hR R; try clear kq6 kz6
          try simp only [go_sem, ldS_at hd, stX_at hd, ldS_sv hlt, stX_sv hlt, sv_ext hlt, sv_ext_sv hlt, lkX_osv hlt, upX_osv hlt, hx]
          refine W_region [0, 4, 13, 14, 15] fun R hR => ?_   -- r14
          simp only [go_sem, ldS_at hd, stX_at hd, ldS_sv hlt, stX_sv hlt, sv_ext hlt, sv_ext_sv hlt, lkX_osv hlt, upX_osv hlt, hx]
          try simp (disch := omega) only [wrapI, wrapU]
          refine hR _ _ ?_; clear hR R
          try simp only [go_sem, ldS_at hd, stX_at hd, ldS_sv hlt, stX_sv hlt, sv_ext hlt, sv_ext_sv hlt, lkX_osv hlt, upX_osv hlt, hx]
          refine ⟨(i + 1, aput (x.matter, x.judge) x.marks kk), ?_, by (try simp only []); omega, ?_⟩
          · refine Weak.trans (Weak.cutSV 1 0 (by omega) (by omega) hcl (by simp only [go_sem]) (by simp only [go_sem] <;> omega) (by simp only [go_sem] <;> omega)) ?_
            simp only [go_sem]
            exact Weak.eq (by first | rfl | (simp only [go_sem]; done) | (simp only [go_sem]; rfl) | (simp [go_sem]; done) | (simp [go_sem]; omega)) (by first | rfl | (simp only [go_sem]; done) | (simp [go_sem]; done))
          · try dsimp only
            refine ⟨hi', hkk.put hne, ?_, ?_⟩
            · intro e he
              rcases aput_mem he with rfl | he
              · exact hm x hxl
              · exact hkl e he
            · simp_all
  · -- c1 false
    try simp only [nrm] at c1
    have hdrop : l.drop i = [] := List.drop_eq_nil_of_le (by omega)
    rw [hdrop] at hinv
    simp only [openK] at hinv
    refine W_exit ?_
    simp only [go_sem, ldS_at hd, stX_at hd, ldS_sv hlt, stX_sv hlt, sv_ext hlt, sv_ext_sv hlt, lkX_osv hlt, upX_osv hlt]
    refine kq2 _ _ ?_
    refine W_seq fun kz20 kq20 => ?_
    refine W_region [6] fun R hR => ?_   -- r15
    simp only [go_sem, ldS_at hd, stX_at hd, ldS_sv hlt, stX_sv hlt, sv_ext hlt, sv_ext_sv hlt, lkX_osv hlt, upX_osv hlt]
    refine hR _ _ (kq20 _ _ ?_); clear hR R; try clear kq20 kz20
    try simp only [go_sem, ldS_at hd, stX_at hd, ldS_sv hlt, stX_sv hlt, sv_ext hlt, sv_ext_sv hlt, lkX_osv hlt, upX_osv hlt]
    refine W_ret ?_
    simp only [go_sem, ldS_at hd, stX_at hd, ldS_sv hlt, stX_sv hlt, sv_ext hlt, sv_ext_sv hlt, lkX_osv hlt, upX_osv hlt]
    refine ⟨.inr (by trivial), ?_⟩
    have hr2 : res.2 = kk := by rw [hinv] <;> first | rfl | (simp [*]; done) | (simp_all; done)
    rw [hr2]
    first | refine Fin_set hcl (by simp only [go_sem]) rfl (Wk_eq ?_ (by simp only [go_sem])) | refine Fin_set0 hcl (by simp only [go_sem]) rfl (Wk_eq ?_ (by simp only [go_sem]))
    try simp only [go_sem]
    all_goals
      first | rfl | (simp_all; done) | (simp_all; omega)
set_option maxHeartbeats 2000000 in
theorem miss_pc (Y : YEnv) (σ : Sg) (id : Nat) (k : Kn) (hd : σ.store[id]? = some (some (.mark :: knE k))) (s : Scale) (l : List (Int × Int)) (hv : s.V) (hl : l.length < 2 ^ 40) :
    PC Tryz.prog Y 76 [.map id, scPV s, sts l] σ (I (missK s l k).1) (σ.setVar id (.mark :: knE (missK s l k).2)) := by
  refine PC_of_W Tryz.func76 rfl (by kernel_rfl) Tryz.ntmps76 (by simp) fun hcl hca => ?_
  have hlt := lt_of_get hd
  obtain ⟨res, hres⟩ : ∃ r, missK s l k = r := ⟨_, rfl⟩
  rw [hres]
  refine W_seq fun kz1 kq1 => ?_
  refine W_region [0, 2, 4] fun R hR => ?_   -- r0
  simp only [go_sem, ldS_at hd, stX_at hd, ldS_sv hlt, stX_sv hlt, sv_ext hlt, sv_ext_sv hlt, lkX_osv hlt, upX_osv hlt]
  refine hR _ _ (kq1 _ _ ?_); clear hR R; try clear kq1 kz1
  try simp only [go_sem, ldS_at hd, stX_at hd, ldS_sv hlt, stX_sv hlt, sv_ext hlt, sv_ext_sv hlt, lkX_osv hlt, upX_osv hlt]
  refine W_seq fun kz2 kq2 => ?_
  refine W_seq fun kz3 kq3 => ?_
  refine W_region [0, 4, 10, 11, 12] fun R hR => ?_   -- r1
  simp only [go_sem, ldS_at hd, stX_at hd, ldS_sv hlt, stX_sv hlt, sv_ext hlt, sv_ext_sv hlt, lkX_osv hlt, upX_osv hlt]
  refine hR _ _ (kq3 _ _ ?_); clear hR R; try clear kq3 kz3
  try simp only [go_sem, ldS_at hd, stX_at hd, ldS_sv hlt, stX_sv hlt, sv_ext hlt, sv_ext_sv hlt, lkX_osv hlt, upX_osv hlt]
  refine W_block ?_
  refine W_loopT (α := Nat × Kn) (fun ⟨i, kk⟩ => [(12, I i)]) (fun ⟨i, kk⟩ => (σ.setVar id (.mark :: knE kk)).ext [some (scCells s)] []) (fun ⟨i, kk⟩ => i ≤ l.length ∧ res = missK s (l.drop i) kk) (fun ⟨i, kk⟩ => l.length - i) ((0, k)) rfl (by simp only [go_sem, sv_self hd]) (⟨Nat.zero_le _, hres.symm⟩) ?_
  rintro ⟨i, kk⟩ ⟨hi, hinv⟩
  refine W_seq fun kz4 kq4 => ?_
  refine W_region [0, 4, 10, 11, 12, 13] fun R hR => ?_   -- r2
  simp only [go_sem, ldS_at hd, stX_at hd, ldS_sv hlt, stX_sv hlt, sv_ext hlt, sv_ext_sv hlt, lkX_osv hlt, upX_osv hlt]
  refine hR _ _ (kq4 _ _ ?_); clear hR R; try clear kq4 kz4
  try simp only [go_sem, ldS_at hd, stX_at hd, ldS_sv hlt, stX_sv hlt, sv_ext hlt, sv_ext_sv hlt, lkX_osv hlt, upX_osv hlt]
  refine W_seq fun kz5 kq5 => ?_
  refine W_cond rfl (fun c1 => ?_) (fun c1 => ?_)
  · -- c1 true
    try simp only [nrm] at c1
    have hi' : i < l.length := by first | assumption | omega
    obtain ⟨x, hx⟩ : ∃ x, l[i]? = some x := ⟨l[i], by simp [hi']⟩
    have hdrop : l.drop i = x :: l.drop (i + 1) := by
      rw [List.drop_eq_getElem_cons hi']; congr 1; exact (List.getElem?_eq_some_iff.1 hx).2
    rw [hdrop] at hinv
    simp only [missK] at hinv
    refine W_skip (kq5 _ _ ?_)
    refine W_seq fun kz6 kq6 => ?_
    refine W_block ?_
    refine W_seq fun kz7 kq7 => ?_
    refine W_region [0, 4, 8, 10, 11, 12] fun R hR => ?_   -- r3
    simp only [go_sem, ldS_at hd, stX_at hd, ldS_sv hlt, stX_sv hlt, sv_ext hlt, sv_ext_sv hlt, lkX_osv hlt, upX_osv hlt, hx]
    refine hR _ _ (kq7 _ _ ?_); clear hR R; try clear kq7 kz7
    try simp only [go_sem, ldS_at hd, stX_at hd, ldS_sv hlt, stX_sv hlt, sv_ext hlt, sv_ext_sv hlt, lkX_osv hlt, upX_osv hlt, hx]
    refine W_seq fun kz8 kq8 => ?_
    refine W_region [0, 4, 9, 10, 11, 12] fun R hR => ?_   -- r4
    simp only [go_sem, ldS_at hd, stX_at hd, ldS_sv hlt, stX_sv hlt, sv_ext hlt, sv_ext_sv hlt, lkX_osv hlt, upX_osv hlt, hx]
    refine hR _ _ (kq8 _ _ ?_); clear hR R; try clear kq8 kz8
    try simp only [go_sem, ldS_at hd, stX_at hd, ldS_sv hlt, stX_sv hlt, sv_ext hlt, sv_ext_sv hlt, lkX_osv hlt, upX_osv hlt, hx]
    refine W_seq fun kz9 kq9 => ?_
    refine W_block ?_
    refine W_seq fun kz10 kq10 => ?_
    refine W_region [0, 4, 9, 10, 11, 12, 21] fun R hR => ?_   -- r5
    simp only [go_sem, ldS_at hd, stX_at hd, ldS_sv hlt, stX_sv hlt, sv_ext hlt, sv_ext_sv hlt, lkX_osv hlt, upX_osv hlt, hx]
    refine GCall_of (of_pc Y _ s x hv) ?_   -- t24
    simp only [go_sem, ldS_at hd, stX_at hd, ldS_sv hlt, stX_sv hlt, sv_ext hlt, sv_ext_sv hlt, lkX_osv hlt, upX_osv hlt, hx]
    refine hR _ _ (kq10 _ _ ?_); clear hR R; try clear kq10 kz10
    try simp only [go_sem, ldS_at hd, stX_at hd, ldS_sv hlt, stX_sv hlt, sv_ext hlt, sv_ext_sv hlt, lkX_osv hlt, upX_osv hlt, hx]
    refine W_cond rfl (fun c2 => ?_) (fun c2 => ?_)
    · -- c2 true
      try simp only [nrm] at c2
      refine W_seq fun kz11 kq11 => ?_
      refine W_region [6] fun R hR => ?_   -- r6
      simp only [go_sem, ldS_at hd, stX_at hd, ldS_sv hlt, stX_sv hlt, sv_ext hlt, sv_ext_sv hlt, lkX_osv hlt, upX_osv hlt, hx]
      refine hR _ _ (kq11 _ _ ?_); clear hR R; try clear kq11 kz11
      try simp only [go_sem, ldS_at hd, stX_at hd, ldS_sv hlt, stX_sv hlt, sv_ext hlt, sv_ext_sv hlt, lkX_osv hlt, upX_osv hlt, hx]
      refine W_ret ?_
      simp only [go_sem, ldS_at hd, stX_at hd, ldS_sv hlt, stX_sv hlt, sv_ext hlt, sv_ext_sv hlt, lkX_osv hlt, upX_osv hlt, hx]
      refine ⟨.inr (by trivial), ?_⟩
      have hr2 : res.2 = kk := by rw [hinv] <;> first | rfl | (simp [*]; done) | (simp_all; done)
      rw [hr2]
      first | refine Fin_set hcl (by simp only [go_sem]) rfl (Wk_eq ?_ (by simp only [go_sem])) | refine Fin_set0 hcl (by simp only [go_sem]) rfl (Wk_eq ?_ (by simp only [go_sem]))
      try simp only [go_sem]
      all_goals
        first | rfl | (simp_all; done) | (simp_all; omega)
    · -- c2 false
      try simp only [nrm] at c2
      refine W_seq fun kz12 kq12 => ?_
      refine W_region [0, 4, 9, 10, 11, 12, 26] fun R hR => ?_   -- r7
      simp only [go_sem, ldS_at hd, stX_at hd, ldS_sv hlt, stX_sv hlt, sv_ext hlt, sv_ext_sv hlt, lkX_osv hlt, upX_osv hlt, hx]
      refine hR _ _ (kq12 _ _ ?_); clear hR R; try clear kq12 kz12
      try simp only [go_sem, ldS_at hd, stX_at hd, ldS_sv hlt, stX_sv hlt, sv_ext hlt, sv_ext_sv hlt, lkX_osv hlt, upX_osv hlt, hx]
      refine W_cond rfl (fun c3 => ?_) (fun c3 => ?_)
      · -- c3 true
        try simp only [nrm] at c3
        refine W_seq fun kz13 kq13 => ?_
        refine W_region [6] fun R hR => ?_   -- r8
        simp only [go_sem, ldS_at hd, stX_at hd, ldS_sv hlt, stX_sv hlt, sv_ext hlt, sv_ext_sv hlt, lkX_osv hlt, upX_osv hlt, hx]
        refine hR _ _ (kq13 _ _ ?_); clear hR R; try clear kq13 kz13
        try simp only [go_sem, ldS_at hd, stX_at hd, ldS_sv hlt, stX_sv hlt, sv_ext hlt, sv_ext_sv hlt, lkX_osv hlt, upX_osv hlt, hx]
        refine W_ret ?_
        simp only [go_sem, ldS_at hd, stX_at hd, ldS_sv hlt, stX_sv hlt, sv_ext hlt, sv_ext_sv hlt, lkX_osv hlt, upX_osv hlt, hx]
        refine ⟨.inr (by trivial), ?_⟩
        have hr2 : res.2 = kk := by rw [hinv] <;> first | rfl | (simp [*]; done) | (simp_all; done)
        rw [hr2]
        first | refine Fin_set hcl (by simp only [go_sem]) rfl (Wk_eq ?_ (by simp only [go_sem])) | refine Fin_set0 hcl (by simp only [go_sem]) rfl (Wk_eq ?_ (by simp only [go_sem]))
        try simp only [go_sem]
        all_goals
          first | rfl | (simp_all; done) | (simp_all; omega)
      · -- c3 false
        try simp only [nrm] at c3
        refine W_skip (kq9 _ _ ?_)
        refine W_region [0, 4, 10, 11, 12] fun R hR => ?_   -- r9
        simp only [go_sem, ldS_at hd, stX_at hd, ldS_sv hlt, stX_sv hlt, sv_ext hlt, sv_ext_sv hlt, lkX_osv hlt, upX_osv hlt, hx]
        refine hR _ _ (kq6 _ _ ?_); clear hR R; try clear kq6 kz6
        try simp only [go_sem, ldS_at hd, stX_at hd, ldS_sv hlt, stX_sv hlt, sv_ext hlt, sv_ext_sv hlt, lkX_osv hlt, upX_osv hlt, hx]
        refine W_region [0, 4, 10, 11, 12] fun R hR => ?_   -- r10
        simp only [go_sem, ldS_at hd, stX_at hd, ldS_sv hlt, stX_sv hlt, sv_ext hlt, sv_ext_sv hlt, lkX_osv hlt, upX_osv hlt, hx]
        try simp (disch := omega) only [wrapI, wrapU]
        refine hR _ _ ?_; clear hR R
        try simp only [go_sem, ldS_at hd, stX_at hd, ldS_sv hlt, stX_sv hlt, sv_ext hlt, sv_ext_sv hlt, lkX_osv hlt, upX_osv hlt, hx]
        refine ⟨(i + 1, aput x [] kk), ?_, by (try simp only []); omega, ?_⟩
        · refine Weak.trans (Weak.cutSV 1 0 (by omega) (by omega) hcl (by simp only [go_sem]) (by simp only [go_sem] <;> omega) (by simp only [go_sem] <;> omega)) ?_
          simp only [go_sem]
          exact Weak.eq (by first | rfl | (simp only [go_sem]; done) | (simp only [go_sem]; rfl) | (simp [go_sem]; done) | (simp [go_sem]; omega)) (by first | rfl | (simp only [go_sem]; done) | (simp [go_sem]; done))
        · try dsimp only
          refine ⟨hi', ?_⟩
          simp_all
  · -- c1 false
    try simp only [nrm] at c1
    have hdrop : l.drop i = [] := List.drop_eq_nil_of_le (by omega)
    rw [hdrop] at hinv
    simp only [missK] at hinv
    refine W_exit ?_
    simp only [go_sem, ldS_at hd, stX_at hd, ldS_sv hlt, stX_sv hlt, sv_ext hlt, sv_ext_sv hlt, lkX_osv hlt, upX_osv hlt]
    refine kq2 _ _ ?_
    refine W_seq fun kz14 kq14 => ?_
    refine W_region [6] fun R hR => ?_   -- r11
    simp only [go_sem, ldS_at hd, stX_at hd, ldS_sv hlt, stX_sv hlt, sv_ext hlt, sv_ext_sv hlt, lkX_osv hlt, upX_osv hlt]
    refine hR _ _ (kq14 _ _ ?_); clear hR R; try clear kq14 kz14
    try simp only [go_sem, ldS_at hd, stX_at hd, ldS_sv hlt, stX_sv hlt, sv_ext hlt, sv_ext_sv hlt, lkX_osv hlt, upX_osv hlt]
    refine W_ret ?_
    simp only [go_sem, ldS_at hd, stX_at hd, ldS_sv hlt, stX_sv hlt, sv_ext hlt, sv_ext_sv hlt, lkX_osv hlt, upX_osv hlt]
    refine ⟨.inr (by trivial), ?_⟩
    have hr2 : res.2 = kk := by rw [hinv] <;> first | rfl | (simp [*]; done) | (simp_all; done)
    rw [hr2]
    first | refine Fin_set hcl (by simp only [go_sem]) rfl (Wk_eq ?_ (by simp only [go_sem])) | refine Fin_set0 hcl (by simp only [go_sem]) rfl (Wk_eq ?_ (by simp only [go_sem]))
    try simp only [go_sem]
    all_goals
      first | rfl | (simp_all; done) | (simp_all; omega)
set_option maxHeartbeats 2000000 in
theorem judges_pc (Y : YEnv) (σ : Sg) (s : Scale) :
    PC Tryz.prog Y 77 [scPV s] σ (.func (.func 98) [] [.ptr σ.store.length 0]) (σ.ext [some (scCells s)] []) := by
  refine PC_of_W Tryz.func77 rfl (by kernel_rfl) Tryz.ntmps77 (by simp) fun hcl hca => ?_
  refine W_seq fun kz1 kq1 => ?_
  refine W_region [1] fun R hR => ?_   -- r0
  simp only [go_sem]
  refine hR _ _ (kq1 _ _ ?_); clear hR R; try clear kq1 kz1
  try simp only [go_sem]
  refine W_seq fun kz2 kq2 => ?_
  refine W_region [2] fun R hR => ?_   -- r1
  simp only [go_sem]
  refine hR _ _ (kq2 _ _ ?_); clear hR R; try clear kq2 kz2
  try simp only [go_sem]
  refine W_ret ?_
  simp only [go_sem]
  refine ⟨.inr (by trivial), ?_⟩
  exact Fin_ext 1 0 hcl rfl (Wk_eq rfl (by simp only [go_sem] <;> omega)) (by show CleanLs _ _ _ _; simp only [go_sem])
  try simp only [go_sem]
  all_goals
    skip
set_option maxHeartbeats 2000000 in
theorem sealed_pc (Y : YEnv) (σ : Sg) (id : Nat) (hid : id < σ.store.length) (s : Scale) :
    PC Tryz.prog Y 57 [.map id, scPV s] σ (.func (.func 81) [] [.ptr (σ.store.length + 1) 0, .ptr σ.store.length 0]) (σ.ext [some [.map id], some (scCells s)] []) := by
  refine PC_of_W Tryz.func57 rfl (by kernel_rfl) Tryz.ntmps57 (by simp) fun hcl hca => ?_
  refine W_seq fun kz1 kq1 => ?_
  refine W_region [2, 3] fun R hR => ?_   -- r0
  simp only [go_sem]
  refine hR _ _ (kq1 _ _ ?_); clear hR R; try clear kq1 kz1
  try simp only [go_sem]
  refine W_seq fun kz2 kq2 => ?_
  refine W_region [4] fun R hR => ?_   -- r1
  simp only [go_sem]
  refine hR _ _ (kq2 _ _ ?_); clear hR R; try clear kq2 kz2
  try simp only [go_sem]
  refine W_ret ?_
  simp only [go_sem]
  refine ⟨.inr (by trivial), ?_⟩
  refine Fin_ext 2 0 hcl rfl (Wk_eq rfl ?_) ?_
  · simp only [go_sem] <;> omega
  · show CleanLs _ _ _ _
    simp only [go_sem] <;> omega
  try simp only [go_sem]
  all_goals
    skip
set_option maxHeartbeats 2000000 in
theorem judges1_pc (Y : YEnv) (σ : Sg) (y id : Nat) (s : Scale) (τ : Nat → Sg) (M J e : Nat) (stop : Bool) (hM : s.matters = M) (hJ : s.judges = J) (hMb : M < 2 ^ 40) (hJb : J < 2 ^ 40)
    (hst : ∀ t, t ≤ e → (τ t).store[id]? = some (some (scCells s))) (he : e ≤ M * J) (hs0 : stop = false → e = M * J) (hs1 : stop = true → 0 < e)
    (hY : ∀ m n, m < M → n < J → m * J + n < e → Y y [.agg [I m, I n]] (τ (m * J + n)) (!(stop && decide (m * J + n + 1 = e))) (τ (m * J + n + 1)))
    (hlen : (τ e).store.length = (τ 0).store.length) (hr : (τ e).rooms.length = (τ 0).rooms.length) (hy : (τ e).ys.length = (τ 0).ys.length) (hcl' : CleanSg (τ 0) → CleanSg (τ e)) :
    PC Tryz.prog Y 98 [.yield y, .ptr id 0] (τ 0) (.tuple []) (τ e) := by
  refine PC_of_W Tryz.func98 rfl (by kernel_rfl) Tryz.ntmps98 (by simp) fun hcl hca => ?_
  have hs00 := hst 0 (Nat.zero_le _)
  refine W_seq fun kz1 kq1 => ?_
  refine W_region [0, 1, 6, 7] fun R hR => ?_   -- r0
  simp only [go_sem, ldS_at hs00, hM, hJ]
  refine hR _ _ (kq1 _ _ ?_); clear hR R; try clear kq1 kz1
  try simp only [go_sem, ldS_at hs00, hM, hJ]
  refine W_block ?_
  refine W_loopT (α := Nat) (fun (m : Nat) => [(7, I m)]) (fun (m : Nat) => τ (m * J)) (fun (m : Nat) => m ≤ M ∧ m * J ≤ e ∧ (stop = true → m * J < e)) (fun (m : Nat) => M - m) (0) rfl (by rw [Nat.zero_mul]) (⟨Nat.zero_le _, by simp, by simpa using hs1⟩) ?_
  rintro m ⟨hmi, hme, hms⟩
  have hsm := hst (m * J) hme
  refine W_seq fun kz2 kq2 => ?_
  refine W_region [0, 1, 6, 7, 8] fun R hR => ?_   -- r1
  simp only [go_sem, ldS_at hs00, hM, hJ]
  refine hR _ _ (kq2 _ _ ?_); clear hR R; try clear kq2 kz2
  try simp only [go_sem, ldS_at hs00, hM, hJ]
  refine W_seq fun kz3 kq3 => ?_
  refine W_cond rfl (fun c1 => ?_) (fun c1 => ?_)
  · -- c1 true
    try simp only [nrm] at c1
    have hm : m < M := by first | omega | (simp at c1; omega)
    have hmul : m * J + J ≤ M * J := by rw [← Nat.succ_mul]; exact Nat.mul_le_mul_right _ hm
    have hlt : ∀ p, p < M * J → p ≤ e → (stop = true → p < e) → p < e := fun p h1 h2 h3 => by
      cases hst' : stop with
      | true => exact h3 hst'
      | false => rw [hs0 hst']; exact h1
    refine W_skip (kq3 _ _ ?_)
    refine W_seq fun kz4 kq4 => ?_
    refine W_block ?_
    refine W_seq fun kz5 kq5 => ?_
    refine W_region [0, 1, 3, 6, 7] fun R hR => ?_   -- r2
    simp only [go_sem, ldS_at hs00, hM, hJ]
    refine hR _ _ (kq5 _ _ ?_); clear hR R; try clear kq5 kz5
    try simp only [go_sem, ldS_at hs00, hM, hJ]
    refine W_seq fun kz6 kq6 => ?_
    refine W_region [0, 1, 3, 6, 7, 11, 12] fun R hR => ?_   -- r3
    simp only [go_sem, ldS_at hs00, hM, hJ, ldS_at hsm]
    refine hR _ _ (kq6 _ _ ?_); clear hR R; try clear kq6 kz6
    try simp only [go_sem, ldS_at hs00, hM, hJ]
    refine W_block ?_
    refine W_loopT (α := Nat) (fun (n : Nat) => [(12, I n)]) (fun (n : Nat) => τ (m * J + n)) (fun (n : Nat) => n ≤ J ∧ m * J + n ≤ e ∧ (stop = true → m * J + n < e)) (fun (n : Nat) => J - n) (0) rfl (by rw [Nat.add_zero]) (⟨Nat.zero_le _, hme, hms⟩) ?_
    rintro n ⟨hni, hne, hns⟩
    refine W_seq fun kz7 kq7 => ?_
    refine W_region [0, 1, 3, 6, 7, 11, 12, 13] fun R hR => ?_   -- r4
    simp only [go_sem, ldS_at hs00, hM, hJ]
    refine hR _ _ (kq7 _ _ ?_); clear hR R; try clear kq7 kz7
    try simp only [go_sem, ldS_at hs00, hM, hJ]
    refine W_seq fun kz8 kq8 => ?_
    refine W_cond rfl (fun c2 => ?_) (fun c2 => ?_)
    · -- c2 true
      try simp only [nrm] at c2
      have hn : n < J := by first | omega | (simp at c2; omega)
      have hpe := hlt (m * J + n) (by omega) hne hns
      refine W_skip (kq8 _ _ ?_)
      refine W_seq fun kz9 kq9 => ?_
      refine W_block ?_
      refine W_seq fun kz10 kq10 => ?_
      refine W_region [0, 1, 3, 4, 6, 7, 11, 12] fun R hR => ?_   -- r5
      simp only [go_sem, ldS_at hs00, hM, hJ]
      refine hR _ _ (kq10 _ _ ?_); clear hR R; try clear kq10 kz10
      try simp only [go_sem, ldS_at hs00, hM, hJ]
      refine W_seq fun kz11 kq11 => ?_
      refine W_region [0, 1, 3, 6, 7, 11, 12, 20] fun R hR => ?_   -- r6
      simp only [go_sem, ldS_at hs00, hM, hJ]
      refine GYield_of (hY m n hm hn hpe) ?_
      simp only [go_sem, ldS_at hs00, hM, hJ]
      refine hR _ _ (kq11 _ _ ?_); clear hR R; try clear kq11 kz11
      try simp only [go_sem, ldS_at hs00, hM, hJ]
      refine W_cond rfl (fun c3 => ?_) (fun c3 => ?_)
      · -- c3 true
        try simp only [nrm] at c3
        refine W_ret ?_
        simp only [go_sem, ldS_at hs00, hM, hJ]
        refine ⟨.inr (by trivial), ?_⟩
        have hp2 : m * J + n + 1 = e := by simp at c3; exact c3.2
        subst hp2
        exact Fin_end (rs := []) (hcl' hcl) hlen hr hy rfl (Wk.of_clean (.tuple _ Clean.all_nil))
        try simp only [go_sem]
        all_goals
          skip
      · -- c3 false
        try simp only [nrm] at c3
        refine W_skip (kq9 _ _ ?_)
        refine W_region [0, 1, 3, 6, 7, 11, 12] fun R hR => ?_   -- r7
        simp only [go_sem, ldS_at hs00, hM, hJ]
        try simp (disch := omega) only [wrapI, wrapU]
        refine hR _ _ ?_; clear hR R
        try simp only [go_sem, ldS_at hs00, hM, hJ]
        refine ⟨n + 1, ?_, by (try simp only []); omega, ?_⟩
        · first | exact Weak.refl | exact Weak.eq (by first | rfl | (simp only [go_sem]; done) | (simp only [go_sem]; rfl) | (simp [go_sem]; done) | (simp [go_sem]; omega)) (by first | rfl | (simp only [go_sem]; done) | (simp [go_sem]; done))
        · try dsimp only
          refine ⟨hn, by omega, fun h => ?_⟩
          have : ¬ (m * J + n + 1 = e) := fun h2 => by simp [h, h2] at c3
          omega
    · -- c2 false
      try simp only [nrm] at c2
      have hnJ : n = J := by first | omega | (simp at c2; omega)
      subst hnJ
      refine W_exit ?_
      simp only [go_sem, ldS_at hs00, hM, hJ]
      refine kq4 _ _ ?_
      refine W_region [0, 1, 6, 7] fun R hR => ?_   -- r8
      simp only [go_sem, ldS_at hs00, hM, hJ]
      try simp (disch := omega) only [wrapI, wrapU]
      refine hR _ _ ?_; clear hR R
      try simp only [go_sem, ldS_at hs00, hM, hJ]
      refine ⟨m + 1, ?_, by (try simp only []); omega, ?_⟩
      · exact Weak.eq (by first | rfl | (simp only [go_sem]; done)) (by rw [Nat.succ_mul])
      · try dsimp only
        rw [Nat.succ_mul]
        exact ⟨hm, hne, hns⟩
  · -- c1 false
    try simp only [nrm] at c1
    have hmM : m = M := by first | omega | (simp at c1; omega)
    subst hmM
    have hsf : stop = false := by cases h : stop with
      | false => rfl
      | true => have := hms h; omega
    have hee : e = m * J := hs0 hsf
    subst hee
    refine W_exit ?_
    simp only [go_sem, ldS_at hs00, hM, hJ]
    try simp only [go_sem, ldS_at hs00, hM, hJ]
    refine ⟨.inl (by trivial), ?_⟩
    exact Fin_end (rs := []) (hcl' hcl) hlen hr hy rfl (Wk.of_clean (.tuple _ Clean.all_nil))
    try simp only [go_sem]
    all_goals
      skip
set_option maxHeartbeats 2000000 in
theorem absent_pc (Y : YEnv) (σ : Sg) (id : Nat) (k : Kn) (hd : σ.store[id]? = some (some (.mark :: knE k))) (j : Int × Int) :
    PC Tryz.prog Y 78 [.map id, stPV j] σ (.bool (absentK k j)) (σ) := by
  refine PC_of_W Tryz.func78 rfl (by kernel_rfl) Tryz.ntmps78 (by simp) fun hcl hca => ?_
  have hlt := lt_of_get hd
  refine W_seq fun kz1 kq1 => ?_
  refine W_region [0, 3] fun R hR => ?_   -- r0
  simp only [go_sem, lkX, get_extx hd, hd]
  refine hR _ _ (kq1 _ _ ?_); clear hR R; try clear kq1 kz1
  try simp only [go_sem, lkX, get_extx hd, hd]
  refine W_seq fun kz2 kq2 => ?_
  refine W_region [5, 6] fun R hR => ?_   -- r1
  simp only [go_sem, lkX, get_extx hd, hd]
  refine hR _ _ (kq2 _ _ ?_); clear hR R; try clear kq2 kz2
  try simp only [go_sem, lkX, get_extx hd, hd]
  refine W_seq fun kz3 kq3 => ?_
  refine W_region [4] fun R hR => ?_   -- r2
  simp only [go_sem, lkX, get_extx hd, hd]
  refine GWant_split (fun g1 => ?_) (fun g1 => ?_)
  · try simp only [Bool.not_eq_true', Bool.not_eq_false'] at g1
    have n1 := g1; try simp only [nrm] at n1
    simp only [go_sem, lkX, get_extx hd, hd, g1]
    refine hR _ _ (kq3 _ _ ?_); clear hR R; try clear kq3 kz3
    try simp only [go_sem, lkX, get_extx hd, hd]
    refine W_ret ?_
    simp only [go_sem, lkX, get_extx hd, hd]
    refine ⟨.inr (by trivial), ?_⟩
    first | refine Fin_same hcl rfl (Wk_eq ?_ (by simp only [go_sem])) | refine Fin_self hcl rfl (Wk_eq ?_ (by simp only [go_sem]))
    try simp only [go_sem]
    all_goals
      simp only [absentK]; cases hk : aget j k with | none => simp_all | some l => cases l <;> simp_all
  · try simp only [Bool.not_eq_true', Bool.not_eq_false'] at g1
    have n1 := g1; try simp only [nrm] at n1
    simp only [go_sem, lkX, get_extx hd, hd, g1]
    refine hR _ _ (kq3 _ _ ?_); clear hR R; try clear kq3 kz3
    try simp only [go_sem, lkX, get_extx hd, hd]
    refine W_ret ?_
    simp only [go_sem, lkX, get_extx hd, hd]
    refine ⟨.inr (by trivial), ?_⟩
    first | refine Fin_same hcl rfl (Wk_eq ?_ (by simp only [go_sem])) | refine Fin_self hcl rfl (Wk_eq ?_ (by simp only [go_sem]))
    try simp only [go_sem]
    all_goals
      simp only [absentK]; cases hk : aget j k with | none => simp_all | some l => cases l <;> simp_all
set_option maxHeartbeats 2000000 in
theorem fines_pc (Y : YEnv) (σ : Sg) (s : Scale) (l : List (Int × Int)) (h : s.V) (hl : l.length < 2 ^ 40) :
    PC Tryz.prog Y 80 [scPV s, sts l] σ (I (finesE s l)) (σ) := by
  refine PC_of_W Tryz.func80 rfl (by kernel_rfl) Tryz.ntmps80 (by simp) fun hcl hca => ?_
  have h1 := h.sc
  obtain ⟨res, hres⟩ : ∃ r, finesE s l = r := ⟨_, rfl⟩
  rw [hres]
  refine W_seq fun kz1 kq1 => ?_
  refine W_region [1, 2] fun R hR => ?_   -- r0
  simp only [go_sem]
  refine hR _ _ (kq1 _ _ ?_); clear hR R; try clear kq1 kz1
  try simp only [go_sem]
  refine W_seq fun kz2 kq2 => ?_
  refine W_seq fun kz3 kq3 => ?_
  refine W_region [1, 2, 9] fun R hR => ?_   -- r1
  simp only [go_sem]
  refine hR _ _ (kq3 _ _ ?_); clear hR R; try clear kq3 kz3
  try simp only [go_sem]
  refine W_cond rfl (fun c1 => ?_) (fun c1 => ?_)
  · -- c1 true
    try simp only [nrm] at c1
    refine W_seq fun kz4 kq4 => ?_
    refine W_region [4] fun R hR => ?_   -- r2
    simp only [go_sem]
    refine hR _ _ (kq4 _ _ ?_); clear hR R; try clear kq4 kz4
    try simp only [go_sem]
    refine W_ret ?_
    simp only [go_sem]
    refine ⟨.inr (by trivial), ?_⟩
    first | refine Fin_same hcl rfl (Wk_eq ?_ (by simp only [go_sem])) | refine Fin_self hcl rfl (Wk_eq ?_ (by simp only [go_sem]))
    try simp only [go_sem]
    all_goals
      rw [← hres]; simp [finesE, *]; try omega
  · -- c1 false
    try simp only [nrm] at c1
    refine W_skip (kq2 _ _ ?_)
    refine W_seq fun kz5 kq5 => ?_
    refine W_seq fun kz6 kq6 => ?_
    refine W_region [2, 10, 11, 12] fun R hR => ?_   -- r3
    simp only [go_sem]
    refine hR _ _ (kq6 _ _ ?_); clear hR R; try clear kq6 kz6
    try simp only [go_sem]
    refine W_block ?_
    refine W_loopS (α := Nat) (fun (i : Nat) => [(12, I i)]) (fun (i : Nat) => i ≤ l.length ∧ res = finesR s (l.drop i)) (fun (i : Nat) => l.length - i) (0) rfl (⟨Nat.zero_le _, by rw [← hres]; simp [finesE, *] <;> omega⟩) ?_
    rintro i ⟨hi, hinv⟩
    refine W_seq fun kz7 kq7 => ?_
    refine W_region [2, 10, 11, 12, 13] fun R hR => ?_   -- r4
    simp only [go_sem]
    refine hR _ _ (kq7 _ _ ?_); clear hR R; try clear kq7 kz7
    try simp only [go_sem]
    refine W_seq fun kz8 kq8 => ?_
    refine W_cond rfl (fun c2 => ?_) (fun c2 => ?_)
    · -- c2 true
      try simp only [nrm] at c2
      have hi' : i < l.length := by first | assumption | omega
      obtain ⟨x, hx⟩ : ∃ x, l[i]? = some x := ⟨l[i], by simp [hi']⟩
      have hdrop : l.drop i = x :: l.drop (i + 1) := by
        rw [List.drop_eq_getElem_cons hi']; congr 1; exact (List.getElem?_eq_some_iff.1 hx).2
      rw [hdrop] at hinv
      simp only [finesR] at hinv
      refine W_skip (kq8 _ _ ?_)
      refine W_seq fun kz9 kq9 => ?_
      refine W_block ?_
      refine W_seq fun kz10 kq10 => ?_
      refine W_region [2, 6, 10, 11, 12] fun R hR => ?_   -- r5
      simp only [go_sem, hx]
      refine hR _ _ (kq10 _ _ ?_); clear hR R; try clear kq10 kz10
      try simp only [go_sem, hx]
      refine W_block ?_
      refine W_seq fun kz11 kq11 => ?_
      refine W_region [2, 6, 10, 11, 12, 16] fun R hR => ?_   -- r6
      simp only [go_sem, hx]
      try simp (disch := omega) only [wrapI, wrapU]
      refine GCall_of (in_pc Y _ x.1 0 _) ?_   -- t22
      simp only [go_sem, hx]
      try simp (disch := omega) only [wrapI, wrapU]
      refine hR _ _ (kq11 _ _ ?_); clear hR R; try clear kq11 kz11
      try simp only [go_sem, hx]
      refine W_cond rfl (fun c3 => ?_) (fun c3 => ?_)
      · -- c3 true
        try simp only [nrm] at c3
        refine W_seq fun kz12 kq12 => ?_
        refine W_region [4] fun R hR => ?_   -- r7
        simp only [go_sem, hx]
        refine hR _ _ (kq12 _ _ ?_); clear hR R; try clear kq12 kz12
        try simp only [go_sem, hx]
        refine W_ret ?_
        simp only [go_sem, hx]
        refine ⟨.inr (by trivial), ?_⟩
        first | refine Fin_same hcl rfl (Wk_eq ?_ (by simp only [go_sem])) | refine Fin_self hcl rfl (Wk_eq ?_ (by simp only [go_sem]))
        try simp only [go_sem]
        all_goals
          first | rfl | (simp_all; done) | (simp_all; omega)
      · -- c3 false
        try simp only [nrm] at c3
        refine W_seq fun kz13 kq13 => ?_
        refine W_region [2, 10, 11, 12, 24] fun R hR => ?_   -- r8
        simp only [go_sem, hx]
        refine GCall_of (in_pc Y _ x.2 0 1000) ?_   -- t27
        simp only [go_sem, hx]
        refine hR _ _ (kq13 _ _ ?_); clear hR R; try clear kq13 kz13
        try simp only [go_sem, hx]
        refine W_cond rfl (fun c4 => ?_) (fun c4 => ?_)
        · -- c4 true
          try simp only [nrm] at c4
          refine W_seq fun kz14 kq14 => ?_
          refine W_region [4] fun R hR => ?_   -- r9
          simp only [go_sem, hx]
          refine hR _ _ (kq14 _ _ ?_); clear hR R; try clear kq14 kz14
          try simp only [go_sem, hx]
          refine W_ret ?_
          simp only [go_sem, hx]
          refine ⟨.inr (by trivial), ?_⟩
          first | refine Fin_same hcl rfl (Wk_eq ?_ (by simp only [go_sem])) | refine Fin_self hcl rfl (Wk_eq ?_ (by simp only [go_sem]))
          try simp only [go_sem]
          all_goals
            first | rfl | (simp_all; done) | (simp_all; omega)
        · -- c4 false
          try simp only [nrm] at c4
          refine W_skip (kq9 _ _ ?_)
          refine W_region [2, 10, 11, 12] fun R hR => ?_   -- r10
          simp only [go_sem, hx]
          try simp (disch := omega) only [wrapI, wrapU]
          refine hR _ _ ?_; clear hR R
          try simp only [go_sem, hx]
          refine ⟨i + 1, ?_, by (try simp only []); omega, ?_⟩
          · refine Weak.trans (Weak.cutX 1 0 (by omega) (by omega) hcl (by simp only [go_sem] <;> omega) (by simp only [go_sem] <;> omega)) ?_
            simp only [go_sem]
            exact Weak.eq (by first | rfl | (simp only [go_sem]; done) | (simp only [go_sem]; rfl) | (simp [go_sem]; done) | (simp [go_sem]; omega)) (by first | rfl | (simp only [go_sem]; done) | (simp [go_sem]; done))
          · try dsimp only
            exact ⟨hi', by simp_all⟩
    · -- c2 false
      try simp only [nrm] at c2
      have hdrop : l.drop i = [] := List.drop_eq_nil_of_le (by omega)
      rw [hdrop] at hinv
      simp only [finesR] at hinv
      refine W_exit ?_
      simp only [go_sem]
      refine kq5 _ _ ?_
      refine W_seq fun kz15 kq15 => ?_
      refine W_region [4] fun R hR => ?_   -- r11
      simp only [go_sem]
      refine hR _ _ (kq15 _ _ ?_); clear hR R; try clear kq15 kz15
      try simp only [go_sem]
      refine W_ret ?_
      simp only [go_sem]
      refine ⟨.inr (by trivial), ?_⟩
      first | refine Fin_same hcl rfl (Wk_eq ?_ (by simp only [go_sem])) | refine Fin_self hcl rfl (Wk_eq ?_ (by simp only [go_sem]))
      try simp only [go_sem]
      all_goals
        first | rfl | (simp_all; done) | (simp_all; omega)
end Go.Proofs.YtgelnjmddabgpaaGreat
namespace Go.Proofs.YtgelnjmddabgpaaGreat
open Go Go.RowKit
set_option maxRecDepth 100000
/-- Is somebody there, matter by matter, after so many judges? -/
def thUp (k : Kn) (J M : Nat) : Nat → List Bool
  | 0 => List.replicate M false
  | t + 1 => (thUp k J M t).set (t / J) (((thUp k J M t)[t / J]?).getD false || !(absentK k ((t / J : Nat), (t % J : Nat))))
theorem thUp_len (k : Kn) (J M : Nat) : ∀ t, (thUp k J M t).length = M := by
  intro t
  induction t with
  | zero => simp [thUp]
  | succ t ih => simp [thUp, ih]
theorem idx_div {J m n : Nat} (hn : n < J) : (m * J + n) / J = m ∧ (m * J + n) % J = n := by
  have hJ : 0 < J := by omega
  constructor
  · rw [Nat.add_comm, Nat.add_mul_div_right _ _ hJ, Nat.div_eq_of_lt hn, Nat.zero_add]
  · rw [Nat.add_comm, Nat.add_mul_mod_self_right, Nat.mod_eq_of_lt hn]
theorem thUp_step (k : Kn) {J M m n : Nat} (hn : n < J) {b : Bool} (h : (thUp k J M (m * J + n))[m]? = some b) : thUp k J M (m * J + n + 1) = (thUp k J M (m * J + n)).set m (b || !(absentK k ((m : Int), (n : Int)))) := by
  obtain ⟨e1, e2⟩ := idx_div (m := m) hn
  simp only [thUp]
  rw [e1, e2, h]
  rfl
theorem thUp_get (k : Kn) {J M m : Nat} (hJ : 0 < J) (hm : m < M) : ∀ t, ∃ v, (thUp k J M t)[m]? = some v ∧ (v = true ↔ ∃ n, n < J ∧ m * J + n < t ∧ absentK k ((m : Int), (n : Int)) = false) := by
  intro t
  induction t with
  | zero => exact ⟨false, by simp [thUp, hm], by simp⟩
  | succ t ih =>
    obtain ⟨v, h1, h2⟩ := ih
    have ht : t = (t / J) * J + t % J := by rw [Nat.mul_comm]; exact (Nat.div_add_mod t J).symm
    have hmod : t % J < J := Nat.mod_lt _ hJ
    simp only [thUp]
    by_cases e : t / J = m
    · rw [e, h1]
      rw [e] at ht
      refine ⟨v || !(absentK k ((m : Int), ((t % J : Nat) : Int))), by rw [List.getElem?_set_self (by rw [thUp_len]; exact hm)]; rfl, ?_⟩
      rw [Bool.or_eq_true, h2]
      constructor
      · rintro (⟨n, a, b, c⟩ | h)
        · exact ⟨n, a, by omega, c⟩
        · exact ⟨t % J, hmod, by omega, by simpa using h⟩
      · rintro ⟨n, a, b, c⟩
        by_cases q : m * J + n < t
        · exact .inl ⟨n, a, q, c⟩
        · have : n = t % J := by omega
          subst this
          exact .inr (by rw [c]; rfl)
    · refine ⟨v, by rw [List.getElem?_set_ne e]; exact h1, ?_⟩
      rw [h2]
      constructor
      · rintro ⟨n, a, b, c⟩
        exact ⟨n, a, by omega, c⟩
      · rintro ⟨n, a, b, c⟩
        refine ⟨n, a, ?_, c⟩
        by_cases q : m * J + n = t
        · have := (idx_div (m := m) a).1
          rw [q] at this
          exact absurd this e
        · omega
theorem thUp_short (s : Scale) (k : Kn) {J M : Nat} (hM : s.matters = M) (hJ : s.judges = J) (hJ0 : 0 < J) : ((thUp k J M (M * J)).any fun x => decide (false = x)) = shortK s k := by
  rw [Bool.eq_iff_iff]
  simp only [shortK, toI, hM, hJ, Int.toNat_natCast, List.any_map, List.all_map, List.any_eq_true, List.all_eq_true, Function.comp, List.mem_range, decide_eq_true_eq]
  constructor
  · rintro ⟨x, hx, rfl⟩
    obtain ⟨m, hm⟩ := List.mem_iff_getElem?.1 hx
    have hlt : m < M := by rw [← thUp_len k J M (M * J)]; exact (List.getElem?_eq_some_iff.1 hm).1
    obtain ⟨v, h1, h2⟩ := thUp_get k hJ0 hlt (M * J)
    rw [h1] at hm
    injection hm with hm
    subst hm
    refine ⟨m, hlt, fun n hn => ?_⟩
    cases ha : absentK k ((m : Int), (n : Int)) with
    | true => rfl
    | false =>
      have : m * J + J ≤ M * J := by rw [← Nat.succ_mul]; exact Nat.mul_le_mul_right _ hlt
      have := h2.2 ⟨n, hn, by omega, ha⟩
      cases this
  · rintro ⟨m, hlt, h⟩
    obtain ⟨v, h1, h2⟩ := thUp_get k hJ0 hlt (M * J)
    refine ⟨v, List.mem_of_getElem? h1, ?_⟩
    cases v with
    | false => rfl
    | true =>
      obtain ⟨n, hn, _, ha⟩ := h2.1 rfl
      rw [h n hn] at ha
      cases ha
theorem knPos_nil : KnPos [] := fun e he => by cases he
theorem known_ok {s : Scale} {g : Night} (h : knownE s g = 0) : s.V ∧ ¬ (60 < (g.opened.length : Int)) ∧ (openK s g.opened []).1 = 0 ∧ ¬ (60 < (g.absent.length : Int)) ∧ (missK s g.absent (openK s g.opened []).2).1 = 0 ∧ shortK s (knownK s g) = false ∧ finesE s g.fines = 0 := by
  unfold knownE at h
  split at h
  · rename_i h1; exact absurd h h1
  · rename_i h1
    split at h
    · cases h
    · rename_i h2
      split at h
      · rename_i h3; exact absurd h h3
      · rename_i h3
        split at h
        · cases h
        · rename_i h4
          split at h
          · rename_i h5; exact absurd h h5
          · rename_i h5
            split at h
            · cases h
            · rename_i h6
              exact ⟨Scale.v (by omega), h2, by omega, h4, by omega, by simpa using h6, h⟩
set_option maxHeartbeats 2000000 in
theorem BindexM_pc (Y : YEnv) (σ : Sg) (l : List Bool) (v : Bool) (id n : Nat) (hd : σ.store[id]? = some (some (l.map PV.bool))) (hn : l.length = n) (hl : n < 2 ^ 40) :
    PC Tryz.prog Y 99 [.msl id 0 n, .bool v] σ (I (fIdx (fun x => decide (v = x)) 0 l)) (σ) := by
  refine PC_of_W Tryz.func99 rfl (by kernel_rfl) Tryz.ntmps99 (by simp) fun hcl hca => ?_
  obtain ⟨res, hres⟩ : ∃ r, fIdx (fun x => decide (v = x)) 0 l = r := ⟨_, rfl⟩
  rw [hres]
  refine W_seq fun kz1 kq1 => ?_
  refine W_region [0, 1] fun R hR => ?_   -- r0
  simp only [go_sem, beqB, ldS_at hd]
  refine hR _ _ (kq1 _ _ ?_); clear hR R; try clear kq1 kz1
  try simp only [go_sem, beqB, ldS_at hd]
  refine W_seq fun kz2 kq2 => ?_
  refine W_seq fun kz3 kq3 => ?_
  refine W_region [0, 1, 7, 8] fun R hR => ?_   -- r1
  simp only [go_sem, beqB, ldS_at hd]
  refine hR _ _ (kq3 _ _ ?_); clear hR R; try clear kq3 kz3
  try simp only [go_sem, beqB, ldS_at hd]
  refine W_block ?_
  refine W_loopS (α := Nat) (fun (i : Nat) => [(8, I i)]) (fun (i : Nat) => i ≤ l.length ∧ res = fIdx (fun x => decide (v = x)) i (l.drop i)) (fun (i : Nat) => l.length - i) (0) rfl (⟨Nat.zero_le _, hres.symm⟩) ?_
  rintro i ⟨hi, hinv⟩
  refine W_seq fun kz4 kq4 => ?_
  refine W_region [0, 1, 7, 8, 9] fun R hR => ?_   -- r2
  simp only [go_sem, beqB, ldS_at hd]
  refine hR _ _ (kq4 _ _ ?_); clear hR R; try clear kq4 kz4
  try simp only [go_sem, beqB, ldS_at hd]
  refine W_seq fun kz5 kq5 => ?_
  refine W_cond rfl (fun c1 => ?_) (fun c1 => ?_)
  · -- c1 true
    try simp only [nrm] at c1
    have hi' : i < l.length := by first | assumption | omega
    obtain ⟨x, hx⟩ : ∃ x, l[i]? = some x := ⟨l[i], by simp [hi']⟩
    have hdrop : l.drop i = x :: l.drop (i + 1) := by
      rw [List.drop_eq_getElem_cons hi']; congr 1; exact (List.getElem?_eq_some_iff.1 hx).2
    rw [hdrop] at hinv
    simp only [fIdx] at hinv
    have hin : (i : Int) < (n : Int) := by omega
    refine W_skip (kq5 _ _ ?_)
    refine W_seq fun kz6 kq6 => ?_
    refine W_block ?_
    refine W_seq fun kz7 kq7 => ?_
    refine W_region [0, 1, 5, 7, 8] fun R hR => ?_   -- r3
    simp only [go_sem, beqB, ldS_at hd, hx]
    refine hR _ _ (kq7 _ _ ?_); clear hR R; try clear kq7 kz7
    try simp only [go_sem, beqB, ldS_at hd, hx]
    refine W_seq fun kz8 kq8 => ?_
    refine W_region [0, 1, 5, 7, 8, 16] fun R hR => ?_   -- r4
    simp only [go_sem, beqB, ldS_at hd, hx, hin, iaM_nat (Int.ofNat_lt.1 hin), Nat.mul_one, Nat.zero_add, List.getElem?_map]
    refine hR _ _ (kq8 _ _ ?_); clear hR R; try clear kq8 kz8
    try simp only [go_sem, beqB, ldS_at hd, hx]
    refine W_cond rfl (fun c2 => ?_) (fun c2 => ?_)
    · -- c2 true
      try simp only [nrm] at c2
      refine W_seq fun kz9 kq9 => ?_
      refine W_region [4] fun R hR => ?_   -- r5
      simp only [go_sem, beqB, ldS_at hd, hx]
      refine hR _ _ (kq9 _ _ ?_); clear hR R; try clear kq9 kz9
      try simp only [go_sem, beqB, ldS_at hd, hx]
      refine W_ret ?_
      simp only [go_sem, beqB, ldS_at hd, hx]
      refine ⟨.inr (by trivial), ?_⟩
      first | refine Fin_same hcl rfl (Wk_eq ?_ (by simp only [go_sem])) | refine Fin_self hcl rfl (Wk_eq ?_ (by simp only [go_sem]))
      try simp only [go_sem]
      all_goals
        first | rfl | (simp_all; done) | (simp_all; omega)
    · -- c2 false
      try simp only [nrm] at c2
      refine W_skip (kq6 _ _ ?_)
      refine W_region [0, 1, 7, 8] fun R hR => ?_   -- r6
      simp only [go_sem, beqB, ldS_at hd, hx]
      try simp (disch := omega) only [wrapI, wrapU]
      refine hR _ _ ?_; clear hR R
      try simp only [go_sem, beqB, ldS_at hd, hx]
      refine ⟨i + 1, ?_, by (try simp only []); omega, ?_⟩
      · first | exact Weak.refl | exact Weak.eq (by first | rfl | (simp only [go_sem]; done) | (simp only [go_sem]; rfl) | (simp [go_sem]; done) | (simp [go_sem]; omega)) (by first | rfl | (simp only [go_sem]; done) | (simp [go_sem]; done))
      · try dsimp only
        exact ⟨hi', by simp_all⟩
  · -- c1 false
    try simp only [nrm] at c1
    have hdrop : l.drop i = [] := List.drop_eq_nil_of_le (by omega)
    rw [hdrop] at hinv
    simp only [fIdx] at hinv
    refine W_exit ?_
    simp only [go_sem, beqB, ldS_at hd]
    refine kq2 _ _ ?_
    refine W_seq fun kz10 kq10 => ?_
    refine W_region [4] fun R hR => ?_   -- r7
    simp only [go_sem, beqB, ldS_at hd]
    refine hR _ _ (kq10 _ _ ?_); clear hR R; try clear kq10 kz10
    try simp only [go_sem, beqB, ldS_at hd]
    refine W_ret ?_
    simp only [go_sem, beqB, ldS_at hd]
    refine ⟨.inr (by trivial), ?_⟩
    first | refine Fin_same hcl rfl (Wk_eq ?_ (by simp only [go_sem])) | refine Fin_self hcl rfl (Wk_eq ?_ (by simp only [go_sem]))
    try simp only [go_sem]
    all_goals
      first | rfl | (simp_all; done) | (simp_all; omega)
set_option maxHeartbeats 2000000 in
theorem BcontainsM_pc (Y : YEnv) (σ : Sg) (l : List Bool) (v : Bool) (id n : Nat) (hd : σ.store[id]? = some (some (l.map PV.bool))) (hn : l.length = n) (hl : n < 2 ^ 40) :
    PC Tryz.prog Y 79 [.msl id 0 n, .bool v] σ (.bool (l.any fun x => decide (v = x))) (σ) := by
  refine PC_of_W Tryz.func79 rfl (by kernel_rfl) Tryz.ntmps79 (by simp) fun hcl hca => ?_
  refine W_seq fun kz1 kq1 => ?_
  refine W_region [0, 1] fun R hR => ?_   -- r0
  simp only [go_sem]
  refine hR _ _ (kq1 _ _ ?_); clear hR R; try clear kq1 kz1
  try simp only [go_sem]
  refine W_seq fun kz2 kq2 => ?_
  refine W_region [4] fun R hR => ?_   -- r1
  simp only [go_sem]
  refine GCall_of (BindexM_pc Y _ l v id n hd hn hl) ?_   -- t7
  simp only [go_sem]
  refine hR _ _ (kq2 _ _ ?_); clear hR R; try clear kq2 kz2
  try simp only [go_sem]
  refine W_ret ?_
  simp only [go_sem]
  refine ⟨.inr (by trivial), ?_⟩
  first | refine Fin_same hcl rfl (Wk_eq ?_ (by simp only [go_sem])) | refine Fin_self hcl rfl (Wk_eq ?_ (by simp only [go_sem]))
  try simp only [go_sem]
  all_goals
    simp only [fIdx_any, go_sem]
set_option maxHeartbeats 2000000 in
theorem knownOf_ok (Y : YEnv) (σ : Sg) (s : Scale) (g : Night) (hs : s.Ok) (hg : g.Ok) (hE : knownE s g = 0) :
    PC Tryz.prog Y 56 [scPV s, ngPV g] σ (.tuple [.map (σ.store.length + 2), I 0]) (σ.ext [some (scCells s), some (ngCells g), some (.mark :: knE (knownK s g))] []) := by
  refine PC_of_W Tryz.func56 rfl (by kernel_rfl) Tryz.ntmps56 (by simp) fun hcl hca => ?_
  obtain ⟨hv, h1, h2, h3, h4, h5, h6⟩ := known_ok hE
  have hC := hv.c
  have q1 := hv.mt
  have q2 := hv.jd
  obtain ⟨K, hK⟩ : ∃ z, knownK s g = z := ⟨_, rfl⟩
  have hK2 : (missK s g.absent (openK s g.opened []).2).2 = K := hK
  rw [hK] at h5 ⊢
  refine W_seq fun kz1 kq1 => ?_
  refine W_region [2, 3] fun R hR => ?_   -- r0
  simp only [go_sem, hC, h1, h2, h3, h4, h6, hK2]
  refine hR _ _ (kq1 _ _ ?_); clear hR R; try clear kq1 kz1
  try simp only [go_sem, hC, h1, h2, h3, h4, h6, hK2]
  refine W_seq fun kz2 kq2 => ?_
  refine W_seq fun kz3 kq3 => ?_
  refine W_region [2, 3, 6] fun R hR => ?_   -- r1
  simp only [go_sem, hC, h1, h2, h3, h4, h6, hK2]
  refine GCall_of (Check_pc Y _ s hs) ?_   -- t14
  simp only [go_sem, hC, h1, h2, h3, h4, h6, hK2]
  refine hR _ _ (kq3 _ _ ?_); clear hR R; try clear kq3 kz3
  try simp only [go_sem, hC, h1, h2, h3, h4, h6, hK2]
  refine W_seq fun kz4 kq4 => ?_
  refine W_region [2, 3, 6, 16] fun R hR => ?_   -- r2
  simp only [go_sem, hC, h1, h2, h3, h4, h6, hK2]
  refine hR _ _ (kq4 _ _ ?_); clear hR R; try clear kq4 kz4
  try simp only [go_sem, hC, h1, h2, h3, h4, h6, hK2]
  refine W_cond_false rfl ?_
  refine W_skip (kq2 _ _ ?_)
  refine W_seq fun kz5 kq5 => ?_
  refine W_seq fun kz6 kq6 => ?_
  refine W_region [2, 3, 21] fun R hR => ?_   -- r4
  simp only [go_sem, hC, h1, h2, h3, h4, h6, hK2]
  refine hR _ _ (kq6 _ _ ?_); clear hR R; try clear kq6 kz6
  try simp only [go_sem, hC, h1, h2, h3, h4, h6, hK2]
  refine W_cond_false rfl ?_
  refine W_skip (kq5 _ _ ?_)
  refine W_seq fun kz7 kq7 => ?_
  refine W_region [2, 3, 7] fun R hR => ?_   -- r6
  simp only [go_sem, hC, h1, h2, h3, h4, h6, hK2]
  refine hR _ _ (kq7 _ _ ?_); clear hR R; try clear kq7 kz7
  try simp only [go_sem, hC, h1, h2, h3, h4, h6, hK2]
  refine W_seq fun kz8 kq8 => ?_
  refine W_seq fun kz9 kq9 => ?_
  refine W_region [2, 3, 7, 8] fun R hR => ?_   -- r7
  simp only [go_sem, hC, h1, h2, h3, h4, h6, hK2]
  refine GCall_of (open_pc Y _ (σ.store.length + 2) [] (Sg.get_ext ..) s g.opened hv knPos_nil (fun e he => by cases he) hg.ho hg.hm) ?_   -- t27
  simp only [go_sem, hC, h1, h2, h3, h4, h6, hK2]
  refine hR _ _ (kq9 _ _ ?_); clear hR R; try clear kq9 kz9
  try simp only [go_sem, hC, h1, h2, h3, h4, h6, hK2]
  refine W_seq fun kz10 kq10 => ?_
  refine W_region [2, 3, 7, 8, 29] fun R hR => ?_   -- r8
  simp only [go_sem, hC, h1, h2, h3, h4, h6, hK2]
  refine hR _ _ (kq10 _ _ ?_); clear hR R; try clear kq10 kz10
  try simp only [go_sem, hC, h1, h2, h3, h4, h6, hK2]
  refine W_cond_false rfl ?_
  refine W_skip (kq8 _ _ ?_)
  refine W_seq fun kz11 kq11 => ?_
  refine W_seq fun kz12 kq12 => ?_
  refine W_region [2, 3, 7, 34] fun R hR => ?_   -- r10
  simp only [go_sem, hC, h1, h2, h3, h4, h6, hK2]
  refine hR _ _ (kq12 _ _ ?_); clear hR R; try clear kq12 kz12
  try simp only [go_sem, hC, h1, h2, h3, h4, h6, hK2]
  refine W_cond_false rfl ?_
  refine W_skip (kq11 _ _ ?_)
  refine W_seq fun kz13 kq13 => ?_
  refine W_seq fun kz14 kq14 => ?_
  refine W_region [2, 3, 7, 9] fun R hR => ?_   -- r12
  simp only [go_sem, hC, h1, h2, h3, h4, h6, hK2]
  refine GCall_of (miss_pc Y _ (σ.store.length + 2) (openK s g.opened []).2 (Sg.get_ext ..) s g.absent hv hg.ha) ?_   -- t39
  simp only [go_sem, hC, h1, h2, h3, h4, h6, hK2]
  refine hR _ _ (kq14 _ _ ?_); clear hR R; try clear kq14 kz14
  try simp only [go_sem, hC, h1, h2, h3, h4, h6, hK2]
  refine W_seq fun kz15 kq15 => ?_
  refine W_region [2, 3, 7, 9, 41] fun R hR => ?_   -- r13
  simp only [go_sem, hC, h1, h2, h3, h4, h6, hK2]
  refine hR _ _ (kq15 _ _ ?_); clear hR R; try clear kq15 kz15
  try simp only [go_sem, hC, h1, h2, h3, h4, h6, hK2]
  refine W_cond_false rfl ?_
  refine W_skip (kq13 _ _ ?_)
  refine W_seq fun kz16 kq16 => ?_
  obtain ⟨M0, hM0⟩ : ∃ z : Nat, s.matters = z := ⟨s.matters.toNat, by omega⟩
  have mk112h : ∀ {τ : Sg}, makePV Tryz.prog τ 125 (I s.matters) (I s.matters) = some (.msl τ.store.length 0 s.matters.toNat, τ.push ((List.replicate s.matters.toNat false).map PV.bool)) := fun {τ} => by
    rw [hM0]; exact mk125 (by omega)
  refine W_region [2, 3, 7, 10] fun R hR => ?_   -- r15
  simp only [go_sem, hC, h1, h2, h3, h4, h6, hK2, mk112h]
  refine hR _ _ (kq16 _ _ ?_); clear hR R; try clear kq16 kz16
  try simp only [go_sem, hC, h1, h2, h3, h4, h6, hK2]
  refine W_seq fun kz17 kq17 => ?_
  refine W_seq fun kz18 kq18 => ?_
  refine W_region [2, 3, 7, 10, 47] fun R hR => ?_   -- r16
  simp only [go_sem, hC, h1, h2, h3, h4, h6, hK2]
  refine GCall_of (judges_pc Y _ s) ?_   -- t47
  simp only [go_sem, hC, h1, h2, h3, h4, h6, hK2]
  refine hR _ _ (kq18 _ _ ?_); clear hR R; try clear kq18 kz18
  try simp only [go_sem, hC, h1, h2, h3, h4, h6, hK2]
  refine W_block ?_
  obtain ⟨M, hM⟩ : ∃ z : Nat, s.matters = z := ⟨s.matters.toNat, by omega⟩
  obtain ⟨J, hJ⟩ : ∃ z : Nat, s.judges = z := ⟨s.judges.toNat, by omega⟩
  have hMt : s.matters.toNat = M := by omega
  have hMb : M < 2 ^ 40 := by omega
  have hJb : J < 2 ^ 40 := by omega
  let L : List Bool → List (Option (List PV)) := fun p => [some (scCells s), some (ngCells g), some (.mark :: knE K), some [.map (σ.store.length + 2)], some (p.map PV.bool), some [.msl (σ.store.length + 4) 0 M], some (scCells s)]
  let so : Nat → Sg := fun t => σ.ext (L (thUp K J M t)) [] [.ready]
  have hLc : ∀ p (n r y : Nat), σ.store.length + 7 ≤ n → CleanLs n r y (L p) := fun p n r y h1 => by
    have c1 := cleans_ng (a := n) (b := r) (c := y) g
    have c2 := cleans_sc (a := n) (b := r) (c := y) s
    refine CleanL_cons c2 (CleanL_cons c1 ?_)
    have c3 : CleanAll n r y (knE K) := cA_kn.mpr trivial
    have c4 : CleanAll n r y (p.map PV.bool) := fun q hq => by obtain ⟨x, _, rfl⟩ := List.mem_map.1 hq; exact .bool _
    show CleanLs _ _ _ _
    simp only [CleanLs_cons, CleanLs_nil, CleanAll_cons, CleanAll_nil, Cl_map, Cl_mark, Cl_msl, c3, c4, true_and, and_true]
    refine ⟨by omega, by omega, ?_⟩
    intro q hq
    exact c2 q hq
  try simp only [hMt]
  refine W_rangeFunc (gf := 98) (v := .tuple []) (s := .ready) (σ5 := so (M * J)) rfl (by simp) (fun args τ b' τ' => ∃ m n : Nat, m < M ∧ n < J ∧ args = [.agg [I m, I n]] ∧ b' = true ∧ τ = so (m * J + n) ∧ τ' = so (m * J + n + 1)) ?_ ?_ ?_ ?_ ?_
  · rintro args τ b τ' ⟨m, n, hm, hn, rfl, rfl, rfl, rfl⟩
    refine ⟨rfl, ?_, ?_⟩
    · simp only [so, go_sem]
    · simp only [so, L, go_sem]
      refine W_region [7, 10, 11] fun R hR => ?_   -- r17
      simp only [go_sem, hC, h1, h2, h3, h4, h6, hK2, putAll]
      refine hR _ _ ?_; clear hR R
      try simp only [go_sem, hC, h1, h2, h3, h4, h6, hK2, putAll]
      obtain ⟨tt, htt⟩ : ∃ z, thUp K J M (m * J + n) = z := ⟨_, rfl⟩
      have htl : tt.length = M := by rw [← htt]; exact thUp_len _ _ _ _
      obtain ⟨b0, hb0⟩ : ∃ z, tt[m]? = some z := ⟨tt[m]'(by omega), by simp⟩
      have hstep := thUp_step K (J := J) (M := M) (m := m) hn (b := b0) (by rw [htt]; exact hb0)
      rw [htt] at hstep
      try rw [hstep]
      try simp only [htt, hstep]
      have hm1 : m + 1 ≤ tt.length := by omega
      have hmI : (m : Int) < (M : Int) := by omega
      refine W_post_weak ?_
      refine W_block ?_
      refine W_draw [] [0, 1, 2, 3, 4, 5, 6, 7, 8, 9, 10, 11, 12, 13, 14, 15] [(0, 15), (1, 15), (2, 15)] [[], [], [1], [], [], [4], [3, 4, 5], [3, 4, 5, 6], [3, 4, 5, 6, 7], [3, 4, 5, 6, 7, 8], [3, 4, 5, 6, 7, 8], [3, 4, 5, 6, 7, 8, 9, 10], [3, 4, 5, 6, 7, 8, 9, 10, 11], [3, 4, 5, 6, 7, 8, 9, 10, 11, 12], [0, 1, 2, 3, 4, 5, 6, 7, 8, 9, 10, 11, 12, 13], [0, 1, 2, 3, 4, 5, 6, 7, 8, 9, 10, 11, 12, 13, 14]] mixed (by kernel_rfl) fun R hR => ?_   -- r18
      simp only [go_sem, hC, h1, h2, h3, h4, h6, hK2, putAll, hmI, iaM_nat hm, hb0, Nat.mul_one, Nat.zero_add, hm1, List.getElem?_map]
      refine GWant_split (fun g1 => ?_) (fun g1 => ?_)
      · try simp only [Bool.not_eq_true', Bool.not_eq_false'] at g1
        have n1 := g1; try simp only [nrm] at n1
        simp only [go_sem, hC, h1, h2, h3, h4, h6, hK2, putAll, hmI, iaM_nat hm, hb0, Nat.mul_one, Nat.zero_add, hm1, List.getElem?_map, g1]
        refine GCall_of (absent_pc Y _ (σ.store.length + 2) K (Sg.get_ext ..) ((m : Int), (n : Int))) ?_   -- t60
        simp only [go_sem, hC, h1, h2, h3, h4, h6, hK2, putAll, hmI, iaM_nat hm, hb0, Nat.mul_one, Nat.zero_add, hm1, List.getElem?_map, g1]
        try refine And.intro (by repeat' (first | refine And.intro ?_ ?_ | exact GOr_right (fun _ => by simp only [go_sem, hC, h1, h2, h3, h4, h6, hK2, putAll, hmI, iaM_nat hm, hb0, Nat.mul_one, Nat.zero_add, hm1, List.getElem?_map]))) ?_
        refine hR _ _ ?_; clear hR R
        try simp only [go_sem, hC, h1, h2, h3, h4, h6, hK2, putAll]
        refine ⟨[], _, Weak.cutExt 7 0 (Nat.le_refl _) (Nat.le_refl _) hcl ?_ Wk.nil_get, ?_⟩
        · exact hLc _ _ _ _ (by simp only [L, go_sem] <;> omega)
        · simp only [hstep, RoundEnd, go_sem]
          cases b0 <;> simp_all
      · try simp only [Bool.not_eq_true', Bool.not_eq_false'] at g1
        have n1 := g1; try simp only [nrm] at n1
        simp only [go_sem, hC, h1, h2, h3, h4, h6, hK2, putAll, hmI, iaM_nat hm, hb0, Nat.mul_one, Nat.zero_add, hm1, List.getElem?_map, g1]
        try refine And.intro (by repeat' (first | refine And.intro ?_ ?_ | exact GOr_right (fun _ => by simp only [go_sem, hC, h1, h2, h3, h4, h6, hK2, putAll, hmI, iaM_nat hm, hb0, Nat.mul_one, Nat.zero_add, hm1, List.getElem?_map]))) ?_
        refine hR _ _ ?_; clear hR R
        try simp only [go_sem, hC, h1, h2, h3, h4, h6, hK2, putAll]
        refine ⟨[], _, Weak.cutExt 7 0 (Nat.le_refl _) (Nat.le_refl _) hcl ?_ Wk.nil_get, ?_⟩
        · exact hLc _ _ _ _ (by simp only [L, go_sem] <;> omega)
        · simp only [hstep, RoundEnd, go_sem]
          cases b0 <;> simp_all
  · have hst := judges1_pc (Y.at σ.ys.length (fun args τ b' τ' => ∃ m n : Nat, m < M ∧ n < J ∧ args = [.agg [I m, I n]] ∧ b' = true ∧ τ = so (m * J + n) ∧ τ' = so (m * J + n + 1))) σ σ.ys.length (σ.store.length + 6) s so M J (M * J) false hM hJ hMb hJb
      (fun t _ => by simp only [so, L]; exact Sg.get_ext ..) (Nat.le_refl _) (fun _ => rfl) (fun h => by cases h)
      (fun m n h1 h2 _ => by rw [YEnv.at_self]; exact ⟨m, n, h1, h2, rfl, rfl, rfl, rfl⟩) (by simp only [so, L, go_sem]) (by simp only [so, L, go_sem]) (by simp only [so, L, go_sem])
      (fun _ => CleanSg_ext hcl (by refine hLc _ _ _ _ ?_; simp only [L, go_sem] <;> omega))
    have e0 : so 0 = σ.ext (L (List.replicate M false)) [] [.ready] := rfl
    rw [e0] at hst
    simp only [L, go_sem] at hst ⊢
    exact hst
  · simp only [so, L, go_sem]
  · simp only [go_sem]
    exact CleanCut_ext hcl (by simp only [so, L, go_sem] <;> omega) (by simp only [so, L, go_sem, Nat.le_add_right]) (by omega) (by refine hLc _ _ _ _ ?_; simp only [so, L, go_sem] <;> omega)
  · simp only [AfterLoop, so, L, go_sem]
    have hsh := thUp_short s K hM hJ (by omega)
    have htl := thUp_len K J M (M * J)
    generalize thUp K J M (M * J) = tt at hsh htl ⊢
    refine kq17 _ _ ?_
    refine W_seq fun kz19 kq19 => ?_
    refine W_seq fun kz20 kq20 => ?_
    refine W_region [2, 3, 7, 65] fun R hR => ?_   -- r19
    simp only [go_sem, hC, h1, h2, h3, h4, h6, hK2, hsh, h5]
    refine GCall_of (BcontainsM_pc Y _ tt false (σ.store.length + 4) M (Sg.get_ext ..) htl (by omega)) ?_   -- t65
    simp only [go_sem, hC, h1, h2, h3, h4, h6, hK2, hsh, h5]
    refine hR _ _ (kq20 _ _ ?_); clear hR R; try clear kq20 kz20
    try simp only [go_sem, hC, h1, h2, h3, h4, h6, hK2]
    refine W_cond_false rfl ?_
    refine W_skip (kq19 _ _ ?_)
    refine W_seq fun kz21 kq21 => ?_
    refine W_seq fun kz22 kq22 => ?_
    refine W_region [7, 12] fun R hR => ?_   -- r21
    simp only [go_sem, hC, h1, h2, h3, h4, h6, hK2]
    refine GCall_of (fines_pc Y _ s g.fines hv hg.hf) ?_   -- t69
    simp only [go_sem, hC, h1, h2, h3, h4, h6, hK2]
    refine hR _ _ (kq22 _ _ ?_); clear hR R; try clear kq22 kz22
    try simp only [go_sem, hC, h1, h2, h3, h4, h6, hK2]
    refine W_seq fun kz23 kq23 => ?_
    refine W_region [7, 12, 71] fun R hR => ?_   -- r22
    simp only [go_sem, hC, h1, h2, h3, h4, h6, hK2]
    refine hR _ _ (kq23 _ _ ?_); clear hR R; try clear kq23 kz23
    try simp only [go_sem, hC, h1, h2, h3, h4, h6, hK2]
    refine W_cond_false rfl ?_
    refine W_skip (kq21 _ _ ?_)
    refine W_seq fun kz24 kq24 => ?_
    refine W_region [4, 5] fun R hR => ?_   -- r24
    simp only [go_sem, hC, h1, h2, h3, h4, h6, hK2]
    refine hR _ _ (kq24 _ _ ?_); clear hR R; try clear kq24 kz24
    try simp only [go_sem, hC, h1, h2, h3, h4, h6, hK2]
    refine W_ret ?_
    simp only [go_sem, hC, h1, h2, h3, h4, h6, hK2]
    refine ⟨.inr (by trivial), ?_⟩
    exact Fin_ext 3 0 hcl rfl (Wk_eq rfl (by simp only [go_sem] <;> omega)) (by show CleanLs _ _ _ _; simp only [go_sem])
    try simp only [go_sem]
    all_goals
      skip
set_option maxHeartbeats 2000000 in
theorem knownOf_err (Y : YEnv) (σ : Sg) (s : Scale) (g : Night) (hs : s.Ok) (hg : g.Ok) (hE : knownE s g ≠ 0) :
    PC Tryz.prog Y 56 [scPV s, ngPV g] σ (.tuple [.nilmap, I (knownE s g)]) (σ) := by
  refine PC_of_W Tryz.func56 rfl (by kernel_rfl) Tryz.ntmps56 (by simp) fun hcl hca => ?_
  obtain ⟨res, hres⟩ : ∃ r, knownE s g = r := ⟨_, rfl⟩
  rw [hres]
  refine W_seq fun kz1 kq1 => ?_
  refine W_region [2, 3] fun R hR => ?_   -- r0
  simp only [go_sem]
  refine hR _ _ (kq1 _ _ ?_); clear hR R; try clear kq1 kz1
  try simp only [go_sem]
  refine W_seq fun kz2 kq2 => ?_
  refine W_seq fun kz3 kq3 => ?_
  refine W_region [2, 3, 6] fun R hR => ?_   -- r1
  simp only [go_sem]
  refine GCall_of (Check_pc Y _ s hs) ?_   -- t14
  simp only [go_sem]
  refine hR _ _ (kq3 _ _ ?_); clear hR R; try clear kq3 kz3
  try simp only [go_sem]
  refine W_seq fun kz4 kq4 => ?_
  refine W_region [2, 3, 6, 16] fun R hR => ?_   -- r2
  simp only [go_sem]
  refine hR _ _ (kq4 _ _ ?_); clear hR R; try clear kq4 kz4
  try simp only [go_sem]
  refine W_cond rfl (fun c1 => ?_) (fun c1 => ?_)
  · -- c1 true
    try simp only [nrm] at c1
    refine W_seq fun kz5 kq5 => ?_
    refine W_region [4, 5] fun R hR => ?_   -- r3
    simp only [go_sem]
    refine hR _ _ (kq5 _ _ ?_); clear hR R; try clear kq5 kz5
    try simp only [go_sem]
    refine W_ret ?_
    simp only [go_sem]
    refine ⟨.inr (by trivial), ?_⟩
    first | refine Fin_same hcl rfl (Wk_eq ?_ (by simp only [go_sem])) | refine Fin_self hcl rfl (Wk_eq ?_ (by simp only [go_sem]))
    try simp only [go_sem]
    all_goals
      rw [← hres]; clear hres hE; simp [knownE, *]
  · -- c1 false
    try simp only [nrm] at c1
    have hv := Scale.v c1
    have q1 := hv.mt
    have q2 := hv.jd
    obtain ⟨K, hK⟩ : ∃ z, knownK s g = z := ⟨_, rfl⟩
    have hK2 : (missK s g.absent (openK s g.opened []).2).2 = K := hK
    refine W_skip (kq2 _ _ ?_)
    refine W_seq fun kz6 kq6 => ?_
    refine W_seq fun kz7 kq7 => ?_
    refine W_region [2, 3, 21] fun R hR => ?_   -- r4
    simp only [go_sem]
    refine hR _ _ (kq7 _ _ ?_); clear hR R; try clear kq7 kz7
    try simp only [go_sem]
    refine W_cond rfl (fun c2 => ?_) (fun c2 => ?_)
    · -- c2 true
      try simp only [nrm] at c2
      refine W_seq fun kz8 kq8 => ?_
      refine W_region [4, 5] fun R hR => ?_   -- r5
      simp only [go_sem]
      refine hR _ _ (kq8 _ _ ?_); clear hR R; try clear kq8 kz8
      try simp only [go_sem]
      refine W_ret ?_
      simp only [go_sem]
      refine ⟨.inr (by trivial), ?_⟩
      first | refine Fin_same hcl rfl (Wk_eq ?_ (by simp only [go_sem])) | refine Fin_self hcl rfl (Wk_eq ?_ (by simp only [go_sem]))
      try simp only [go_sem]
      all_goals
        rw [← hres]; clear hres hE; simp [knownE, *]
    · -- c2 false
      try simp only [nrm] at c2
      refine W_skip (kq6 _ _ ?_)
      refine W_seq fun kz9 kq9 => ?_
      refine W_region [2, 3, 7] fun R hR => ?_   -- r6
      simp only [go_sem]
      refine hR _ _ (kq9 _ _ ?_); clear hR R; try clear kq9 kz9
      try simp only [go_sem]
      refine W_seq fun kz10 kq10 => ?_
      refine W_seq fun kz11 kq11 => ?_
      refine W_region [2, 3, 7, 8] fun R hR => ?_   -- r7
      simp only [go_sem]
      refine GCall_of (open_pc Y _ (σ.store.length + 2) [] (Sg.get_ext ..) s g.opened hv knPos_nil (fun e he => by cases he) hg.ho hg.hm) ?_   -- t27
      simp only [go_sem]
      refine hR _ _ (kq11 _ _ ?_); clear hR R; try clear kq11 kz11
      try simp only [go_sem]
      refine W_seq fun kz12 kq12 => ?_
      refine W_region [2, 3, 7, 8, 29] fun R hR => ?_   -- r8
      simp only [go_sem]
      refine hR _ _ (kq12 _ _ ?_); clear hR R; try clear kq12 kz12
      try simp only [go_sem]
      refine W_cond rfl (fun c3 => ?_) (fun c3 => ?_)
      · -- c3 true
        try simp only [nrm] at c3
        refine W_seq fun kz13 kq13 => ?_
        refine W_region [4, 5] fun R hR => ?_   -- r9
        simp only [go_sem]
        refine hR _ _ (kq13 _ _ ?_); clear hR R; try clear kq13 kz13
        try simp only [go_sem]
        refine W_ret ?_
        simp only [go_sem]
        refine ⟨.inr (by trivial), ?_⟩
        first | refine Fin_same hcl rfl (Wk_eq ?_ (by simp only [go_sem])) | refine Fin_self hcl rfl (Wk_eq ?_ (by simp only [go_sem]))
        try simp only [go_sem]
        all_goals
          rw [← hres]; clear hres hE; simp [knownE, *]
      · -- c3 false
        try simp only [nrm] at c3
        refine W_skip (kq10 _ _ ?_)
        refine W_seq fun kz14 kq14 => ?_
        refine W_seq fun kz15 kq15 => ?_
        refine W_region [2, 3, 7, 34] fun R hR => ?_   -- r10
        simp only [go_sem]
        refine hR _ _ (kq15 _ _ ?_); clear hR R; try clear kq15 kz15
        try simp only [go_sem]
        refine W_cond rfl (fun c4 => ?_) (fun c4 => ?_)
        · -- c4 true
          try simp only [nrm] at c4
          refine W_seq fun kz16 kq16 => ?_
          refine W_region [4, 5] fun R hR => ?_   -- r11
          simp only [go_sem]
          refine hR _ _ (kq16 _ _ ?_); clear hR R; try clear kq16 kz16
          try simp only [go_sem]
          refine W_ret ?_
          simp only [go_sem]
          refine ⟨.inr (by trivial), ?_⟩
          first | refine Fin_same hcl rfl (Wk_eq ?_ (by simp only [go_sem])) | refine Fin_self hcl rfl (Wk_eq ?_ (by simp only [go_sem]))
          try simp only [go_sem]
          all_goals
            rw [← hres]; clear hres hE; simp [knownE, *]
        · -- c4 false
          try simp only [nrm] at c4
          refine W_skip (kq14 _ _ ?_)
          refine W_seq fun kz17 kq17 => ?_
          refine W_seq fun kz18 kq18 => ?_
          refine W_region [2, 3, 7, 9] fun R hR => ?_   -- r12
          simp only [go_sem]
          refine GCall_of (miss_pc Y _ (σ.store.length + 2) (openK s g.opened []).2 (Sg.get_ext ..) s g.absent hv hg.ha) ?_   -- t39
          simp only [go_sem]
          refine hR _ _ (kq18 _ _ ?_); clear hR R; try clear kq18 kz18
          try simp only [go_sem]
          refine W_seq fun kz19 kq19 => ?_
          refine W_region [2, 3, 7, 9, 41] fun R hR => ?_   -- r13
          simp only [go_sem]
          refine hR _ _ (kq19 _ _ ?_); clear hR R; try clear kq19 kz19
          try simp only [go_sem]
          refine W_cond rfl (fun c5 => ?_) (fun c5 => ?_)
          · -- c5 true
            try simp only [nrm] at c5
            refine W_seq fun kz20 kq20 => ?_
            refine W_region [4, 5] fun R hR => ?_   -- r14
            simp only [go_sem]
            refine hR _ _ (kq20 _ _ ?_); clear hR R; try clear kq20 kz20
            try simp only [go_sem]
            refine W_ret ?_
            simp only [go_sem]
            refine ⟨.inr (by trivial), ?_⟩
            first | refine Fin_same hcl rfl (Wk_eq ?_ (by simp only [go_sem])) | refine Fin_self hcl rfl (Wk_eq ?_ (by simp only [go_sem]))
            try simp only [go_sem]
            all_goals
              rw [← hres]; clear hres hE; simp [knownE, *]
          · -- c5 false
            try simp only [nrm] at c5
            simp only [hK2]
            refine W_skip (kq17 _ _ ?_)
            refine W_seq fun kz21 kq21 => ?_
            obtain ⟨M0, hM0⟩ : ∃ z : Nat, s.matters = z := ⟨s.matters.toNat, by omega⟩
            have mk112h : ∀ {τ : Sg}, makePV Tryz.prog τ 125 (I s.matters) (I s.matters) = some (.msl τ.store.length 0 s.matters.toNat, τ.push ((List.replicate s.matters.toNat false).map PV.bool)) := fun {τ} => by
              rw [hM0]; exact mk125 (by omega)
            refine W_region [2, 3, 7, 10] fun R hR => ?_   -- r15
            simp only [go_sem, hK2, mk112h]
            refine hR _ _ (kq21 _ _ ?_); clear hR R; try clear kq21 kz21
            try simp only [go_sem, hK2]
            refine W_seq fun kz22 kq22 => ?_
            refine W_seq fun kz23 kq23 => ?_
            refine W_region [2, 3, 7, 10, 47] fun R hR => ?_   -- r16
            simp only [go_sem, hK2]
            refine GCall_of (judges_pc Y _ s) ?_   -- t47
            simp only [go_sem, hK2]
            refine hR _ _ (kq23 _ _ ?_); clear hR R; try clear kq23 kz23
            try simp only [go_sem, hK2]
            refine W_block ?_
            obtain ⟨M, hM⟩ : ∃ z : Nat, s.matters = z := ⟨s.matters.toNat, by omega⟩
            obtain ⟨J, hJ⟩ : ∃ z : Nat, s.judges = z := ⟨s.judges.toNat, by omega⟩
            have hMt : s.matters.toNat = M := by omega
            have hMb : M < 2 ^ 40 := by omega
            have hJb : J < 2 ^ 40 := by omega
            let L : List Bool → List (Option (List PV)) := fun p => [some (scCells s), some (ngCells g), some (.mark :: knE K), some [.map (σ.store.length + 2)], some (p.map PV.bool), some [.msl (σ.store.length + 4) 0 M], some (scCells s)]
            let so : Nat → Sg := fun t => σ.ext (L (thUp K J M t)) [] [.ready]
            have hLc : ∀ p (n r y : Nat), σ.store.length + 7 ≤ n → CleanLs n r y (L p) := fun p n r y h1 => by
              have c1 := cleans_ng (a := n) (b := r) (c := y) g
              have c2 := cleans_sc (a := n) (b := r) (c := y) s
              refine CleanL_cons c2 (CleanL_cons c1 ?_)
              have c3 : CleanAll n r y (knE K) := cA_kn.mpr trivial
              have c4 : CleanAll n r y (p.map PV.bool) := fun q hq => by obtain ⟨x, _, rfl⟩ := List.mem_map.1 hq; exact .bool _
              show CleanLs _ _ _ _
              simp only [CleanLs_cons, CleanLs_nil, CleanAll_cons, CleanAll_nil, Cl_map, Cl_mark, Cl_msl, c3, c4, true_and, and_true]
              refine ⟨by omega, by omega, ?_⟩
              intro q hq
              exact c2 q hq
            try simp only [hMt]
            refine W_rangeFunc (gf := 98) (v := .tuple []) (s := .ready) (σ5 := so (M * J)) rfl (by simp) (fun args τ b' τ' => ∃ m n : Nat, m < M ∧ n < J ∧ args = [.agg [I m, I n]] ∧ b' = true ∧ τ = so (m * J + n) ∧ τ' = so (m * J + n + 1)) ?_ ?_ ?_ ?_ ?_
            · rintro args τ b τ' ⟨m, n, hm, hn, rfl, rfl, rfl, rfl⟩
              refine ⟨rfl, ?_, ?_⟩
              · simp only [so, go_sem]
              · simp only [so, L, go_sem]
                refine W_region [7, 10, 11] fun R hR => ?_   -- r17
                simp only [go_sem, hK2, putAll]
                refine hR _ _ ?_; clear hR R
                try simp only [go_sem, hK2, putAll]
                obtain ⟨tt, htt⟩ : ∃ z, thUp K J M (m * J + n) = z := ⟨_, rfl⟩
                have htl : tt.length = M := by rw [← htt]; exact thUp_len _ _ _ _
                obtain ⟨b0, hb0⟩ : ∃ z, tt[m]? = some z := ⟨tt[m]'(by omega), by simp⟩
                have hstep := thUp_step K (J := J) (M := M) (m := m) hn (b := b0) (by rw [htt]; exact hb0)
                rw [htt] at hstep
                try rw [hstep]
                try simp only [htt, hstep]
                have hm1 : m + 1 ≤ tt.length := by omega
                have hmI : (m : Int) < (M : Int) := by omega
                refine W_post_weak ?_
                refine W_block ?_
                refine W_draw [] [0, 1, 2, 3, 4, 5, 6, 7, 8, 9, 10, 11, 12, 13, 14, 15] [(0, 15), (1, 15), (2, 15)] [[], [], [1], [], [], [4], [3, 4, 5], [3, 4, 5, 6], [3, 4, 5, 6, 7], [3, 4, 5, 6, 7, 8], [3, 4, 5, 6, 7, 8], [3, 4, 5, 6, 7, 8, 9, 10], [3, 4, 5, 6, 7, 8, 9, 10, 11], [3, 4, 5, 6, 7, 8, 9, 10, 11, 12], [0, 1, 2, 3, 4, 5, 6, 7, 8, 9, 10, 11, 12, 13], [0, 1, 2, 3, 4, 5, 6, 7, 8, 9, 10, 11, 12, 13, 14]] mixed (by kernel_rfl) fun R hR => ?_   -- r18
                simp only [go_sem, hK2, putAll, hmI, iaM_nat hm, hb0, Nat.mul_one, Nat.zero_add, hm1, List.getElem?_map]
                refine GWant_split (fun g1 => ?_) (fun g1 => ?_)
                · try simp only [Bool.not_eq_true', Bool.not_eq_false'] at g1
                  have n1 := g1; try simp only [nrm] at n1
                  simp only [go_sem, hK2, putAll, hmI, iaM_nat hm, hb0, Nat.mul_one, Nat.zero_add, hm1, List.getElem?_map, g1]
                  refine GCall_of (absent_pc Y _ (σ.store.length + 2) K (Sg.get_ext ..) ((m : Int), (n : Int))) ?_   -- t60
                  simp only [go_sem, hK2, putAll, hmI, iaM_nat hm, hb0, Nat.mul_one, Nat.zero_add, hm1, List.getElem?_map, g1]
                  try refine And.intro (by repeat' (first | refine And.intro ?_ ?_ | exact GOr_right (fun _ => by simp only [go_sem, hK2, putAll, hmI, iaM_nat hm, hb0, Nat.mul_one, Nat.zero_add, hm1, List.getElem?_map]))) ?_
                  refine hR _ _ ?_; clear hR R
                  try simp only [go_sem, hK2, putAll]
                  refine ⟨[], _, Weak.cutExt 7 0 (Nat.le_refl _) (Nat.le_refl _) hcl ?_ Wk.nil_get, ?_⟩
                  · exact hLc _ _ _ _ (by simp only [L, go_sem] <;> omega)
                  · simp only [hstep, RoundEnd, go_sem]
                    cases b0 <;> simp_all
                · try simp only [Bool.not_eq_true', Bool.not_eq_false'] at g1
                  have n1 := g1; try simp only [nrm] at n1
                  simp only [go_sem, hK2, putAll, hmI, iaM_nat hm, hb0, Nat.mul_one, Nat.zero_add, hm1, List.getElem?_map, g1]
                  try refine And.intro (by repeat' (first | refine And.intro ?_ ?_ | exact GOr_right (fun _ => by simp only [go_sem, hK2, putAll, hmI, iaM_nat hm, hb0, Nat.mul_one, Nat.zero_add, hm1, List.getElem?_map]))) ?_
                  refine hR _ _ ?_; clear hR R
                  try simp only [go_sem, hK2, putAll]
                  refine ⟨[], _, Weak.cutExt 7 0 (Nat.le_refl _) (Nat.le_refl _) hcl ?_ Wk.nil_get, ?_⟩
                  · exact hLc _ _ _ _ (by simp only [L, go_sem] <;> omega)
                  · simp only [hstep, RoundEnd, go_sem]
                    cases b0 <;> simp_all
            · have hst := judges1_pc (Y.at σ.ys.length (fun args τ b' τ' => ∃ m n : Nat, m < M ∧ n < J ∧ args = [.agg [I m, I n]] ∧ b' = true ∧ τ = so (m * J + n) ∧ τ' = so (m * J + n + 1))) σ σ.ys.length (σ.store.length + 6) s so M J (M * J) false hM hJ hMb hJb
                (fun t _ => by simp only [so, L]; exact Sg.get_ext ..) (Nat.le_refl _) (fun _ => rfl) (fun h => by cases h)
                (fun m n h1 h2 _ => by rw [YEnv.at_self]; exact ⟨m, n, h1, h2, rfl, rfl, rfl, rfl⟩) (by simp only [so, L, go_sem]) (by simp only [so, L, go_sem]) (by simp only [so, L, go_sem])
                (fun _ => CleanSg_ext hcl (by refine hLc _ _ _ _ ?_; simp only [L, go_sem] <;> omega))
              have e0 : so 0 = σ.ext (L (List.replicate M false)) [] [.ready] := rfl
              rw [e0] at hst
              simp only [L, go_sem] at hst ⊢
              exact hst
            · simp only [so, L, go_sem]
            · simp only [go_sem]
              exact CleanCut_ext hcl (by simp only [so, L, go_sem] <;> omega) (by simp only [so, L, go_sem, Nat.le_add_right]) (by omega) (by refine hLc _ _ _ _ ?_; simp only [so, L, go_sem] <;> omega)
            · simp only [AfterLoop, so, L, go_sem]
              have hsh := thUp_short s K hM hJ (by omega)
              have htl := thUp_len K J M (M * J)
              generalize thUp K J M (M * J) = tt at hsh htl ⊢
              refine kq22 _ _ ?_
              refine W_seq fun kz24 kq24 => ?_
              refine W_seq fun kz25 kq25 => ?_
              refine W_region [2, 3, 7, 65] fun R hR => ?_   -- r19
              simp only [go_sem, hK2, hsh]
              refine GCall_of (BcontainsM_pc Y _ tt false (σ.store.length + 4) M (Sg.get_ext ..) htl (by omega)) ?_   -- t65
              simp only [go_sem, hK2, hsh]
              refine hR _ _ (kq25 _ _ ?_); clear hR R; try clear kq25 kz25
              try simp only [go_sem, hK2]
              refine W_cond rfl (fun c6 => ?_) (fun c6 => ?_)
              · -- c6 true
                try simp only [nrm] at c6
                refine W_seq fun kz26 kq26 => ?_
                refine W_region [4, 5] fun R hR => ?_   -- r20
                simp only [go_sem, hK2]
                refine hR _ _ (kq26 _ _ ?_); clear hR R; try clear kq26 kz26
                try simp only [go_sem, hK2]
                refine W_ret ?_
                simp only [go_sem, hK2]
                refine ⟨.inr (by trivial), ?_⟩
                first | refine Fin_same hcl rfl (Wk_eq ?_ (by simp only [go_sem])) | refine Fin_self hcl rfl (Wk_eq ?_ (by simp only [go_sem]))
                try simp only [go_sem]
                all_goals
                  rw [← hres]; clear hres hE; simp [knownE, *]
              · -- c6 false
                try simp only [nrm] at c6
                refine W_skip (kq24 _ _ ?_)
                refine W_seq fun kz27 kq27 => ?_
                refine W_seq fun kz28 kq28 => ?_
                refine W_region [7, 12] fun R hR => ?_   -- r21
                simp only [go_sem, hK2]
                refine GCall_of (fines_pc Y _ s g.fines hv hg.hf) ?_   -- t69
                simp only [go_sem, hK2]
                refine hR _ _ (kq28 _ _ ?_); clear hR R; try clear kq28 kz28
                try simp only [go_sem, hK2]
                refine W_seq fun kz29 kq29 => ?_
                refine W_region [7, 12, 71] fun R hR => ?_   -- r22
                simp only [go_sem, hK2]
                refine hR _ _ (kq29 _ _ ?_); clear hR R; try clear kq29 kz29
                try simp only [go_sem, hK2]
                refine W_cond rfl (fun c7 => ?_) (fun c7 => ?_)
                · -- c7 true
                  try simp only [nrm] at c7
                  refine W_seq fun kz30 kq30 => ?_
                  refine W_region [4, 5] fun R hR => ?_   -- r23
                  simp only [go_sem, hK2]
                  refine hR _ _ (kq30 _ _ ?_); clear hR R; try clear kq30 kz30
                  try simp only [go_sem, hK2]
                  refine W_ret ?_
                  simp only [go_sem, hK2]
                  refine ⟨.inr (by trivial), ?_⟩
                  first | refine Fin_same hcl rfl (Wk_eq ?_ (by simp only [go_sem])) | refine Fin_self hcl rfl (Wk_eq ?_ (by simp only [go_sem]))
                  try simp only [go_sem]
                  all_goals
                    rw [← hres]; clear hres hE; simp [knownE, *]
                · -- c7 false
                  try simp only [nrm] at c7
                  exfalso
                  apply hE
                  clear hres hE
                  simp [knownE, *]
end Go.Proofs.YtgelnjmddabgpaaGreat
namespace Go.Proofs.YtgelnjmddabgpaaGreat
open Go Go.RowKit
set_option maxRecDepth 100000
def lays189_ren : Go.Shelf.Ren := ⟨fun | 189 => 117 | 125 => 87 | 257 => 125 | 128 => 110 | 129 => 111 | 294 => 127 | 295 => 128 | 296 => 129 | 297 => 130 | 298 => 131 | 299 => 132 | 216 => 133 | 300 => 134 | 301 => 135 | 328 => 136 | 329 => 120 | 330 => 121 | 331 => 137 | 332 => 138 | 215 => 139 | 343 => 140 | n => n, fun | 28 => 22 | 3 => 3 | 46 => 112 | 0 => 0 | 51 => 156 | 53 => 87 | 4 => 4 | 183 => 149 | 182 => 148 | 131 => 153 | 5 => 5 | 9 => 9 | 218 => 161 | 222 => 164 | 228 => 168 | 229 => 169 | n => n, fun n => n⟩
theorem lays189 : Lays.n189 Tryz.prog lays189_ren where
  mixed := by kernel_rfl
  f125 := Tryz.func87.trans (congrArg some (by kernel_rfl))
  f128 := Tryz.func110.trans (congrArg some (by kernel_rfl))
  f129 := Tryz.func111.trans (congrArg some (by kernel_rfl))
  f189 := Tryz.func117.trans (congrArg some (by kernel_rfl))
  f215 := Tryz.func139.trans (congrArg some (by kernel_rfl))
  f216 := Tryz.func133.trans (congrArg some (by kernel_rfl))
  f257 := Tryz.func125.trans (congrArg some (by kernel_rfl))
  f294 := Tryz.func127.trans (congrArg some (by kernel_rfl))
  f295 := Tryz.func128.trans (congrArg some (by kernel_rfl))
  f296 := Tryz.func129.trans (congrArg some (by kernel_rfl))
  f297 := Tryz.func130.trans (congrArg some (by kernel_rfl))
  f298 := Tryz.func131.trans (congrArg some (by kernel_rfl))
  f299 := Tryz.func132.trans (congrArg some (by kernel_rfl))
  f300 := Tryz.func134.trans (congrArg some (by kernel_rfl))
  f301 := Tryz.func135.trans (congrArg some (by kernel_rfl))
  f328 := Tryz.func136.trans (congrArg some (by kernel_rfl))
  f329 := Tryz.func120.trans (congrArg some (by kernel_rfl))
  f330 := Tryz.func121.trans (congrArg some (by kernel_rfl))
  f331 := Tryz.func137.trans (congrArg some (by kernel_rfl))
  f332 := Tryz.func138.trans (congrArg some (by kernel_rfl))
  f343 := Tryz.func140.trans (congrArg some (by kernel_rfl))
  t0 := Tryz.underlying0
  a0 := Tryz.isAgg0
  z0 := Tryz.sizeOf0
  v0 := Tryz.zeroValue0
  t3 := Tryz.underlying3
  a3 := Tryz.isAgg3
  z3 := Tryz.sizeOf3
  v3 := Tryz.zeroValue3
  t4 := Tryz.underlying4
  a4 := Tryz.isAgg4
  z4 := Tryz.sizeOf4
  v4 := Tryz.zeroValue4
  t5 := Tryz.underlying5
  a5 := Tryz.isAgg5
  z5 := Tryz.sizeOf5
  v5 := Tryz.zeroValue5
  t9 := Tryz.underlying9
  a9 := Tryz.isAgg9
  z9 := Tryz.sizeOf9
  v9 := Tryz.zeroValue9
  t28 := Tryz.underlying22
  a28 := Tryz.isAgg22
  z28 := Tryz.sizeOf22
  v28 := Tryz.zeroValue22
  t46 := Tryz.underlying112
  a46 := Tryz.isAgg112
  z46 := Tryz.sizeOf112
  v46 := Tryz.zeroValue112
  t51 := Tryz.underlying156
  a51 := Tryz.isAgg156
  z51 := Tryz.sizeOf156
  v51 := Tryz.zeroValue156
  t53 := Tryz.underlying87
  a53 := Tryz.isAgg87
  z53 := Tryz.sizeOf87
  v53 := Tryz.zeroValue87
  t131 := Tryz.underlying153
  a131 := Tryz.isAgg153
  z131 := Tryz.sizeOf153
  v131 := Tryz.zeroValue153
  t182 := Tryz.underlying148
  a182 := Tryz.isAgg148
  z182 := Tryz.sizeOf148
  v182 := Tryz.zeroValue148
  t183 := Tryz.underlying149
  a183 := Tryz.isAgg149
  z183 := Tryz.sizeOf149
  v183 := Tryz.zeroValue149
  t218 := Tryz.underlying161
  a218 := Tryz.isAgg161
  z218 := Tryz.sizeOf161
  v218 := Tryz.zeroValue161
  t222 := Tryz.underlying164
  a222 := Tryz.isAgg164
  z222 := Tryz.sizeOf164
  v222 := Tryz.zeroValue164
  t228 := Tryz.underlying168
  a228 := Tryz.isAgg168
  z228 := Tryz.sizeOf168
  v228 := Tryz.zeroValue168
  t229 := Tryz.underlying169
  a229 := Tryz.isAgg169
  z229 := Tryz.sizeOf169
  v229 := Tryz.zeroValue169
def lays125_ren : Go.Shelf.Ren := ⟨fun | 125 => 87 | 128 => 110 | 129 => 111 | n => n, fun | 46 => 112 | 3 => 3 | 51 => 156 | 53 => 87 | 4 => 4 | 5 => 5 | 9 => 9 | n => n, fun n => n⟩
theorem lays125 : Lays.n125 Tryz.prog lays125_ren where
  mixed := by kernel_rfl
  f125 := Tryz.func87.trans (congrArg some (by kernel_rfl))
  f128 := Tryz.func110.trans (congrArg some (by kernel_rfl))
  f129 := Tryz.func111.trans (congrArg some (by kernel_rfl))
  t3 := Tryz.underlying3
  a3 := Tryz.isAgg3
  z3 := Tryz.sizeOf3
  v3 := Tryz.zeroValue3
  t4 := Tryz.underlying4
  a4 := Tryz.isAgg4
  z4 := Tryz.sizeOf4
  v4 := Tryz.zeroValue4
  t5 := Tryz.underlying5
  a5 := Tryz.isAgg5
  z5 := Tryz.sizeOf5
  v5 := Tryz.zeroValue5
  t9 := Tryz.underlying9
  a9 := Tryz.isAgg9
  z9 := Tryz.sizeOf9
  v9 := Tryz.zeroValue9
  t46 := Tryz.underlying112
  a46 := Tryz.isAgg112
  z46 := Tryz.sizeOf112
  v46 := Tryz.zeroValue112
  t51 := Tryz.underlying156
  a51 := Tryz.isAgg156
  z51 := Tryz.sizeOf156
  v51 := Tryz.zeroValue156
  t53 := Tryz.underlying87
  a53 := Tryz.isAgg87
  z53 := Tryz.sizeOf87
  v53 := Tryz.zeroValue87
theorem sortsI : SortsI Tryz.prog 117 := ⟨by kernel_rfl, Any.slices_Sort_int_none lays189, Any.slices_Sort_int lays189⟩
theorem bitsLen_pc (Y : YEnv) (σ : Sg) (x : Int) (h0 : 0 ≤ x) (h1 : x ≤ 18446744073709551615) : PC Tryz.prog Y 87 [.int .u64 x] σ (.int .i64 (Lib.bitLen x.toNat)) σ := by
  refine PC_of_calls (by kernel_rfl) fun Ψ vals w hs ha => ?_
  obtain ⟨v, rfl⟩ : ∃ v, vals = #[v] := by
    have := ha.1
    match vals, this with
    | ⟨[v]⟩, _ => exact ⟨v, rfl⟩
  have hx := (ha.2 0 _ _ rfl rfl).int_inv
  subst hx
  refine (Any.bits_Len lays125 x w h0 h1).mono ?_
  rintro e w' ⟨rfl, rfl⟩
  exact ⟨_, Ψ, rfl, Ty.le.refl _, hs, .int _ _, Below.refl _ _⟩
end Go.Proofs.YtgelnjmddabgpaaGreat
namespace Go.Proofs.YtgelnjmddabgpaaGreat
open Go Go.RowKit
set_option maxRecDepth 100000
theorem Fin_more {P : Program} {fn : Func} {σ σ' : Sg} {E : Env} {rs : List PV} {v : PV} (hcl : CleanSg σ') (h1 : σ.store.length ≤ σ'.store.length) (h2 : σ.rooms.length ≤ σ'.rooms.length) (h3 : σ'.ys.length = σ.ys.length)
    (hr : resPV P σ' E fn.results.toList = some rs) (hv : Wk σ'.store.length σ'.rooms.length σ.ys.length (oneOr rs) v) : Fin P fn σ v σ' E σ' := by
  refine ⟨rs, _, _, hr, h1, h2, hv, ?_, ?_, h3⟩
  · rw [← h3]; simp [Sg.cut]
  · unfold CleanSg at hcl; rw [h3] at hcl; exact hcl
theorem stX_glI0 {σ : Sg} {l : List (Option (List PV))} {rm : List Nat} {ys : List LState} {off n : Nat} {out : List Int} : stX 1 (σ.ext l rm ys) σ.store.length off (glI n out) = match l[0]? with
    | some (some cs) => if off + 1 ≤ cs.length then some (σ.ext (l.set 0 (some (putCells cs off [glI n out]))) rm ys) else none
    | _ => none := by
  have := stX_glI (σ := σ) (l := l) (rm := rm) (ys := ys) (j := 0) (off := off) (n := n) (out := out)
  exact this
attribute [go_sem high] stX_glI0
theorem take_snoc {l : List Int} {i : Nat} {x : Int} (h : l[i]? = some x) : l.take i ++ [x] = l.take (i + 1) := by rw [List.take_add_one, h]; rfl
set_option maxHeartbeats 2000000 in
theorem values_pc (Y : YEnv) (σ : Sg) (pid n : Nat) :
    PC Tryz.prog Y 101 [.msl pid 0 n] σ (.func (.func 118) [] [.ptr σ.store.length 0]) (σ.ext [some [.msl pid 0 n]] []) := by
  refine PC_of_W Tryz.func101 rfl (by kernel_rfl) Tryz.ntmps101 (by simp) fun hcl hca => ?_
  have hp : pid < σ.store.length := by
    have := hca (.msl pid 0 n) (by simp)
    cases this; assumption
  refine W_seq fun kz1 kq1 => ?_
  refine W_region [1] fun R hR => ?_   -- r0
  simp only [go_sem]
  refine hR _ _ (kq1 _ _ ?_); clear hR R; try clear kq1 kz1
  try simp only [go_sem]
  refine W_seq fun kz2 kq2 => ?_
  refine W_region [2] fun R hR => ?_   -- r1
  simp only [go_sem]
  refine hR _ _ (kq2 _ _ ?_); clear hR R; try clear kq2 kz2
  try simp only [go_sem]
  refine W_ret ?_
  simp only [go_sem]
  refine ⟨.inr (by trivial), ?_⟩
  refine Fin_ext 1 0 hcl rfl (Wk_eq rfl ?_) ?_
  · simp only [go_sem] <;> omega
  · show CleanLs _ _ _ _
    simp only [go_sem] <;> omega
  try simp only [go_sem]
  all_goals
    skip
set_option maxHeartbeats 2000000 in
theorem values1_pc (Y : YEnv) (σ : Sg) (y id pid n : Nat) (xs : List Int) (τ : Nat → Sg) (hn : n ≤ xs.length) (hnb : n < 2 ^ 40)
    (hst : ∀ t, t ≤ n → (τ t).store[id]? = some (some [.msl pid 0 n])) (hst2 : ∀ t, t ≤ n → (τ t).store[pid]? = some (some (xs.map I)))
    (hY : ∀ t x, t < n → xs[t]? = some x → Y y [I x] (τ t) true (τ (t + 1)))
    (hlen : (τ 0).store.length ≤ (τ n).store.length) (hr : (τ 0).rooms.length ≤ (τ n).rooms.length) (hy : (τ n).ys.length = (τ 0).ys.length) (hcl' : CleanSg (τ 0) → CleanSg (τ n)) :
    PC Tryz.prog Y 118 [.yield y, .ptr id 0] (τ 0) (.tuple []) (τ n) := by
  refine PC_of_W Tryz.func118 rfl (by kernel_rfl) Tryz.ntmps118 (by simp) fun hcl hca => ?_
  have hs00 := hst 0 (Nat.zero_le _)
  refine W_seq fun kz1 kq1 => ?_
  refine W_region [0, 5, 6, 7] fun R hR => ?_   -- r0
  simp only [go_sem, ldS_at hs00]
  refine hR _ _ (kq1 _ _ ?_); clear hR R; try clear kq1 kz1
  try simp only [go_sem]
  refine W_block ?_
  refine W_loopT (α := Nat) (fun (i : Nat) => [(7, I i)]) (fun (i : Nat) => τ i) (fun (i : Nat) => i ≤ n) (fun (i : Nat) => n - i) (0) rfl (by first | rfl | (simp only [go_sem]; done) | (simp only [go_sem]; rfl)) (Nat.zero_le _) ?_
  rintro i hi
  refine W_seq fun kz2 kq2 => ?_
  refine W_region [0, 5, 6, 7, 8] fun R hR => ?_   -- r1
  simp only [go_sem]
  refine hR _ _ (kq2 _ _ ?_); clear hR R; try clear kq2 kz2
  try simp only [go_sem]
  refine W_seq fun kz3 kq3 => ?_
  refine W_cond rfl (fun c1 => ?_) (fun c1 => ?_)
  · -- c1 true
    try simp only [nrm] at c1
    have hin0 : i < n := by first | omega | (simp at c1; omega)
    have hin : (i : Int) < (n : Int) := by omega
    have hs2 := hst2 i (by omega)
    obtain ⟨x, hx⟩ : ∃ z, xs[i]? = some z := ⟨xs[i]'(by omega), by simp⟩
    refine W_skip (kq3 _ _ ?_)
    refine W_seq fun kz4 kq4 => ?_
    refine W_block ?_
    refine W_seq fun kz5 kq5 => ?_
    refine W_region [0, 4, 5, 6, 7] fun R hR => ?_   -- r2
    simp only [go_sem, hx, hin, iaM_nat hin0, Nat.mul_one, Nat.zero_add, ldS_at hs2, List.getElem?_map]
    refine hR _ _ (kq5 _ _ ?_); clear hR R; try clear kq5 kz5
    try simp only [go_sem, hx]
    refine W_seq fun kz6 kq6 => ?_
    refine W_region [0, 5, 6, 7, 14] fun R hR => ?_   -- r3
    simp only [go_sem, hx]
    refine GYield_of (hY i x hin0 hx) ?_
    simp only [go_sem, hx]
    refine hR _ _ (kq6 _ _ ?_); clear hR R; try clear kq6 kz6
    try simp only [go_sem, hx]
    refine W_cond_false rfl ?_
    refine W_skip (kq4 _ _ ?_)
    refine W_region [0, 5, 6, 7] fun R hR => ?_   -- r4
    simp only [go_sem, hx]
    try simp (disch := omega) only [wrapI, wrapU]
    refine hR _ _ ?_; clear hR R
    try simp only [go_sem, hx]
    refine ⟨i + 1, ?_, by (try simp only []); omega, ?_⟩
    · first | exact Weak.refl | exact Weak.eq (by first | rfl | (simp only [go_sem]; done) | (simp only [go_sem]; rfl) | (simp [go_sem]; done) | (simp [go_sem]; omega)) (by first | rfl | (simp only [go_sem]; done) | (simp [go_sem]; done))
    · try dsimp only
      omega
  · -- c1 false
    try simp only [nrm] at c1
    have hie : i = n := by first | omega | (simp at c1; omega)
    subst hie
    refine W_exit ?_
    simp only [go_sem]
    try simp only [go_sem]
    refine ⟨.inl (by trivial), ?_⟩
    exact Fin_more (rs := []) (hcl' hcl) hlen hr hy rfl (Wk.of_clean (.tuple _ Clean.all_nil))
    try simp only [go_sem]
    all_goals
      skip
set_option maxHeartbeats 2000000 in
theorem appendSeq_pc (Y : YEnv) (σ : Sg) (id pid n : Nat) (xs : List Int) (hid : σ.store[id]? = some (some [.msl pid 0 n])) (hpid : σ.store[pid]? = some (some (xs.map I))) (hn : n ≤ xs.length) (hnb : n < 2 ^ 40) :
    PC Tryz.prog Y 124 [.isl [] .exact, .func (.func 118) [] [.ptr id 0]] σ (glI (σ.store.length + 1) (xs.take n)) (σ.ext ([some [glI (σ.store.length + 1) (xs.take n)]] ++ gsI (xs.take n)) []) := by
  refine PC_of_W Tryz.func124 rfl (by kernel_rfl) Tryz.ntmps124 (by simp) fun hcl hca => ?_
  have hxl : (xs.take n).length = n := by simp; omega
  obtain ⟨xn, hxn⟩ : ∃ z, xs.take n = z := ⟨_, rfl⟩
  rw [hxn] at hxl ⊢
  refine W_seq fun kz1 kq1 => ?_
  refine W_region [1, 2] fun R hR => ?_   -- r0
  simp only [go_sem]
  refine hR _ _ (kq1 _ _ ?_); clear hR R; try clear kq1 kz1
  try simp only [go_sem]
  refine W_seq fun kz2 kq2 => ?_
  refine W_seq fun kz3 kq3 => ?_
  refine W_region [2, 6] fun R hR => ?_   -- r1
  simp only [go_sem]
  refine hR _ _ (kq3 _ _ ?_); clear hR R; try clear kq3 kz3
  try simp only [go_sem]
  refine W_block ?_
  let L : List Int → List (Option (List PV)) := fun p => [some [glI (σ.store.length + 1) p]] ++ gsI p
  let so : Nat → Sg := fun t => σ.ext (L (xs.take t)) [] [.ready]
  have hLc : ∀ p (n r y : Nat), σ.store.length + 1 + p.length ≤ n → CleanLs n r y (L p) := fun p n r y h1 => by
    refine CleanLs_append ?_ (gsI_clean _)
    have := glI_clean (a := n) (b := r) (c := y) h1
    simp only [go_sem, this]
  refine W_weak (Weak.gnilX (j := 0) (off := 0) rfl rfl) ?_
  simp only [go_sem]
  refine W_rangeFunc (gf := 118) (v := .tuple []) (s := .ready) (σ5 := so n) rfl (by simp) (fun args τ b' τ' => ∃ t x, t < n ∧ xs[t]? = some x ∧ args = [I x] ∧ b' = true ∧ τ = so t ∧ τ' = so (t + 1)) ?_ ?_ ?_ ?_ ?_
  · rintro args τ b τ' ⟨t, x, ht, hx, rfl, rfl, rfl, rfl⟩
    refine ⟨rfl, ?_, ?_⟩
    · simp only [so, go_sem]
    · simp only [so, L, go_sem]
      refine W_region [2, 5] fun R hR => ?_   -- r2
      simp only [go_sem, putAll]
      refine hR _ _ ?_; clear hR R
      try simp only [go_sem, putAll]
      have hsn := take_snoc hx
      obtain ⟨out, hout⟩ : ∃ z, xs.take t = z := ⟨_, rfl⟩
      have hol : out.length ≤ t := by rw [← hout]; simp; omega
      rw [hout] at hsn
      try simp only [← hsn, hout]
      have happ := appG_gl (σ := σ) (A := [some [glI (σ.store.length + 1) out]]) (rm := []) (ys := [.busy]) (out := out) x (by omega)
      simp only [go_sem, List.length_cons, List.length_nil] at happ
      refine W_post_weak ?_
      refine W_block ?_
      refine W_region [] fun R hR => ?_   -- r3
      simp only [go_sem, putAll, happ]
      try simp (disch := first | omega | (simp only [go_sem] <;> omega)) only [wrapI, wrapU, appX_exact, appX_tok]
      try simp only [go_sem, putAll, happ]
      refine hR _ _ ?_; clear hR R
      try simp only [go_sem, putAll]
      refine ⟨[], _, Weak.keep [], ?_⟩
      simp only [RoundEnd, go_sem]
  · have hst := values1_pc (Y.at σ.ys.length (fun args τ b' τ' => ∃ t x, t < n ∧ xs[t]? = some x ∧ args = [I x] ∧ b' = true ∧ τ = so t ∧ τ' = so (t + 1))) σ σ.ys.length id pid n xs so hn hnb
      (fun t _ => by simp only [so]; exact get_extx hid) (fun t _ => by simp only [so]; exact get_extx hpid)
      (fun t x h1 h2 => by rw [YEnv.at_self]; exact ⟨t, x, h1, h2, rfl, rfl, rfl, rfl⟩) (by simp only [so, L, List.take_zero, gsI, go_sem] <;> omega) (by simp only [so, L, go_sem] <;> omega) (by simp only [so, L, go_sem])
      (fun _ => CleanSg_ext hcl (by refine hLc _ _ _ _ ?_; simp only [L, gsI_len, go_sem] <;> omega))
    have e0 : so 0 = σ.ext (L []) [] [.ready] := rfl
    rw [e0] at hst
    simp only [L, glI, gsI, go_sem] at hst ⊢
    exact hst
  · simp only [so, L, go_sem]
  · simp only [go_sem]
    exact CleanCut_ext hcl (by simp only [so, L, go_sem] <;> omega) (by simp only [so, L, go_sem, Nat.le_add_right]) (by omega) (by refine hLc _ _ _ _ ?_; simp only [so, L, gsI_len, go_sem] <;> omega)
  · simp only [AfterLoop, so, L, go_sem]
    simp only [hxn]
    refine kq2 _ _ ?_
    refine W_seq fun kz4 kq4 => ?_
    refine W_region [4] fun R hR => ?_   -- r4
    simp only [go_sem]
    refine hR _ _ (kq4 _ _ ?_); clear hR R; try clear kq4 kz4
    try simp only [go_sem]
    refine W_ret ?_
    simp only [go_sem]
    refine ⟨.inr (by trivial), ?_⟩
    have hcl2 : CleanSg (σ.ext ([some [glI (σ.store.length + 1) xn]] ++ gsI xn) []) := CleanSg_ext hcl (by refine hLc _ _ _ _ ?_; simp only [L, gsI_len, go_sem] <;> omega)
    refine Fin_more (σ := σ) hcl2 (by simp only [go_sem] <;> omega) (by simp only [go_sem] <;> omega) (by simp only [go_sem]) rfl (Wk.of_clean ?_)
    simp only [go_sem]
    refine glI_clean ?_
    simp only [gsI_len, go_sem] <;> omega
    try simp only [go_sem]
    all_goals
      skip
set_option maxHeartbeats 2000000 in
theorem collect_pc (Y : YEnv) (σ : Sg) (id pid n : Nat) (xs : List Int) (hid : σ.store[id]? = some (some [.msl pid 0 n])) (hpid : σ.store[pid]? = some (some (xs.map I))) (hn : n ≤ xs.length) (hnb : n < 2 ^ 40) :
    PC Tryz.prog Y 116 [.func (.func 118) [] [.ptr id 0]] σ (glI (σ.store.length + 1) (xs.take n)) (σ.ext ([some [glI (σ.store.length + 1) (xs.take n)]] ++ gsI (xs.take n)) []) := by
  refine PC_of_W Tryz.func116 rfl (by kernel_rfl) Tryz.ntmps116 (by simp) fun hcl hca => ?_
  refine W_seq fun kz1 kq1 => ?_
  refine W_region [0] fun R hR => ?_   -- r0
  simp only [go_sem]
  refine hR _ _ (kq1 _ _ ?_); clear hR R; try clear kq1 kz1
  try simp only [go_sem]
  refine W_seq fun kz2 kq2 => ?_
  refine W_region [2] fun R hR => ?_   -- r1
  simp only [go_sem]
  refine GCall_of (appendSeq_pc Y _ id pid n xs hid hpid hn hnb) ?_   -- t4
  simp only [go_sem]
  refine hR _ _ (kq2 _ _ ?_); clear hR R; try clear kq2 kz2
  try simp only [go_sem]
  refine W_ret ?_
  simp only [go_sem]
  refine ⟨.inr (by trivial), ?_⟩
  have hol : (xs.take n).length = n := by simp; omega
  generalize xs.take n = out at hol ⊢
  have hcl2 : CleanSg (σ.ext ([some [glI (σ.store.length + 1) out]] ++ gsI out) []) := CleanSg_ext hcl (by
    refine CleanLs_append ?_ (gsI_clean _)
    have := glI_clean (a := σ.store.length + ([some [glI (σ.store.length + 1) out]] ++ gsI out).length) (b := σ.rooms.length + ([] : List Nat).length) (c := σ.ys.length) (n := σ.store.length + 1) (out := out) (by simp only [gsI_len, go_sem] <;> omega)
    simp only [go_sem] at this ⊢
    simp only [this])
  refine Fin_more (σ := σ) hcl2 (by simp only [go_sem] <;> omega) (by simp only [go_sem] <;> omega) (by simp only [go_sem]) rfl (Wk.of_clean ?_)
  simp only [go_sem]
  refine glI_clean ?_
  simp only [gsI_len, go_sem] <;> omega
  try simp only [go_sem]
  all_goals
    skip
set_option maxHeartbeats 2000000 in
theorem sorted_pc (Y : YEnv) (σ : Sg) (id pid n : Nat) (xs : List Int) (hid : σ.store[id]? = some (some [.msl pid 0 n])) (hpid : σ.store[pid]? = some (some (xs.map I))) (hn : n ≤ xs.length) (hnb : n < 2 ^ 40) (hn0 : 0 < n) :
    PC Tryz.prog Y 100 [.func (.func 118) [] [.ptr id 0]] σ (ints (sortI (xs.take n))) (σ) := by
  refine PC_of_W Tryz.func100 rfl (by kernel_rfl) Tryz.ntmps100 (by simp) fun hcl hca => ?_
  have hol : (xs.take n).length = n := by simp; omega
  obtain ⟨out, hout⟩ : ∃ z, xs.take n = z := ⟨_, rfl⟩
  have hcoll := collect_pc Y σ id pid n xs hid hpid hn hnb
  rw [hout] at hcoll hol ⊢
  refine W_seq fun kz1 kq1 => ?_
  refine W_region [0] fun R hR => ?_   -- r0
  simp only [go_sem]
  refine hR _ _ (kq1 _ _ ?_); clear hR R; try clear kq1 kz1
  try simp only [go_sem]
  refine W_seq fun kz2 kq2 => ?_
  refine W_region [3] fun R hR => ?_   -- r1
  simp only [go_sem]
  refine GCall_of (hcoll) ?_   -- t5
  simp only [go_sem]
  refine hR _ _ (kq2 _ _ ?_); clear hR R; try clear kq2 kz2
  try simp only [go_sem]
  refine W_seq fun kz3 kq3 => ?_
  refine W_region [3] fun R hR => ?_   -- r2
  simp only [go_sem]
  refine GCall_of (sort_gl (A := [_]) sortsI (by omega)) ?_   -- t7
  simp only [go_sem]
  refine hR _ _ (kq3 _ _ ?_); clear hR R; try clear kq3 kz3
  try simp only [go_sem]
  refine W_seq fun kz4 kq4 => ?_
  have hsl := sortI_len out
  obtain ⟨z, zs, hz⟩ : ∃ z zs, sortI out = z :: zs := by cases h : sortI out with
    | nil => rw [h] at hsl; simp at hsl; omega
    | cons z zs => exact ⟨z, zs, rfl⟩
  refine W_weak (Weak.keep [3]) ?_
  have hE3 : glI (σ.store.length + 1) out = .gsl (σ.store.length + (1 + zs.length)) (zs.length + 1) 1 := by rw [← glI_sort, hz]; simp only [glI, Nat.add_assoc]
  simp only [go_sem, hE3, hz]
  refine W_weak (Weak.freeze (t := 3) (id := σ.store.length + (1 + zs.length)) (len := zs.length + 1) (es := 1) (l := (z :: zs).map I) rfl (by rw [Sg.get_ext, rowC_ints]; exact gsI_get (A := [_])) (by simp) (fun q hq => by obtain ⟨x, _, rfl⟩ := List.mem_map.1 hq; rfl)) ?_
  simp only [go_sem]
  refine W_region [2] fun R hR => ?_   -- r3
  simp only [go_sem]
  refine hR _ _ (kq4 _ _ ?_); clear hR R; try clear kq4 kz4
  try simp only [go_sem]
  refine W_ret ?_
  simp only [go_sem]
  refine ⟨.inr (by trivial), ?_⟩
  rw [hz]; refine Fin_same hcl rfl (Wk_eq rfl ?_)
  try simp only [go_sem]
  all_goals
    simp only [go_sem]
end Go.Proofs.YtgelnjmddabgpaaGreat
namespace Go.Proofs.YtgelnjmddabgpaaGreat
open Go Go.RowKit
set_option maxRecDepth 100000
theorem mem_sortI {x : Int} {l : List Int} : x ∈ sortI l ↔ x ∈ l := (List.mergeSort_perm l _).mem_iff
def presL (k : Kn) (m : Int) (i : Nat) : List Int := ((List.range i).map fun (n : Nat) => (n : Int)).filter fun n => !(absentK k (m, n))
theorem presL_succ (k : Kn) (m : Int) (i : Nat) : presL k m (i + 1) = if absentK k (m, (i : Int)) then presL k m i else presL k m i ++ [(i : Int)] := by
  unfold presL
  rw [List.range_succ, List.map_append, List.filter_append]
  cases h : absentK k (m, (i : Int)) <;> simp [h]
theorem presL_J {s : Scale} {J : Nat} (hJ : s.judges = J) (k : Kn) (m : Int) : presJ s k m = presL k m J := by simp only [presJ, toI, presL, hJ, Int.toNat_natCast]
theorem sumI_append (l r : List Int) : sumI (l ++ r) = sumI l + sumI r := by
  induction l with
  | nil => simp [sumI]
  | cons x l ih => simp only [List.cons_append, sumI, ih]; omega
theorem sumI_bd {b : Int} : ∀ {l : List Int}, (∀ x, x ∈ l → 0 ≤ x ∧ x ≤ b) → 0 ≤ sumI l ∧ sumI l ≤ l.length * b := by
  intro l
  induction l with
  | nil => intro _; simp [sumI]
  | cons x l ih =>
    intro h
    have h1 := ih fun y hy => h y (by simp [hy])
    have h2 := h x (by simp)
    simp only [sumI, List.length_cons]
    have : ((l.length + 1 : Nat) : Int) * b = l.length * b + b := by rw [show ((l.length + 1 : Nat) : Int) = (l.length : Int) + 1 by omega, Int.add_mul, Int.one_mul]
    omega
/-- What is known of a night that may be. -/
def KnOk (s : Scale) (k : Kn) : Prop := ∀ e, e ∈ k → e.2 = [] ∨ ((e.2.length : Int) = s.schools ∧ ∀ x, x ∈ e.2 → s.low ≤ x ∧ x ≤ s.high)
theorem mkAt_bd {s : Scale} {k : Kn} (hv : s.V) (hk : KnOk s k) {u : Int} (hu : 0 ≤ u ∧ u ≤ 100) (sc m n : Int) : 0 ≤ mkAt k sc m u n ∧ mkAt k sc m u n ≤ 100 := by
  unfold mkAt
  cases h : aget (m, n) k with
  | none => exact hu
  | some l =>
    cases l with
    | nil => exact hu
    | cons x l =>
      simp only
      rcases hk _ (aget_mem h) with e | ⟨_, e⟩
      · cases e
      · cases hq : (x :: l)[sc.toNat]? with
        | none => simp
        | some y =>
          have := e y (List.mem_of_getElem? hq)
          have q4 := hv.lo
          have q5 := hv.hi
          simp only [Option.getD_some]
          omega
theorem mkAt_none {k : Kn} {sc m u n : Int} (h : (aget (m, n) k).getD [] = []) : mkAt k sc m u n = u := by
  unfold mkAt
  cases h2 : aget (m, n) k with
  | none => rfl
  | some l => rw [h2] at h; simp only [Option.getD_some] at h; subst h; rfl
theorem mkAt_some {k : Kn} {m u n x : Int} {sc : Nat} {l : List Int} (h : (aget (m, n) k).getD [] = l) (hl : l ≠ []) (hx : l[sc]? = some x) : mkAt k sc m u n = x := by
  unfold mkAt
  cases h2 : aget (m, n) k with
  | none => rw [h2] at h; exact absurd h.symm hl
  | some l2 =>
    rw [h2] at h
    simp only [Option.getD_some] at h
    subst h
    cases l2 with
    | nil => exact absurd rfl hl
    | cons y l => simp only [Int.toNat_natCast, hx, Option.getD_some]
theorem kn_len {s : Scale} {k : Kn} (hk : KnOk s k) {j : Int × Int} (h : (aget j k).getD [] ≠ []) : (((aget j k).getD []).length : Int) = s.schools := by
  cases h2 : aget j k with
  | none => rw [h2] at h; exact absurd rfl h
  | some l =>
    rw [h2] at h
    rcases hk _ (aget_mem h2) with e | ⟨e, _⟩
    · exact absurd e h
    · exact e
theorem meanM_bd {s : Scale} {k : Kn} (hv : s.V) (hk : KnOk s k) {u : Int} (hu : 0 ≤ u ∧ u ≤ 100) (sc m : Int) : 0 ≤ meanM s k sc m u ∧ meanM s k sc m u ≤ 100 := by
  unfold meanM
  have hb := sumI_bd (b := 100) (l := (presJ s k m).map (mkAt k sc m u)) fun x hx => by
    obtain ⟨n, _, rfl⟩ := List.mem_map.1 hx
    exact mkAt_bd hv hk hu sc m n
  simp only [List.length_map] at hb
  rw [Int.tdiv_eq_ediv_of_nonneg hb.1]
  rcases Nat.eq_zero_or_pos (presJ s k m).length with h | h
  · rw [h]; simp
  · exact ⟨Int.ediv_nonneg hb.1 (by omega), Int.ediv_le_of_le_mul (by omega) (by rw [Int.mul_comm]; exact hb.2)⟩
theorem panelM_bd {s : Scale} {k : Kn} (hv : s.V) (hk : KnOk s k) {u : Int} (hu : 0 ≤ u ∧ u ≤ 100) (sc m : Int) : ∀ x, x ∈ panelM s k sc m u → 0 ≤ x ∧ x ≤ 100 := by
  intro x hx
  obtain ⟨n, _, rfl⟩ := List.mem_map.1 hx
  split
  · exact meanM_bd hv hk hu sc m
  · exact mkAt_bd hv hk hu sc m n
theorem panelM_len {s : Scale} {J : Nat} (hJ : s.judges = J) (k : Kn) (sc m u : Int) : (panelM s k sc m u).length = J := by simp [panelM, toI, hJ]
theorem panelM_eq {s : Scale} {J : Nat} (hJ : s.judges = J) (k : Kn) (sc m u : Int) {pp : List Int} (hl : J ≤ pp.length)
    (h1 : ∀ q : Nat, q < J → absentK k (m, (q : Int)) = false → pp[q]? = some (mkAt k sc m u q)) (h2 : ∀ q : Nat, q < J → absentK k (m, (q : Int)) = true → pp[q]? = some (meanM s k sc m u)) : pp.take J = panelM s k sc m u := by
  refine List.ext_getElem? fun q => ?_
  by_cases hq : q < J
  · rw [List.getElem?_take_of_lt hq]
    simp only [panelM, toI, hJ, Int.toNat_natCast, List.getElem?_map, List.getElem?_range hq, Option.map_some]
    cases h : absentK k (m, (q : Int)) with
    | true => rw [h2 q hq h]; rfl
    | false => rw [h1 q hq h]; rfl
  · rw [List.getElem?_eq_none (by simp; omega), List.getElem?_eq_none (by rw [panelM_len hJ]; omega)]
theorem points_bd {s : Scale} {k : Kn} (hv : s.V) (hk : KnOk s k) {u : Int} (hu : 0 ≤ u ∧ u ≤ 100) (sc m : Int) : 0 ≤ pointsK s k sc m u ∧ pointsK s k sc m u ≤ 500 := by
  have h := sumI_bd (b := 100) (l := (sortI (panelM s k sc m u)).drop s.drop.toNat) fun x hx => panelM_bd hv hk hu sc m x (mem_sortI.1 (List.mem_of_mem_drop hx))
  have q2 := hv.jd
  have hl : ((sortI (panelM s k sc m u)).drop s.drop.toNat).length ≤ 5 := by
    simp only [List.length_drop, sortI_len, panelM, toI, List.length_map, List.length_range]
    omega
  unfold pointsK
  omega
set_option maxHeartbeats 4000000 in
theorem points_pc (Y : YEnv) (σ : Sg) (id : Nat) (k : Kn) (hd : σ.store[id]? = some (some (.mark :: knE k))) (s : Scale) (hv : s.V) (hk : KnOk s k) (sc : Nat) (hsc : (sc : Int) < s.schools) (m : Int) (hp : presJ s k m ≠ []) (u : Int) (hu : 0 ≤ u ∧ u ≤ 100) :
    PC Tryz.prog Y 82 [.map id, scPV s, I sc, I m, I u] σ (I (pointsK s k sc m u)) (σ) := by
  refine PC_of_W Tryz.func82 rfl (by kernel_rfl) Tryz.ntmps82 (by simp) fun hcl hca => ?_
  have hlt := lt_of_get hd
  have q2 := hv.jd
  have q3 := hv.sc
  have q6 := hv.dr
  obtain ⟨J, hJ⟩ : ∃ z : Nat, s.judges = z := ⟨s.judges.toNat, by omega⟩
  obtain ⟨d, hdr⟩ : ∃ z : Nat, s.drop = z := ⟨s.drop.toNat, by omega⟩
  have hpJ := presL_J hJ k m
  have hbd := mkAt_bd hv hk hu sc m
  have hme := meanM_bd hv hk hu sc m
  obtain ⟨mean, hmean⟩ : ∃ z, meanM s k sc m u = z := ⟨_, rfl⟩
  rw [hmean] at hme
  refine W_seq fun kz1 kq1 => ?_
  refine W_region [0, 2, 3, 4, 6] fun R hR => ?_   -- r0
  simp only [go_sem, lkX_old hlt, lkX_at hd, hJ, hdr]
  refine hR _ _ (kq1 _ _ ?_); clear hR R; try clear kq1 kz1
  try simp only [go_sem, lkX_old hlt, lkX_at hd, hJ, hdr]
  refine W_seq fun kz2 kq2 => ?_
  refine W_region [0, 2, 3, 4, 6, 11] fun R hR => ?_   -- r1
  simp only [go_sem, lkX_old hlt, lkX_at hd, hJ, hdr]
  refine hR _ _ (kq2 _ _ ?_); clear hR R; try clear kq2 kz2
  try simp only [go_sem, lkX_old hlt, lkX_at hd, hJ, hdr]
  refine W_seq fun kz3 kq3 => ?_
  refine W_region [0, 2, 3, 4, 6, 11, 12, 13] fun R hR => ?_   -- r2
  simp only [go_sem, lkX_old hlt, lkX_at hd, hJ, hdr]
  refine hR _ _ (kq3 _ _ ?_); clear hR R; try clear kq3 kz3
  try simp only [go_sem, lkX_old hlt, lkX_at hd, hJ, hdr]
  refine W_seq fun kz4 kq4 => ?_
  refine W_seq fun kz5 kq5 => ?_
  refine W_region [0, 2, 3, 4, 6, 11, 12, 13, 23, 24] fun R hR => ?_   -- r3
  simp only [go_sem, lkX_old hlt, lkX_at hd, hJ, hdr]
  refine hR _ _ (kq5 _ _ ?_); clear hR R; try clear kq5 kz5
  try simp only [go_sem, lkX_old hlt, lkX_at hd, hJ, hdr]
  refine W_block ?_
  refine W_loopT (α := Nat × (List Int) × Int × Nat) (fun ⟨i, pp, sm, mn⟩ => [(12, I sm), (13, I mn), (24, I i)]) (fun ⟨i, pp, sm, mn⟩ => σ.ext [some [I s.schools, I s.matters, I (J : Int), I (d : Int), I s.low, I s.high, ints s.order], some (pp.map I)] []) (fun ⟨i, pp, sm, mn⟩ => i ≤ J ∧ pp.length = 5 ∧ (∀ q : Nat, q < i → absentK k (m, (q : Int)) = false → pp[q]? = some (mkAt k sc m u q)) ∧ sm = sumI ((presL k m i).map (mkAt k sc m u)) ∧ mn = (presL k m i).length ∧ 0 ≤ sm ∧ sm ≤ 100 * (i : Int) ∧ mn ≤ i) (fun ⟨i, pp, sm, mn⟩ => J - i) ((0, [0, 0, 0, 0, 0], 0, 0)) rfl (by first | rfl | (simp only [go_sem]; done) | (simp only [go_sem]; rfl)) (⟨Nat.zero_le _, rfl, fun q hq => absurd hq (Nat.not_lt_zero _), rfl, rfl, Int.le_refl _, Int.le_refl _, Nat.le_refl _⟩) ?_
  rintro ⟨i, pp, sm, mn⟩ ⟨hi, hpl, hpv, hsm, hmn, hs1, hs2, hm1⟩
  refine W_seq fun kz6 kq6 => ?_
  refine W_region [0, 2, 3, 4, 6, 11, 12, 13, 23, 24, 25] fun R hR => ?_   -- r4
  simp only [go_sem, lkX_old hlt, lkX_at hd, hJ, hdr]
  refine hR _ _ (kq6 _ _ ?_); clear hR R; try clear kq6 kz6
  try simp only [go_sem, lkX_old hlt, lkX_at hd, hJ, hdr]
  refine W_seq fun kz7 kq7 => ?_
  refine W_cond rfl (fun c1 => ?_) (fun c1 => ?_)
  · -- c1 true
    try simp only [nrm] at c1
    have hiJ : i < J := by first | omega | (simp at c1; omega)
    have hi5 : i < 5 := by omega
    have hI5 : (i : Int) < 5 := by omega
    have hi1 : i + 1 ≤ pp.length := by omega
    have hset : ∀ v : Int, (pp.set i v)[i]? = some v := fun v => by rw [List.getElem?_set_self (by omega)]
    have hps := presL_succ k m i
    have hbi := hbd i
    refine W_skip (kq7 _ _ ?_)
    refine W_seq fun kz8 kq8 => ?_
    refine W_block ?_
    refine W_seq fun kz9 kq9 => ?_
    refine W_region [0, 2, 3, 4, 6, 11, 12, 13, 14, 23, 24] fun R hR => ?_   -- r5
    simp only [go_sem, lkX_old hlt, lkX_at hd, hJ, hdr]
    refine hR _ _ (kq9 _ _ ?_); clear hR R; try clear kq9 kz9
    try simp only [go_sem, lkX_old hlt, lkX_at hd, hJ, hdr]
    refine W_seq fun kz10 kq10 => ?_
    refine W_region [0, 2, 3, 4, 6, 11, 12, 13, 14, 15, 23, 24] fun R hR => ?_   -- r6
    simp only [go_sem, lkX_old hlt, lkX_at hd, hJ, hdr]
    refine hR _ _ (kq10 _ _ ?_); clear hR R; try clear kq10 kz10
    try simp only [go_sem, lkX_old hlt, lkX_at hd, hJ, hdr]
    refine W_seq fun kz11 kq11 => ?_
    refine W_seq fun kz12 kq12 => ?_
    refine W_region [0, 2, 3, 4, 6, 11, 12, 13, 14, 15, 23, 24, 32] fun R hR => ?_   -- r7
    simp only [go_sem, lkX_old hlt, lkX_at hd, hJ, hdr]
    refine GCall_of (absent_pc Y _ id k (get_extx hd) (m, (i : Int))) ?_   -- t32
    simp only [go_sem, lkX_old hlt, lkX_at hd, hJ, hdr]
    refine hR _ _ (kq12 _ _ ?_); clear hR R; try clear kq12 kz12
    try simp only [go_sem, lkX_old hlt, lkX_at hd, hJ, hdr]
    refine W_cond rfl (fun c2 => ?_) (fun c2 => ?_)
    · -- c2 true
      try simp only [nrm] at c2
      have ha : absentK k (m, (i : Int)) = true := c2
      refine W_exit ?_
      simp only [go_sem, lkX_old hlt, lkX_at hd, hJ, hdr]
      refine kq8 _ _ ?_
      refine W_region [0, 2, 3, 4, 6, 11, 12, 13, 23, 24] fun R hR => ?_   -- r14
      simp only [go_sem, lkX_old hlt, lkX_at hd, hJ, hdr]
      try simp (disch := omega) only [wrapI, wrapU]
      refine hR _ _ ?_; clear hR R
      try simp only [go_sem, lkX_old hlt, lkX_at hd, hJ, hdr]
      refine ⟨(i + 1, pp, sm, mn), ?_, by (try simp only []); omega, ?_⟩
      · refine Weak.trans (Weak.cutX 2 0 (by omega) (by omega) hcl (by simp only [go_sem] <;> omega) (by simp only [go_sem] <;> omega)) ?_
        simp only [go_sem]
        exact Weak.eq (by first | rfl | (simp only [go_sem]; done) | (simp only [go_sem]; rfl) | (simp [go_sem]; done) | (simp [go_sem]; omega)) (by first | rfl | (simp only [go_sem]; done) | (simp [go_sem]; done))
      · try dsimp only
        first
        | (rw [ha, if_pos rfl] at hps
           rw [hps]
           refine ⟨hiJ, hpl, fun q hq ha2 => ?_, hsm, hmn, hs1, by omega, by omega⟩
           rcases Nat.lt_succ_iff_lt_or_eq.1 hq with h | h
           · exact hpv q h ha2
           · subst h; rw [ha] at ha2; cases ha2)
        | (rw [ha, if_neg (by simp)] at hps
           rw [hps, List.map_append, sumI_append, List.length_append, ← hsm, ← hmn]
           rw [hmk] at hbi
           refine ⟨hiJ, by rw [List.length_set]; exact hpl, fun q hq ha2 => ?_, by simp only [List.map_cons, List.map_nil, sumI, hmk]; omega, rfl, by omega, by omega, by omega⟩
           rcases Nat.lt_succ_iff_lt_or_eq.1 hq with h | h
           · rw [List.getElem?_set_ne (by omega)]; exact hpv q h ha2
           · subst h; rw [hset, hmk])
    · -- c2 false
      try simp only [nrm] at c2
      have ha : absentK k (m, (i : Int)) = false := by simpa using c2
      refine W_skip (kq11 _ _ ?_)
      refine W_seq fun kz13 kq13 => ?_
      refine W_region [0, 2, 3, 4, 6, 11, 12, 13, 14, 15, 23, 24] fun R hR => ?_   -- r8
      simp only [go_sem, lkX_old hlt, lkX_at hd, hJ, hdr, hI5, iaM_nat hi5, Nat.mul_one, Nat.zero_add, hi1]
      refine hR _ _ (kq13 _ _ ?_); clear hR R; try clear kq13 kz13
      try simp only [go_sem, lkX_old hlt, lkX_at hd, hJ, hdr]
      refine W_seq fun kz14 kq14 => ?_
      refine W_seq fun kz15 kq15 => ?_
      refine W_region [0, 2, 3, 4, 6, 11, 12, 13, 14, 16, 23, 24] fun R hR => ?_   -- r9
      simp only [go_sem, lkX_old hlt, lkX_at hd, hJ, hdr]
      refine hR _ _ (kq15 _ _ ?_); clear hR R; try clear kq15 kz15
      try simp only [go_sem, lkX_old hlt, lkX_at hd, hJ, hdr]
      refine W_seq fun kz16 kq16 => ?_
      refine W_region [0, 2, 3, 4, 6, 11, 12, 13, 14, 16, 23, 24, 40] fun R hR => ?_   -- r10
      simp only [go_sem, lkX_old hlt, lkX_at hd, hJ, hdr]
      refine hR _ _ (kq16 _ _ ?_); clear hR R; try clear kq16 kz16
      try simp only [go_sem, lkX_old hlt, lkX_at hd, hJ, hdr]
      refine W_cond rfl (fun c3 => ?_) (fun c3 => ?_)
      · -- c3 true
        try simp only [nrm] at c3
        obtain ⟨lx, hlx0⟩ : ∃ z, (aget (m, (i : Int)) k).getD [] = z := ⟨_, rfl⟩
        have hne : lx ≠ [] := by rw [hlx0] at c3; intro e; rw [e] at c3; simp at c3
        have hll := kn_len hk (j := (m, (i : Int))) (by rw [hlx0]; exact hne)
        rw [hlx0] at hll
        obtain ⟨x, hlx⟩ : ∃ z, lx[sc]? = some z := ⟨lx[sc]'(by omega), by simp⟩
        have hmk : mkAt k sc m u i = x := mkAt_some hlx0 hne hlx
        simp only [hlx0, mkPV_ne hne]
        refine W_region [0, 2, 3, 4, 6, 11, 12, 13, 14, 23, 24] fun R hR => ?_   -- r11
        simp only [go_sem, lkX_old hlt, lkX_at hd, hJ, hdr, hI5, iaM_nat hi5, Nat.mul_one, Nat.zero_add, hi1, hset, hlx, List.set_set, List.length_set]
        refine hR _ _ (kq14 _ _ ?_); clear hR R; try clear kq14 kz14
        try simp only [go_sem, lkX_old hlt, lkX_at hd, hJ, hdr]
        refine W_seq fun kz17 kq17 => ?_
        refine W_region [0, 2, 3, 4, 6, 11, 12, 13, 23, 24] fun R hR => ?_   -- r12
        simp only [go_sem, lkX_old hlt, lkX_at hd, hJ, hdr, hI5, iaM_nat hi5, Nat.mul_one, Nat.zero_add, List.getElem?_map, hset]
        try simp (disch := omega) only [wrapI, wrapU]
        refine hR _ _ (kq17 _ _ ?_); clear hR R; try clear kq17 kz17
        try simp only [go_sem, lkX_old hlt, lkX_at hd, hJ, hdr]
        refine W_region [0, 2, 3, 4, 6, 11, 12, 13, 23, 24] fun R hR => ?_   -- r13
        simp only [go_sem, lkX_old hlt, lkX_at hd, hJ, hdr]
        try simp (disch := omega) only [wrapI, wrapU]
        refine hR _ _ (kq8 _ _ ?_); clear hR R; try clear kq8 kz8
        try simp only [go_sem, lkX_old hlt, lkX_at hd, hJ, hdr]
        refine W_region [0, 2, 3, 4, 6, 11, 12, 13, 23, 24] fun R hR => ?_   -- r14
        simp only [go_sem, lkX_old hlt, lkX_at hd, hJ, hdr]
        try simp (disch := omega) only [wrapI, wrapU]
        refine hR _ _ ?_; clear hR R
        try simp only [go_sem, lkX_old hlt, lkX_at hd, hJ, hdr]
        refine ⟨(i + 1, pp.set i x, sm + x, mn + 1), ?_, by (try simp only []); omega, ?_⟩
        · refine Weak.trans (Weak.cutX 2 0 (by omega) (by omega) hcl (by simp only [go_sem] <;> omega) (by simp only [go_sem] <;> omega)) ?_
          simp only [go_sem]
          exact Weak.eq (by first | rfl | (simp only [go_sem]; done) | (simp only [go_sem]; rfl) | (simp [go_sem]; done) | (simp [go_sem]; omega)) (by first | rfl | (simp only [go_sem]; done) | (simp [go_sem]; done))
        · try dsimp only
          first
          | (rw [ha, if_pos rfl] at hps
             rw [hps]
             refine ⟨hiJ, hpl, fun q hq ha2 => ?_, hsm, hmn, hs1, by omega, by omega⟩
             rcases Nat.lt_succ_iff_lt_or_eq.1 hq with h | h
             · exact hpv q h ha2
             · subst h; rw [ha] at ha2; cases ha2)
          | (rw [ha, if_neg (by simp)] at hps
             rw [hps, List.map_append, sumI_append, List.length_append, ← hsm, ← hmn]
             rw [hmk] at hbi
             refine ⟨hiJ, by rw [List.length_set]; exact hpl, fun q hq ha2 => ?_, by simp only [List.map_cons, List.map_nil, sumI, hmk]; omega, rfl, by omega, by omega, by omega⟩
             rcases Nat.lt_succ_iff_lt_or_eq.1 hq with h | h
             · rw [List.getElem?_set_ne (by omega)]; exact hpv q h ha2
             · subst h; rw [hset, hmk])
      · -- c3 false
        try simp only [nrm] at c3
        have hmk : mkAt k sc m u i = u := mkAt_none (by simpa using c3)
        refine W_skip (kq14 _ _ ?_)
        refine W_seq fun kz18 kq18 => ?_
        refine W_region [0, 2, 3, 4, 6, 11, 12, 13, 23, 24] fun R hR => ?_   -- r12
        simp only [go_sem, lkX_old hlt, lkX_at hd, hJ, hdr, hI5, iaM_nat hi5, Nat.mul_one, Nat.zero_add, List.getElem?_map, hset]
        try simp (disch := omega) only [wrapI, wrapU]
        refine hR _ _ (kq18 _ _ ?_); clear hR R; try clear kq18 kz18
        try simp only [go_sem, lkX_old hlt, lkX_at hd, hJ, hdr]
        refine W_region [0, 2, 3, 4, 6, 11, 12, 13, 23, 24] fun R hR => ?_   -- r13
        simp only [go_sem, lkX_old hlt, lkX_at hd, hJ, hdr]
        try simp (disch := omega) only [wrapI, wrapU]
        refine hR _ _ (kq8 _ _ ?_); clear hR R; try clear kq8 kz8
        try simp only [go_sem, lkX_old hlt, lkX_at hd, hJ, hdr]
        refine W_region [0, 2, 3, 4, 6, 11, 12, 13, 23, 24] fun R hR => ?_   -- r14
        simp only [go_sem, lkX_old hlt, lkX_at hd, hJ, hdr]
        try simp (disch := omega) only [wrapI, wrapU]
        refine hR _ _ ?_; clear hR R
        try simp only [go_sem, lkX_old hlt, lkX_at hd, hJ, hdr]
        refine ⟨(i + 1, pp.set i u, sm + u, mn + 1), ?_, by (try simp only []); omega, ?_⟩
        · refine Weak.trans (Weak.cutX 2 0 (by omega) (by omega) hcl (by simp only [go_sem] <;> omega) (by simp only [go_sem] <;> omega)) ?_
          simp only [go_sem]
          exact Weak.eq (by first | rfl | (simp only [go_sem]; done) | (simp only [go_sem]; rfl) | (simp [go_sem]; done) | (simp [go_sem]; omega)) (by first | rfl | (simp only [go_sem]; done) | (simp [go_sem]; done))
        · try dsimp only
          first
          | (rw [ha, if_pos rfl] at hps
             rw [hps]
             refine ⟨hiJ, hpl, fun q hq ha2 => ?_, hsm, hmn, hs1, by omega, by omega⟩
             rcases Nat.lt_succ_iff_lt_or_eq.1 hq with h | h
             · exact hpv q h ha2
             · subst h; rw [ha] at ha2; cases ha2)
          | (rw [ha, if_neg (by simp)] at hps
             rw [hps, List.map_append, sumI_append, List.length_append, ← hsm, ← hmn]
             rw [hmk] at hbi
             refine ⟨hiJ, by rw [List.length_set]; exact hpl, fun q hq ha2 => ?_, by simp only [List.map_cons, List.map_nil, sumI, hmk]; omega, rfl, by omega, by omega, by omega⟩
             rcases Nat.lt_succ_iff_lt_or_eq.1 hq with h | h
             · rw [List.getElem?_set_ne (by omega)]; exact hpv q h ha2
             · subst h; rw [hset, hmk])
  · -- c1 false
    try simp only [nrm] at c1
    have hie : J = i := by first | omega | (simp at c1; omega)
    subst hie
    refine W_exit ?_
    simp only [go_sem, lkX_old hlt, lkX_at hd, hJ, hdr]
    refine kq4 _ _ ?_
    refine W_seq fun kz19 kq19 => ?_
    refine W_seq fun kz20 kq20 => ?_
    refine W_region [0, 3, 6, 11, 12, 13, 56, 57] fun R hR => ?_   -- r15
    simp only [go_sem, lkX_old hlt, lkX_at hd, hJ, hdr]
    refine hR _ _ (kq20 _ _ ?_); clear hR R; try clear kq20 kz20
    try simp only [go_sem, lkX_old hlt, lkX_at hd, hJ, hdr]
    refine W_block ?_
    rw [← hpJ] at hsm hmn
    have hmn0 : ¬ ((mn : Int) = 0) := fun e => hp (List.eq_nil_of_length_eq_zero (by omega))
    have htd0 : sm.tdiv mn = mean := by rw [← hmean, meanM, ← hsm, ← hmn]
    have htd : IntKind.i64.wrap (sm.tdiv mn) = mean := by rw [htd0]; exact wrapI (by omega) (by omega)
    refine W_loopT (α := Nat × (List Int)) (fun ⟨j, pp⟩ => [(57, I j)]) (fun ⟨j, pp⟩ => σ.ext [some [I s.schools, I s.matters, I (J : Int), I (d : Int), I s.low, I s.high, ints s.order], some (pp.map I)] []) (fun ⟨j, pp⟩ => j ≤ J ∧ pp.length = 5 ∧ (∀ q : Nat, q < J → absentK k (m, (q : Int)) = false → pp[q]? = some (mkAt k sc m u q)) ∧ (∀ q : Nat, q < j → absentK k (m, (q : Int)) = true → pp[q]? = some mean)) (fun ⟨j, pp⟩ => J - j) ((0, pp)) rfl (by first | rfl | (simp only [go_sem]; done) | (simp only [go_sem]; rfl)) (⟨Nat.zero_le _, hpl, hpv, fun q hq => absurd hq (Nat.not_lt_zero _)⟩) ?_
    rintro ⟨j, pp⟩ ⟨hj, hpl2, hpv2, hpm⟩
    refine W_seq fun kz21 kq21 => ?_
    refine W_region [0, 3, 6, 11, 12, 13, 56, 57, 58] fun R hR => ?_   -- r16
    simp only [go_sem, lkX_old hlt, lkX_at hd, hJ, hdr]
    refine hR _ _ (kq21 _ _ ?_); clear hR R; try clear kq21 kz21
    try simp only [go_sem, lkX_old hlt, lkX_at hd, hJ, hdr]
    refine W_seq fun kz22 kq22 => ?_
    refine W_cond rfl (fun c4 => ?_) (fun c4 => ?_)
    · -- c4 true
      try simp only [nrm] at c4
      have hjJ : j < J := by first | omega | (simp at c4; omega)
      have hi5 : j < 5 := by omega
      have hI5 : (j : Int) < 5 := by omega
      have hi1 : j + 1 ≤ pp.length := by omega
      have hset : ∀ v : Int, (pp.set j v)[j]? = some v := fun v => by rw [List.getElem?_set_self (by omega)]
      refine W_skip (kq22 _ _ ?_)
      refine W_seq fun kz23 kq23 => ?_
      refine W_block ?_
      refine W_seq fun kz24 kq24 => ?_
      refine W_region [0, 3, 6, 11, 12, 13, 17, 56, 57] fun R hR => ?_   -- r17
      simp only [go_sem, lkX_old hlt, lkX_at hd, hJ, hdr]
      refine hR _ _ (kq24 _ _ ?_); clear hR R; try clear kq24 kz24
      try simp only [go_sem, lkX_old hlt, lkX_at hd, hJ, hdr]
      refine W_seq fun kz25 kq25 => ?_
      refine W_region [0, 3, 6, 11, 12, 13, 17, 56, 57, 64] fun R hR => ?_   -- r18
      simp only [go_sem, lkX_old hlt, lkX_at hd, hJ, hdr]
      refine GCall_of (absent_pc Y _ id k (get_extx hd) (m, (j : Int))) ?_   -- t64
      simp only [go_sem, lkX_old hlt, lkX_at hd, hJ, hdr]
      refine hR _ _ (kq25 _ _ ?_); clear hR R; try clear kq25 kz25
      try simp only [go_sem, lkX_old hlt, lkX_at hd, hJ, hdr]
      refine W_cond rfl (fun c5 => ?_) (fun c5 => ?_)
      · -- c5 true
        try simp only [nrm] at c5
        have ha : absentK k (m, (j : Int)) = true := c5
        refine W_region [0, 3, 6, 11, 12, 13, 56, 57] fun R hR => ?_   -- r19
        simp only [go_sem, lkX_old hlt, lkX_at hd, hJ, hdr, hI5, iaM_nat hi5, Nat.mul_one, Nat.zero_add, hi1, hmn0, htd]
        try simp (disch := omega) only [wrapI, wrapU]
        refine hR _ _ (kq23 _ _ ?_); clear hR R; try clear kq23 kz23
        try simp only [go_sem, lkX_old hlt, lkX_at hd, hJ, hdr]
        refine W_region [0, 3, 6, 11, 12, 13, 56, 57] fun R hR => ?_   -- r20
        simp only [go_sem, lkX_old hlt, lkX_at hd, hJ, hdr]
        try simp (disch := omega) only [wrapI, wrapU]
        refine hR _ _ ?_; clear hR R
        try simp only [go_sem, lkX_old hlt, lkX_at hd, hJ, hdr]
        refine ⟨(j + 1, pp.set j mean), ?_, by (try simp only []); omega, ?_⟩
        · first | exact Weak.refl | exact Weak.eq (by first | rfl | (simp only [go_sem]; done) | (simp only [go_sem]; rfl) | (simp [go_sem]; done) | (simp [go_sem]; omega)) (by first | rfl | (simp only [go_sem]; done) | (simp [go_sem]; done))
        · try dsimp only
          first
          | (refine ⟨hjJ, by rw [List.length_set]; exact hpl2, fun q hq ha2 => ?_, fun q hq ha2 => ?_⟩
             · rw [List.getElem?_set_ne (by rintro rfl; rw [ha] at ha2; cases ha2)]; exact hpv2 q hq ha2
             · rcases Nat.lt_succ_iff_lt_or_eq.1 hq with h | h
               · rw [List.getElem?_set_ne (by omega)]; exact hpm q h ha2
               · subst h; exact hset mean)
          | (refine ⟨hjJ, hpl2, hpv2, fun q hq ha2 => ?_⟩
             rcases Nat.lt_succ_iff_lt_or_eq.1 hq with h | h
             · exact hpm q h ha2
             · subst h; rw [ha] at ha2; cases ha2)
      · -- c5 false
        try simp only [nrm] at c5
        have ha : absentK k (m, (j : Int)) = false := by simpa using c5
        refine W_skip (kq23 _ _ ?_)
        refine W_region [0, 3, 6, 11, 12, 13, 56, 57] fun R hR => ?_   -- r20
        simp only [go_sem, lkX_old hlt, lkX_at hd, hJ, hdr]
        try simp (disch := omega) only [wrapI, wrapU]
        refine hR _ _ ?_; clear hR R
        try simp only [go_sem, lkX_old hlt, lkX_at hd, hJ, hdr]
        refine ⟨(j + 1, pp), ?_, by (try simp only []); omega, ?_⟩
        · first | exact Weak.refl | exact Weak.eq (by first | rfl | (simp only [go_sem]; done) | (simp only [go_sem]; rfl) | (simp [go_sem]; done) | (simp [go_sem]; omega)) (by first | rfl | (simp only [go_sem]; done) | (simp [go_sem]; done))
        · try dsimp only
          first
          | (refine ⟨hjJ, by rw [List.length_set]; exact hpl2, fun q hq ha2 => ?_, fun q hq ha2 => ?_⟩
             · rw [List.getElem?_set_ne (by rintro rfl; rw [ha] at ha2; cases ha2)]; exact hpv2 q hq ha2
             · rcases Nat.lt_succ_iff_lt_or_eq.1 hq with h | h
               · rw [List.getElem?_set_ne (by omega)]; exact hpm q h ha2
               · subst h; exact hset mean)
          | (refine ⟨hjJ, hpl2, hpv2, fun q hq ha2 => ?_⟩
             rcases Nat.lt_succ_iff_lt_or_eq.1 hq with h | h
             · exact hpm q h ha2
             · subst h; rw [ha] at ha2; cases ha2)
    · -- c4 false
      try simp only [nrm] at c4
      have hje : J = j := by first | omega | (simp at c4; omega)
      subst hje
      refine W_exit ?_
      simp only [go_sem, lkX_old hlt, lkX_at hd, hJ, hdr]
      refine kq19 _ _ ?_
      refine W_seq fun kz26 kq26 => ?_
      have hJ5 : J ≤ 5 := by omega
      have hJ1 : ¬ (0 = J) := by omega
      have hJ0 : (0 : Int) ≤ (J : Int) := by omega
      refine W_region [6, 18] fun R hR => ?_   -- r21
      simp only [go_sem, lkX_old hlt, lkX_at hd, hJ, hdr, sl142, Int.toNat_natCast, hJ5, hJ0, hJ1]
      refine GCall_of (values_pc Y _ (σ.store.length + 1) J) ?_   -- t74
      simp only [go_sem, lkX_old hlt, lkX_at hd, hJ, hdr, sl142, Int.toNat_natCast, hJ5, hJ0, hJ1]
      refine GCall_of (sorted_pc Y _ (σ.store.length + 2) (σ.store.length + 1) J pp (Sg.get_ext ..) (Sg.get_ext ..) (by omega) (by omega) (by omega)) ?_   -- t75
      simp only [go_sem, lkX_old hlt, lkX_at hd, hJ, hdr, sl142, Int.toNat_natCast, hJ5, hJ0, hJ1]
      refine hR _ _ (kq26 _ _ ?_); clear hR R; try clear kq26 kz26
      try simp only [go_sem, lkX_old hlt, lkX_at hd, hJ, hdr]
      refine W_seq fun kz27 kq27 => ?_
      refine W_region [6, 18, 19] fun R hR => ?_   -- r22
      simp only [go_sem, lkX_old hlt, lkX_at hd, hJ, hdr]
      refine hR _ _ (kq27 _ _ ?_); clear hR R; try clear kq27 kz27
      try simp only [go_sem, lkX_old hlt, lkX_at hd, hJ, hdr]
      refine W_seq fun kz28 kq28 => ?_
      refine W_seq fun kz29 kq29 => ?_
      have hd0 : (0 : Int) ≤ (d : Int) := by omega
      have hdl : d ≤ (sortI (pp.take J)).length := by rw [sortI_len, List.length_take]; omega
      refine W_region [19, 79, 80, 81] fun R hR => ?_   -- r23
      simp only [go_sem, lkX_old hlt, lkX_at hd, hJ, hdr, hd0, hdl]
      refine hR _ _ (kq29 _ _ ?_); clear hR R; try clear kq29 kz29
      try simp only [go_sem, lkX_old hlt, lkX_at hd, hJ, hdr]
      refine W_block ?_
      have hpan : pp.take J = panelM s k sc m u := panelM_eq hJ k sc m u (by omega) hpv2 (fun q hq ha2 => by rw [hmean]; exact hpm q hq ha2)
      simp only [hpan]
      obtain ⟨dl, hdl0⟩ : ∃ z, (sortI (panelM s k sc m u)).drop d = z := ⟨_, rfl⟩
      have hdb : ∀ x, x ∈ dl → 0 ≤ x ∧ x ≤ 100 := fun x hx => panelM_bd hv hk hu sc m x (mem_sortI.1 (List.mem_of_mem_drop (by rw [hdl0]; exact hx)))
      have hdl5 : dl.length ≤ 5 := by rw [← hdl0, List.length_drop, sortI_len, panelM_len hJ]; omega
      have hfin : pointsK s k sc m u = sumI dl := by unfold pointsK; rw [hdr, Int.toNat_natCast, hdl0]
      simp only [hdl0]
      refine W_loopS (α := Nat × Int) (fun ⟨e, t⟩ => [(19, I t), (81, I e)]) (fun ⟨e, t⟩ => e ≤ dl.length ∧ sumI dl = t + sumI (dl.drop e) ∧ 0 ≤ t ∧ t ≤ 100 * (e : Int)) (fun ⟨e, t⟩ => dl.length - e) ((0, 0)) rfl (⟨Nat.zero_le _, by simp, Int.le_refl _, Int.le_refl _⟩) ?_
      rintro ⟨e, t⟩ ⟨he, hinv, ht1, ht2⟩
      refine W_seq fun kz30 kq30 => ?_
      refine W_region [19, 79, 80, 81, 82] fun R hR => ?_   -- r24
      simp only [go_sem, lkX_old hlt, lkX_at hd, hJ, hdr]
      refine hR _ _ (kq30 _ _ ?_); clear hR R; try clear kq30 kz30
      try simp only [go_sem, lkX_old hlt, lkX_at hd, hJ, hdr]
      refine W_seq fun kz31 kq31 => ?_
      refine W_cond rfl (fun c6 => ?_) (fun c6 => ?_)
      · -- c6 true
        try simp only [nrm] at c6
        have he' : e < dl.length := by first | assumption | omega
        obtain ⟨x, hx⟩ : ∃ x, dl[e]? = some x := ⟨dl[e], by simp [he']⟩
        have hdrop : dl.drop e = x :: dl.drop (e + 1) := by
          rw [List.drop_eq_getElem_cons he']; congr 1; exact (List.getElem?_eq_some_iff.1 hx).2
        have hxb := hdb x (List.mem_of_getElem? hx)
        rw [hdrop] at hinv
        simp only [sumI] at hinv
        refine W_skip (kq31 _ _ ?_)
        refine W_seq fun kz32 kq32 => ?_
        refine W_block ?_
        refine W_seq fun kz33 kq33 => ?_
        refine W_region [19, 21, 79, 80, 81] fun R hR => ?_   -- r25
        simp only [go_sem, lkX_old hlt, lkX_at hd, hJ, hdr, hx]
        refine hR _ _ (kq33 _ _ ?_); clear hR R; try clear kq33 kz33
        try simp only [go_sem, lkX_old hlt, lkX_at hd, hJ, hdr, hx]
        refine W_region [19, 79, 80, 81] fun R hR => ?_   -- r26
        simp only [go_sem, lkX_old hlt, lkX_at hd, hJ, hdr, hx]
        try simp (disch := omega) only [wrapI, wrapU]
        refine hR _ _ (kq32 _ _ ?_); clear hR R; try clear kq32 kz32
        try simp only [go_sem, lkX_old hlt, lkX_at hd, hJ, hdr, hx]
        refine W_region [19, 79, 80, 81] fun R hR => ?_   -- r27
        simp only [go_sem, lkX_old hlt, lkX_at hd, hJ, hdr, hx]
        try simp (disch := omega) only [wrapI, wrapU]
        refine hR _ _ ?_; clear hR R
        try simp only [go_sem, lkX_old hlt, lkX_at hd, hJ, hdr, hx]
        refine ⟨(e + 1, t + x), ?_, by (try simp only []); omega, ?_⟩
        · first | exact Weak.refl | exact Weak.eq (by first | rfl | (simp only [go_sem]; done) | (simp only [go_sem]; rfl) | (simp [go_sem]; done) | (simp [go_sem]; omega)) (by first | rfl | (simp only [go_sem]; done) | (simp [go_sem]; done))
        · try dsimp only
          exact ⟨he', by omega, by omega, by omega⟩
      · -- c6 false
        try simp only [nrm] at c6
        have hdrop : dl.drop e = [] := List.drop_eq_nil_of_le (by omega)
        rw [hdrop] at hinv
        simp only [sumI] at hinv
        refine W_exit ?_
        simp only [go_sem, lkX_old hlt, lkX_at hd, hJ, hdr]
        refine kq28 _ _ ?_
        refine W_seq fun kz34 kq34 => ?_
        refine W_region [10] fun R hR => ?_   -- r28
        simp only [go_sem, lkX_old hlt, lkX_at hd, hJ, hdr]
        refine hR _ _ (kq34 _ _ ?_); clear hR R; try clear kq34 kz34
        try simp only [go_sem, lkX_old hlt, lkX_at hd, hJ, hdr]
        refine W_ret ?_
        simp only [go_sem, lkX_old hlt, lkX_at hd, hJ, hdr]
        refine ⟨.inr (by trivial), ?_⟩
        first | refine Fin_same hcl rfl (Wk_eq ?_ (by simp only [go_sem])) | refine Fin_self hcl rfl (Wk_eq ?_ (by simp only [go_sem]))
        try simp only [go_sem]
        all_goals
          rw [hfin, hinv, Int.add_zero]
end Go.Proofs.YtgelnjmddabgpaaGreat
namespace Go.Proofs.YtgelnjmddabgpaaGreat
open Go Go.RowKit
set_option maxRecDepth 100000
attribute [go_sem] List.length_range
theorem short_pres {s : Scale} {k : Kn} (h : shortK s k = false) {M m : Nat} (hM : s.matters = M) (hm : m < M) : presJ s k m ≠ [] := by
  intro e
  have hall : ∀ n, n ∈ toI s.judges → absentK k ((m : Int), n) = true := fun n hn => by
    have : n ∉ presJ s k m := by rw [e]; simp
    simp only [presJ, List.mem_filter, not_and, Bool.not_eq_true', Bool.not_eq_false] at this
    exact this hn
  have : shortK s k = true := by
    simp only [shortK, List.any_eq_true, List.all_eq_true]
    exact ⟨(m : Int), by rw [toI, hM, Int.toNat_natCast]; exact List.mem_map.2 ⟨m, List.mem_range.2 hm, rfl⟩, hall⟩
  rw [h] at this
  cases this
/-- What standings are made of. -/
structure KnV (s : Scale) (k : Kn) (g : Night) : Prop where
  v : s.V
  ok : KnOk s k
  sh : shortK s k = false
  fl : g.fines.length ≤ 10
  fi : ∀ f, f ∈ g.fines → (0 ≤ f.1 ∧ f.1 ≤ s.schools - 1) ∧ 0 ≤ f.2 ∧ f.2 ≤ 1000
def ptsUp (s : Scale) (k : Kn) (sc u : Int) (i : Nat) : List Int := (List.range i).map fun (m : Nat) => pointsK s k sc m u
theorem ptsUp_succ (s : Scale) (k : Kn) (sc u : Int) (i : Nat) : ptsUp s k sc u (i + 1) = ptsUp s k sc u i ++ [pointsK s k sc i u] := by simp [ptsUp, List.range_succ]
theorem ptsUp_all {s : Scale} {M : Nat} (hM : s.matters = M) (k : Kn) (sc u : Int) : ptsUp s k sc u M = pointsL s k sc u := by
  simp only [ptsUp, pointsL, toI, hM, Int.toNat_natCast, List.map_map]
  rfl
theorem finesOf_cons (f : Int × Int) (l : List (Int × Int)) (sc : Int) : finesOf (f :: l) sc = (if f.1 = sc then f.2 else 0) + finesOf l sc := rfl
def rulesL (f63 f64 f65 : Nat) (L n : Nat) : List PV := .func (.func f63) [] [.ptr (L + 2) 0, .ptr (L + 1) 0] :: ((List.range n).map (fun j => PV.func (.func f64) [] [.ptr (L + 2) 0, .ptr (L + (j + 1 + 1 + 1)) 0, .ptr (L + 1) 0]) ++ [.func (.func f65) [] [.ptr (L + 1) 0, .ptr (L + 2) 0]])
theorem firstNZ_drop {l : List Int} {i : Nat} {x : Int} (hx : l[i]? = some x) : firstNZ (l.drop i) = if x ≠ 0 then x else firstNZ (l.drop (i + 1)) := by
  have hi := (List.getElem?_eq_some_iff.1 hx).1
  rw [List.drop_eq_getElem_cons hi, (List.getElem?_eq_some_iff.1 hx).2]
  rfl
set_option maxHeartbeats 4000000 in
theorem standing_pc (Y : YEnv) (σ : Sg) (id : Nat) (k : Kn) (hd : σ.store[id]? = some (some (.mark :: knE k))) (s : Scale) (g : Night) (hV : KnV s k g) (sc : Nat) (hsc : (sc : Int) < s.schools) (u : Int) (hu : 0 ≤ u ∧ u ≤ 100) :
    PC Tryz.prog Y 58 [.map id, scPV s, ngPV g, I sc, I u] σ (sdPV (standK s k g sc u)) (σ) := by
  refine PC_of_W Tryz.func58 rfl (by kernel_rfl) Tryz.ntmps58 (by simp) fun hcl hca => ?_
  have hv := hV.v
  have q1 := hv.mt
  obtain ⟨M, hM⟩ : ∃ z : Nat, s.matters = z := ⟨s.matters.toNat, by omega⟩
  have hfl := hV.fl
  have hfi := hV.fi
  have hMi : (s.matters : Int) = (M : Int) := hM
  refine W_seq fun kz1 kq1 => ?_
  refine W_region [0, 3, 4, 6, 7, 10] fun R hR => ?_   -- r0
  simp only [go_sem]
  refine hR _ _ (kq1 _ _ ?_); clear hR R; try clear kq1 kz1
  try simp only [go_sem]
  refine W_seq fun kz2 kq2 => ?_
  refine W_region [0, 3, 4, 6, 7, 10, 11] fun R hR => ?_   -- r1
  simp only [go_sem]
  refine hR _ _ (kq2 _ _ ?_); clear hR R; try clear kq2 kz2
  try simp only [go_sem]
  refine W_seq fun kz3 kq3 => ?_
  refine W_seq fun kz4 kq4 => ?_
  refine W_region [0, 3, 4, 6, 7, 10, 11, 19, 20] fun R hR => ?_   -- r2
  simp only [go_sem]
  refine hR _ _ (kq4 _ _ ?_); clear hR R; try clear kq4 kz4
  try simp only [go_sem]
  refine W_block ?_
  refine W_weak (Weak.roomX (j := 3) (off := 2) (es := 1) rfl rfl (by simp)) ?_
  simp only [go_sem]
  refine W_loopT (α := Nat × Int) (fun ⟨i, tot⟩ => [(20, I i)]) (fun ⟨i, tot⟩ => σ.ext [some (scCells s), some (ngCells g), some [I 0, I 0, .isl [] .exact], some [I sc, I tot, .isl ((ptsUp s k sc u i).map I) (.tok σ.rooms.length i 1)]] [i]) (fun ⟨i, tot⟩ => i ≤ M ∧ tot = sumI (ptsUp s k sc u i) ∧ 0 ≤ tot ∧ tot ≤ 500 * (i : Int)) (fun ⟨i, tot⟩ => M - i) ((0, 0)) rfl (by first | rfl | (simp only [go_sem]; done) | (simp only [go_sem]; rfl)) (⟨Nat.zero_le _, rfl, Int.le_refl _, Int.le_refl _⟩) ?_
  rintro ⟨i, tot⟩ ⟨hi, ht, ht1, ht2⟩
  have hpl : (ptsUp s k sc u i).length = i := by simp [ptsUp]
  refine W_seq fun kz5 kq5 => ?_
  refine W_region [0, 3, 4, 6, 7, 10, 11, 19, 20, 21] fun R hR => ?_   -- r3
  simp only [go_sem]
  refine hR _ _ (kq5 _ _ ?_); clear hR R; try clear kq5 kz5
  try simp only [go_sem]
  refine W_seq fun kz6 kq6 => ?_
  refine W_cond rfl (fun c1 => ?_) (fun c1 => ?_)
  · -- c1 true
    try simp only [nrm] at c1
    have hiM : i < M := by first | omega | (simp at c1; omega)
    have hpb := points_bd hv hV.ok hu sc i
    have hsu := ptsUp_succ s k sc u i
    have hpok : okC 1 ((ptsUp s k sc u i).map I) = True := by simp only [go_sem]
    refine W_skip (kq6 _ _ ?_)
    refine W_seq fun kz7 kq7 => ?_
    refine W_block ?_
    refine W_seq fun kz8 kq8 => ?_
    refine W_region [0, 3, 4, 6, 7, 10, 11, 12, 19, 20] fun R hR => ?_   -- r4
    simp only [go_sem]
    refine hR _ _ (kq8 _ _ ?_); clear hR R; try clear kq8 kz8
    try simp only [go_sem]
    refine W_seq fun kz9 kq9 => ?_
    refine W_region [0, 3, 4, 6, 7, 10, 11, 13, 19, 20] fun R hR => ?_   -- r5
    simp only [go_sem]
    refine GCall_of (points_pc Y _ id k (get_extx hd) s hv hV.ok sc hsc (i : Int) (short_pres hV.sh hM hiM) u hu) ?_   -- t28
    simp only [go_sem]
    refine hR _ _ (kq9 _ _ ?_); clear hR R; try clear kq9 kz9
    try simp only [go_sem]
    refine W_seq fun kz10 kq10 => ?_
    refine W_region [0, 3, 4, 6, 7, 10, 11, 13, 19, 20] fun R hR => ?_   -- r6
    simp only [go_sem]
    try simp (disch := first | omega | (simp only [go_sem] <;> omega)) only [wrapI, wrapU, appX_exact, appX_tok]
    try simp only [go_sem]
    refine hR _ _ (kq10 _ _ ?_); clear hR R; try clear kq10 kz10
    try simp only [go_sem]
    refine W_region [0, 3, 4, 6, 7, 10, 11, 19, 20] fun R hR => ?_   -- r7
    simp only [go_sem]
    try simp (disch := omega) only [wrapI, wrapU]
    refine hR _ _ (kq7 _ _ ?_); clear hR R; try clear kq7 kz7
    try simp only [go_sem]
    refine W_region [0, 3, 4, 6, 7, 10, 11, 19, 20] fun R hR => ?_   -- r8
    simp only [go_sem]
    try simp (disch := omega) only [wrapI, wrapU]
    refine hR _ _ ?_; clear hR R
    try simp only [go_sem]
    refine ⟨(i + 1, tot + pointsK s k sc i u), ?_, by (try simp only []); omega, ?_⟩
    · refine Weak.eq (by first | rfl | (simp only [go_sem]; done) | (simp [go_sem]; done)) ?_
      simp only [go_sem, hsu, List.map_append]
    · try dsimp only
      rw [hsu, sumI_append, ← ht]
      exact ⟨hiM, by simp [sumI], by omega, by omega⟩
  · -- c1 false
    try simp only [nrm] at c1
    have hie : M = i := by first | omega | (simp at c1; omega)
    subst hie
    rw [ptsUp_all hM] at ht
    refine W_exit ?_
    simp only [go_sem]
    refine kq3 _ _ ?_
    refine W_seq fun kz11 kq11 => ?_
    refine W_seq fun kz12 kq12 => ?_
    refine W_region [3, 10, 11, 42, 43, 44] fun R hR => ?_   -- r9
    simp only [go_sem]
    refine hR _ _ (kq12 _ _ ?_); clear hR R; try clear kq12 kz12
    try simp only [go_sem]
    refine W_block ?_
    simp only [ptsUp_all hM]
    refine W_loopT (α := Nat × Int) (fun ⟨j, t2⟩ => [(44, I j)]) (fun ⟨j, t2⟩ => σ.ext [some (scCells s), some (ngCells g), some [I 0, I 0, .isl [] .exact], some [I sc, I t2, .isl ((pointsL s k sc u).map I) (.tok σ.rooms.length M 1)]] [M]) (fun ⟨j, t2⟩ => j ≤ g.fines.length ∧ tot - finesOf g.fines sc = t2 - finesOf (g.fines.drop j) sc ∧ -1000 * (j : Int) ≤ t2 ∧ t2 ≤ 3000) (fun ⟨j, t2⟩ => g.fines.length - j) ((0, tot)) rfl (by first | rfl | (simp only [go_sem]; done) | (simp only [go_sem]; rfl)) (⟨Nat.zero_le _, rfl, by omega, by omega⟩) ?_
    rintro ⟨j, t2⟩ ⟨hj, hinv, ht3, ht4⟩
    refine W_seq fun kz13 kq13 => ?_
    refine W_region [3, 10, 11, 42, 43, 44, 45] fun R hR => ?_   -- r10
    simp only [go_sem]
    refine hR _ _ (kq13 _ _ ?_); clear hR R; try clear kq13 kz13
    try simp only [go_sem]
    refine W_seq fun kz14 kq14 => ?_
    refine W_cond rfl (fun c2 => ?_) (fun c2 => ?_)
    · -- c2 true
      try simp only [nrm] at c2
      have hj' : j < g.fines.length := by first | assumption | omega
      obtain ⟨f, hx⟩ : ∃ f, g.fines[j]? = some f := ⟨g.fines[j], by simp [hj']⟩
      have hdrop : g.fines.drop j = f :: g.fines.drop (j + 1) := by
        rw [List.drop_eq_getElem_cons hj']; congr 1; exact (List.getElem?_eq_some_iff.1 hx).2
      have hfb := hfi f (List.mem_of_getElem? hx)
      rw [hdrop, finesOf_cons] at hinv
      refine W_skip (kq14 _ _ ?_)
      refine W_seq fun kz15 kq15 => ?_
      refine W_block ?_
      refine W_seq fun kz16 kq16 => ?_
      refine W_region [3, 10, 11, 15, 42, 43, 44] fun R hR => ?_   -- r11
      simp only [go_sem, hx]
      refine hR _ _ (kq16 _ _ ?_); clear hR R; try clear kq16 kz16
      try simp only [go_sem, hx]
      refine W_seq fun kz17 kq17 => ?_
      refine W_region [3, 10, 11, 15, 42, 43, 44, 51] fun R hR => ?_   -- r12
      simp only [go_sem, hx]
      refine hR _ _ (kq17 _ _ ?_); clear hR R; try clear kq17 kz17
      try simp only [go_sem, hx]
      refine W_cond rfl (fun c3 => ?_) (fun c3 => ?_)
      · -- c3 true
        try simp only [nrm] at c3
        refine W_region [3, 10, 11, 42, 43, 44] fun R hR => ?_   -- r13
        simp only [go_sem, hx]
        try simp (disch := omega) only [wrapI, wrapU]
        refine hR _ _ (kq15 _ _ ?_); clear hR R; try clear kq15 kz15
        try simp only [go_sem, hx]
        refine W_region [3, 10, 11, 42, 43, 44] fun R hR => ?_   -- r14
        simp only [go_sem, hx]
        try simp (disch := omega) only [wrapI, wrapU]
        refine hR _ _ ?_; clear hR R
        try simp only [go_sem, hx]
        refine ⟨(j + 1, t2 - f.2), ?_, by (try simp only []); omega, ?_⟩
        · refine Weak.trans (Weak.cutX 4 1 (by omega) (by omega) hcl (by simp only [go_sem] <;> omega) (by simp only [go_sem] <;> omega)) ?_
          simp only [go_sem]
          exact Weak.eq (by first | rfl | (simp only [go_sem]; done) | (simp only [go_sem]; rfl) | (simp [go_sem]; done) | (simp [go_sem]; omega)) (by first | rfl | (simp only [go_sem]; done) | (simp [go_sem]; done))
        · try dsimp only
          first
          | (rw [if_pos c3] at hinv; exact ⟨hj', by omega, by omega, by omega⟩)
          | (rw [if_neg c3] at hinv; exact ⟨hj', by omega, by omega, by omega⟩)
      · -- c3 false
        try simp only [nrm] at c3
        refine W_skip (kq15 _ _ ?_)
        refine W_region [3, 10, 11, 42, 43, 44] fun R hR => ?_   -- r14
        simp only [go_sem, hx]
        try simp (disch := omega) only [wrapI, wrapU]
        refine hR _ _ ?_; clear hR R
        try simp only [go_sem, hx]
        refine ⟨(j + 1, t2), ?_, by (try simp only []); omega, ?_⟩
        · refine Weak.trans (Weak.cutX 4 1 (by omega) (by omega) hcl (by simp only [go_sem] <;> omega) (by simp only [go_sem] <;> omega)) ?_
          simp only [go_sem]
          exact Weak.eq (by first | rfl | (simp only [go_sem]; done) | (simp only [go_sem]; rfl) | (simp [go_sem]; done) | (simp [go_sem]; omega)) (by first | rfl | (simp only [go_sem]; done) | (simp [go_sem]; done))
        · try dsimp only
          first
          | (rw [if_pos c3] at hinv; exact ⟨hj', by omega, by omega, by omega⟩)
          | (rw [if_neg c3] at hinv; exact ⟨hj', by omega, by omega, by omega⟩)
    · -- c2 false
      try simp only [nrm] at c2
      have hdrop : g.fines.drop j = [] := List.drop_eq_nil_of_le (by omega)
      rw [hdrop] at hinv
      have hst : standK s k g sc u = ⟨sc, t2, pointsL s k sc u⟩ := by
        simp only [standK, ← ht, hinv]
        simp [finesOf, sumI]
      refine W_exit ?_
      simp only [go_sem]
      refine kq11 _ _ ?_
      refine W_seq fun kz18 kq18 => ?_
      refine W_region [10] fun R hR => ?_   -- r15
      simp only [go_sem]
      refine hR _ _ (kq18 _ _ ?_); clear hR R; try clear kq18 kz18
      try simp only [go_sem]
      refine W_ret ?_
      simp only [go_sem]
      refine ⟨.inr (by trivial), ?_⟩
      rw [hst]; refine Fin_same hcl (by show resPV Tryz.prog _ _ [.cell 10 55] = some _; simp only [resPV, go_sem]; rfl) (Wk.ro (by simp only [go_sem]) ?_)
      try simp only [go_sem]
      all_goals
        simp only [go_sem]
set_option maxHeartbeats 2000000 in
theorem cmp1_pc (Y : YEnv) (σ : Sg) (ia ib : Nat) (a b : Stand) (ha : σ.store[ia]? = some (some (sdCells a))) (hb : σ.store[ib]? = some (some (sdCells b))) (h1 : -2 ^ 40 ≤ a.total ∧ a.total ≤ 2 ^ 40) (h2 : -2 ^ 40 ≤ b.total ∧ b.total ≤ 2 ^ 40) :
    PC Tryz.prog Y 83 [.ptr ib 0, .ptr ia 0] σ (I (b.total - a.total)) (σ) := by
  refine PC_of_W Tryz.func83 rfl (by kernel_rfl) Tryz.ntmps83 (by simp) fun hcl hca => ?_
  refine W_seq fun kz1 kq1 => ?_
  refine W_region [0, 1] fun R hR => ?_   -- r0
  simp only [go_sem, ldS_at ha, ldS_at hb]
  refine hR _ _ (kq1 _ _ ?_); clear hR R; try clear kq1 kz1
  try simp only [go_sem, ldS_at ha, ldS_at hb]
  refine W_seq fun kz2 kq2 => ?_
  refine W_region [2] fun R hR => ?_   -- r1
  simp only [go_sem, ldS_at ha, ldS_at hb]
  try simp (disch := omega) only [wrapI, wrapU]
  refine hR _ _ (kq2 _ _ ?_); clear hR R; try clear kq2 kz2
  try simp only [go_sem, ldS_at ha, ldS_at hb]
  refine W_ret ?_
  simp only [go_sem, ldS_at ha, ldS_at hb]
  refine ⟨.inr (by trivial), ?_⟩
  first | refine Fin_same hcl rfl (Wk_eq ?_ (by simp only [go_sem])) | refine Fin_self hcl rfl (Wk_eq ?_ (by simp only [go_sem]))
  try simp only [go_sem]
  all_goals
    first | rfl | (simp_all; done) | (simp_all; omega)
set_option maxHeartbeats 2000000 in
theorem cmp2_pc (Y : YEnv) (σ : Sg) (ia ib : Nat) (a b : Stand) (ha : σ.store[ia]? = some (some (sdCells a))) (hb : σ.store[ib]? = some (some (sdCells b))) (im m : Nat) (hm : σ.store[im]? = some (some [I m])) (pa pb : Int) (hpa : a.points[m]? = some pa) (hpb : b.points[m]? = some pb) (h1 : -2 ^ 40 ≤ pa ∧ pa ≤ 2 ^ 40) (h2 : -2 ^ 40 ≤ pb ∧ pb ≤ 2 ^ 40) :
    PC Tryz.prog Y 84 [.ptr ib 0, .ptr im 0, .ptr ia 0] σ (I (pb - pa)) (σ) := by
  refine PC_of_W Tryz.func84 rfl (by kernel_rfl) Tryz.ntmps84 (by simp) fun hcl hca => ?_
  refine W_seq fun kz1 kq1 => ?_
  refine W_region [0, 1, 2] fun R hR => ?_   -- r0
  simp only [go_sem, ldS_at ha, ldS_at hb, ldS_at hm, hpa, hpb]
  refine hR _ _ (kq1 _ _ ?_); clear hR R; try clear kq1 kz1
  try simp only [go_sem, ldS_at ha, ldS_at hb, ldS_at hm, hpa, hpb]
  refine W_seq fun kz2 kq2 => ?_
  refine W_draw [3] [0, 1, 2, 3, 4, 5, 6, 7, 8, 9, 10, 11] [] [[], [0], [], [0, 1, 2], [0, 1, 2, 3], [], [5], [], [5, 6, 7], [5, 6, 7, 8], [0, 1, 2, 3, 4, 5, 6, 7, 8, 9], [0, 1, 2, 3, 4, 5, 6, 7, 8, 9, 10]] mixed (by kernel_rfl) fun R hR => ?_   -- r1
  simp only [go_sem, ldS_at ha, ldS_at hb, ldS_at hm, hpa, hpb]
  try simp (disch := omega) only [wrapI, wrapU]
  try refine And.intro (by repeat' (first | refine And.intro ?_ ?_ | exact GOr_right (fun _ => by simp only [go_sem, ldS_at ha, ldS_at hb, ldS_at hm, hpa, hpb]))) ?_
  refine hR _ _ (kq2 _ _ ?_); clear hR R; try clear kq2 kz2
  try simp only [go_sem, ldS_at ha, ldS_at hb, ldS_at hm, hpa, hpb]
  refine W_ret ?_
  simp only [go_sem, ldS_at ha, ldS_at hb, ldS_at hm, hpa, hpb]
  refine ⟨.inr (by trivial), ?_⟩
  first | refine Fin_same hcl rfl (Wk_eq ?_ (by simp only [go_sem])) | refine Fin_self hcl rfl (Wk_eq ?_ (by simp only [go_sem]))
  try simp only [go_sem]
  all_goals
    first | rfl | (simp_all; done) | (simp_all; omega)
set_option maxHeartbeats 2000000 in
theorem cmp3_pc (Y : YEnv) (σ : Sg) (ia ib : Nat) (a b : Stand) (ha : σ.store[ia]? = some (some (sdCells a))) (hb : σ.store[ib]? = some (some (sdCells b))) (h1 : -2 ^ 40 ≤ a.school ∧ a.school ≤ 2 ^ 40) (h2 : -2 ^ 40 ≤ b.school ∧ b.school ≤ 2 ^ 40) :
    PC Tryz.prog Y 85 [.ptr ia 0, .ptr ib 0] σ (I (a.school - b.school)) (σ) := by
  refine PC_of_W Tryz.func85 rfl (by kernel_rfl) Tryz.ntmps85 (by simp) fun hcl hca => ?_
  refine W_seq fun kz1 kq1 => ?_
  refine W_region [0, 1] fun R hR => ?_   -- r0
  simp only [go_sem, ldS_at ha, ldS_at hb]
  refine hR _ _ (kq1 _ _ ?_); clear hR R; try clear kq1 kz1
  try simp only [go_sem, ldS_at ha, ldS_at hb]
  refine W_seq fun kz2 kq2 => ?_
  refine W_region [2] fun R hR => ?_   -- r1
  simp only [go_sem, ldS_at ha, ldS_at hb]
  try simp (disch := omega) only [wrapI, wrapU]
  refine hR _ _ (kq2 _ _ ?_); clear hR R; try clear kq2 kz2
  try simp only [go_sem, ldS_at ha, ldS_at hb]
  refine W_ret ?_
  simp only [go_sem, ldS_at ha, ldS_at hb]
  refine ⟨.inr (by trivial), ?_⟩
  first | refine Fin_same hcl rfl (Wk_eq ?_ (by simp only [go_sem])) | refine Fin_self hcl rfl (Wk_eq ?_ (by simp only [go_sem]))
  try simp only [go_sem]
  all_goals
    first | rfl | (simp_all; done) | (simp_all; omega)
/-- Standings that can be compared. -/
structure CmpOk (ord : List Int) (a b : Stand) : Prop where
  ta : -2 ^ 40 ≤ a.total ∧ a.total ≤ 2 ^ 40
  tb : -2 ^ 40 ≤ b.total ∧ b.total ≤ 2 ^ 40
  sa : -2 ^ 40 ≤ a.school ∧ a.school ≤ 2 ^ 40
  sb : -2 ^ 40 ≤ b.school ∧ b.school ≤ 2 ^ 40
  pt : ∀ m, m ∈ ord → ∃ (i : Nat) (pa pb : Int), m = i ∧ a.points[i]? = some pa ∧ b.points[i]? = some pb ∧ (-2 ^ 40 ≤ pa ∧ pa ≤ 2 ^ 40) ∧ (-2 ^ 40 ≤ pb ∧ pb ≤ 2 ^ 40)
theorem rulesL_pc (Y : YEnv) (σ : Sg) (ord : List Int) (a b : Stand) (h : CmpOk ord a b) (i : Nat) (p : PV) (hp : (rulesL 83 84 85 σ.store.length ord.length)[i]? = some p) :
    ∃ f cs v, p = .func (.func f) [] cs ∧ (cmpRules ord a b)[i]? = some v ∧ PC Tryz.prog Y f cs (σ.ext (some [ints ord] :: some (sdCells a) :: some (sdCells b) :: ord.map fun m => some [I m]) [ord.length + 2]) (I v) (σ.ext (some [ints ord] :: some (sdCells a) :: some (sdCells b) :: ord.map fun m => some [I m]) [ord.length + 2]) := by
  have ga : (σ.ext (some [ints ord] :: some (sdCells a) :: some (sdCells b) :: ord.map fun m => some [I m]) [ord.length + 2]).store[σ.store.length + 1]? = some (some (sdCells a)) := by rw [Sg.get_ext]; rfl
  have gb : (σ.ext (some [ints ord] :: some (sdCells a) :: some (sdCells b) :: ord.map fun m => some [I m]) [ord.length + 2]).store[σ.store.length + 2]? = some (some (sdCells b)) := by rw [Sg.get_ext]; rfl
  unfold rulesL at hp
  cases i with
  | zero =>
    simp only [List.getElem?_cons_zero, Option.some.injEq] at hp
    exact ⟨_, _, _, hp.symm, rfl, cmp1_pc Y _ _ _ a b ga gb h.ta h.tb⟩
  | succ i =>
    simp only [List.getElem?_cons_succ] at hp
    by_cases hi : i < ord.length
    · rw [List.getElem?_append_left (by simpa using hi)] at hp
      simp only [List.getElem?_map, List.getElem?_range hi, Option.map_some, Option.some.injEq] at hp
      obtain ⟨m, pa, pb, e, e1, e2, e3, e4⟩ := h.pt ord[i] (List.getElem_mem hi)
      have gm : (σ.ext (some [ints ord] :: some (sdCells a) :: some (sdCells b) :: ord.map fun m => some [I m]) [ord.length + 2]).store[σ.store.length + (i + 1 + 1 + 1)]? = some (some [I (m : Int)]) := by
        rw [Sg.get_ext]; simp [hi, e]
      refine ⟨_, _, pb - pa, hp.symm, ?_, cmp2_pc Y _ _ _ a b ga gb _ m gm pa pb e1 e2 e3 e4⟩
      have : (ord.map (fun m => ptAt b m - ptAt a m) ++ [a.school - b.school])[i]? = some (pb - pa) := by
        rw [List.getElem?_append_left (by simpa using hi)]
        simp [hi, e, ptAt, e1, e2]
      simp only [cmpRules, List.getElem?_cons_succ]
      exact this
    · have hlen := (List.getElem?_eq_some_iff.1 hp).1
      simp at hlen
      have hie : i = ord.length := by omega
      subst hie
      rw [List.getElem?_append_right (by simp)] at hp
      simp at hp
      refine ⟨_, _, a.school - b.school, hp.symm, ?_, cmp3_pc Y _ _ _ a b ga gb h.sa h.sb⟩
      simp only [cmpRules, List.getElem?_cons_succ]
      rw [List.getElem?_append_right (by simp)]
      simp
set_option maxHeartbeats 4000000 in
theorem compare_pc (Y : YEnv) (σ : Sg) (ord : List Int) (a b : Stand) (h : CmpOk ord a b) (hl : ord.length < 2 ^ 40) :
    PC Tryz.prog Y 59 [.agg [ints ord], sdPV a, sdPV b] σ (I (cmpSt ord a b)) (σ) := by
  refine PC_of_W Tryz.func59 rfl (by kernel_rfl) Tryz.ntmps59 (by simp) fun hcl hca => ?_
  have hrp := rulesL_pc Y σ ord a b h
  refine W_seq fun kz1 kq1 => ?_
  refine W_region [3, 4, 5] fun R hR => ?_   -- r0
  simp only [go_sem, List.length_range]
  refine hR _ _ (kq1 _ _ ?_); clear hR R; try clear kq1 kz1
  try simp only [go_sem, List.length_range]
  refine W_seq fun kz2 kq2 => ?_
  refine W_region [3, 4, 5, 7] fun R hR => ?_   -- r1
  simp only [go_sem, List.length_range]
  refine hR _ _ (kq2 _ _ ?_); clear hR R; try clear kq2 kz2
  try simp only [go_sem, List.length_range]
  refine W_seq fun kz3 kq3 => ?_
  refine W_seq fun kz4 kq4 => ?_
  refine W_region [4, 5, 7, 16, 17, 18] fun R hR => ?_   -- r2
  simp only [go_sem, List.length_range]
  refine hR _ _ (kq4 _ _ ?_); clear hR R; try clear kq4 kz4
  try simp only [go_sem, List.length_range]
  refine W_block ?_
  refine W_weak (Weak.room (t := 7) (es := 1) rfl (by simp)) ?_
  refine W_weak (Weak.keep [4, 5, 7, 16, 17, 18]) ?_
  simp only [go_sem, List.length_range]
  refine W_loopT (α := Nat) (fun (i : Nat) => [(7, .isl (.func (.func 83) [] [.ptr (σ.store.length + 2) 0, .ptr (σ.store.length + 1) 0] :: (List.range i).map (fun j => PV.func (.func 84) [] [.ptr (σ.store.length + 2) 0, .ptr (σ.store.length + (j + 1 + 1 + 1)) 0, .ptr (σ.store.length + 1) 0])) (.tok σ.rooms.length (i + 1) 1)), (18, I i)]) (fun (i : Nat) => σ.ext (some [ints ord] :: some (sdCells a) :: some (sdCells b) :: (ord.take i).map fun m => some [I m]) [i + 1]) (fun (i : Nat) => i ≤ ord.length) (fun (i : Nat) => ord.length - i) (0) rfl (by first | rfl | (simp only [go_sem]; done) | (simp only [go_sem]; rfl)) (Nat.zero_le _) ?_
  rintro i hi
  have htl : (ord.take i).length = i := by simp; omega
  have hsub0 : i - ((ord.take i).map (fun m => some [I m])).length = 0 := by simp; omega
  have hget : ∀ x : Option (List PV), ((ord.take i).map (fun m => some [I m]) ++ [x])[i]? = some x := fun x => by rw [List.getElem?_append_right (by simp; omega), hsub0]; rfl
  have hset2 : ∀ x y : Option (List PV), ((ord.take i).map (fun m => some [I m]) ++ [x]).set i y = (ord.take i).map (fun m => some [I m]) ++ [y] := fun x y => by rw [List.set_append_right _ _ (by simp; omega), hsub0]; rfl
  refine W_seq fun kz5 kq5 => ?_
  refine W_region [4, 5, 7, 16, 17, 18, 19] fun R hR => ?_   -- r3
  simp only [go_sem, List.length_range]
  refine hR _ _ (kq5 _ _ ?_); clear hR R; try clear kq5 kz5
  try simp only [go_sem, List.length_range]
  refine W_seq fun kz6 kq6 => ?_
  refine W_cond rfl (fun c1 => ?_) (fun c1 => ?_)
  · -- c1 true
    try simp only [nrm] at c1
    have hi' : i < ord.length := by first | assumption | omega
    obtain ⟨m, hx⟩ : ∃ m, ord[i]? = some m := ⟨ord[i], by simp [hi']⟩
    have hdrop : ord.drop i = m :: ord.drop (i + 1) := by
      rw [List.drop_eq_getElem_cons hi']; congr 1; exact (List.getElem?_eq_some_iff.1 hx).2
    have hsn := take_snoc hx
    have hrs : (List.range (i + 1)) = List.range i ++ [i] := List.range_succ
    refine W_skip (kq6 _ _ ?_)
    refine W_seq fun kz7 kq7 => ?_
    refine W_block ?_
    refine W_seq fun kz8 kq8 => ?_
    refine W_region [4, 5, 7, 9, 16, 17, 18] fun R hR => ?_   -- r4
    simp only [go_sem, List.length_range, hx, htl, hget, hset2]
    refine hR _ _ (kq8 _ _ ?_); clear hR R; try clear kq8 kz8
    try simp only [go_sem, List.length_range, hx, htl]
    refine W_region [4, 5, 7, 16, 17, 18] fun R hR => ?_   -- r5
    simp only [go_sem, List.length_range, hx, htl]
    try simp (disch := first | omega | (simp only [go_sem] <;> omega)) only [wrapI, wrapU, appX_exact, appX_tok]
    try simp only [go_sem, List.length_range, hx, htl]
    refine hR _ _ (kq7 _ _ ?_); clear hR R; try clear kq7 kz7
    try simp only [go_sem, List.length_range, hx, htl]
    refine W_region [4, 5, 7, 16, 17, 18] fun R hR => ?_   -- r6
    simp only [go_sem, List.length_range, hx, htl]
    try simp (disch := omega) only [wrapI, wrapU]
    refine hR _ _ ?_; clear hR R
    try simp only [go_sem, List.length_range, hx, htl]
    refine ⟨i + 1, ?_, by (try simp only []); omega, ?_⟩
    · refine Weak.eq ?_ ?_
      · simp [go_sem, hrs]
      · simp [go_sem, ← hsn]
    · try dsimp only
      exact hi'
  · -- c1 false
    try simp only [nrm] at c1
    have hie : ord.length = i := by first | omega | (simp at c1; omega)
    subst hie
    rw [List.take_length]
    refine W_exit ?_
    simp only [go_sem, List.length_range]
    refine kq3 _ _ ?_
    refine W_seq fun kz9 kq9 => ?_
    refine W_region [7] fun R hR => ?_   -- r7
    simp only [go_sem, List.length_range]
    try simp (disch := first | omega | (simp only [go_sem] <;> omega)) only [wrapI, wrapU, appX_exact, appX_tok]
    try simp only [go_sem, List.length_range]
    refine hR _ _ (kq9 _ _ ?_); clear hR R; try clear kq9 kz9
    try simp only [go_sem, List.length_range]
    refine W_seq fun kz10 kq10 => ?_
    refine W_seq fun kz11 kq11 => ?_
    refine W_region [31, 32, 33] fun R hR => ?_   -- r8
    simp only [go_sem, List.length_range]
    refine hR _ _ (kq11 _ _ ?_); clear hR R; try clear kq11 kz11
    try simp only [go_sem, List.length_range]
    refine W_block ?_
    obtain ⟨rl, hrl⟩ : ∃ z, rulesL 83 84 85 σ.store.length ord.length = z := ⟨_, rfl⟩
    have hrl0 := hrl
    unfold rulesL at hrl0
    have hrll : rl.length = ord.length + 2 := by rw [← hrl]; simp [rulesL]
    simp only [hrl0]
    rw [hrl] at hrp
    refine W_loopS (α := Nat) (fun (q : Nat) => [(33, I q)]) (fun (q : Nat) => q ≤ rl.length ∧ cmpSt ord a b = firstNZ ((cmpRules ord a b).drop q)) (fun (q : Nat) => rl.length - q) (0) rfl (⟨Nat.zero_le _, rfl⟩) ?_
    rintro q ⟨hq, hinv⟩
    refine W_seq fun kz12 kq12 => ?_
    refine W_region [31, 32, 33, 34] fun R hR => ?_   -- r9
    simp only [go_sem, List.length_range]
    refine hR _ _ (kq12 _ _ ?_); clear hR R; try clear kq12 kz12
    try simp only [go_sem, List.length_range]
    refine W_seq fun kz13 kq13 => ?_
    refine W_cond rfl (fun c2 => ?_) (fun c2 => ?_)
    · -- c2 true
      try simp only [nrm] at c2
      have hq' : q < rl.length := by first | omega | (simp at c2; omega)
      obtain ⟨p, hp⟩ : ∃ z, rl[q]? = some z := ⟨rl[q], by simp⟩
      obtain ⟨f, cs, v, rfl, hv, hpc⟩ := hrp q p hp
      rw [firstNZ_drop hv] at hinv
      have hia : iaX 1 rl (q : Int) = some (.eptr 1 rl q 0) := by
        have := iaX_map (f := id) (xs := rl) (c := 1) hp rfl
        simpa using this
      have hel : elS rl q 0 = some (.func (.func f) [] cs) := by simp [elS, hp]
      refine W_skip (kq13 _ _ ?_)
      refine W_seq fun kz14 kq14 => ?_
      refine W_block ?_
      refine W_seq fun kz15 kq15 => ?_
      refine W_region [11, 31, 32, 33] fun R hR => ?_   -- r10
      simp only [go_sem, List.length_range, hp, hia, hel]
      refine hR _ _ (kq15 _ _ ?_); clear hR R; try clear kq15 kz15
      try simp only [go_sem, List.length_range, hp, hia, hel]
      refine W_seq fun kz16 kq16 => ?_
      refine W_region [12, 31, 32, 33] fun R hR => ?_   -- r11
      simp only [go_sem, List.length_range, hp, hia, hel]
      refine GCall_of (hpc) ?_   -- t38
      simp only [go_sem, List.length_range, hp, hia, hel]
      refine hR _ _ (kq16 _ _ ?_); clear hR R; try clear kq16 kz16
      try simp only [go_sem, List.length_range, hp, hia, hel]
      refine W_seq fun kz17 kq17 => ?_
      refine W_region [12, 31, 32, 33, 40] fun R hR => ?_   -- r12
      simp only [go_sem, List.length_range, hp, hia, hel]
      refine hR _ _ (kq17 _ _ ?_); clear hR R; try clear kq17 kz17
      try simp only [go_sem, List.length_range, hp, hia, hel]
      refine W_cond rfl (fun c3 => ?_) (fun c3 => ?_)
      · -- c3 true
        try simp only [nrm] at c3
        refine W_seq fun kz18 kq18 => ?_
        refine W_region [6] fun R hR => ?_   -- r13
        simp only [go_sem, List.length_range, hp, hia, hel]
        refine hR _ _ (kq18 _ _ ?_); clear hR R; try clear kq18 kz18
        try simp only [go_sem, List.length_range, hp, hia, hel]
        refine W_ret ?_
        simp only [go_sem, List.length_range, hp, hia, hel]
        refine ⟨.inr (by trivial), ?_⟩
        first | refine Fin_same hcl rfl (Wk_eq ?_ (by simp only [go_sem])) | refine Fin_self hcl rfl (Wk_eq ?_ (by simp only [go_sem]))
        try simp only [go_sem]
        all_goals
          rw [hinv, if_pos c3]
      · -- c3 false
        try simp only [nrm] at c3
        refine W_skip (kq14 _ _ ?_)
        refine W_region [31, 32, 33] fun R hR => ?_   -- r14
        simp only [go_sem, List.length_range, hp, hia, hel]
        try simp (disch := omega) only [wrapI, wrapU]
        refine hR _ _ ?_; clear hR R
        try simp only [go_sem, List.length_range, hp, hia, hel]
        refine ⟨q + 1, ?_, by (try simp only []); omega, ?_⟩
        · first | exact Weak.refl | exact Weak.eq (by first | rfl | (simp only [go_sem]; done) | (simp only [go_sem]; rfl) | (simp [go_sem]; done) | (simp [go_sem]; omega)) (by first | rfl | (simp only [go_sem]; done) | (simp [go_sem]; done))
        · try dsimp only
          rw [if_neg (by simpa using c3)] at hinv
          exact ⟨hq', hinv⟩
    · -- c2 false
      try simp only [nrm] at c2
      have hcrl : (cmpRules ord a b).length = ord.length + 2 := by simp [cmpRules]
      rw [List.drop_eq_nil_of_le (by omega)] at hinv
      refine W_exit ?_
      simp only [go_sem, List.length_range]
      refine kq10 _ _ ?_
      refine W_seq fun kz19 kq19 => ?_
      refine W_region [6] fun R hR => ?_   -- r15
      simp only [go_sem, List.length_range]
      refine hR _ _ (kq19 _ _ ?_); clear hR R; try clear kq19 kz19
      try simp only [go_sem, List.length_range]
      refine W_ret ?_
      simp only [go_sem, List.length_range]
      refine ⟨.inr (by trivial), ?_⟩
      first | refine Fin_same hcl rfl (Wk_eq ?_ (by simp only [go_sem])) | refine Fin_self hcl rfl (Wk_eq ?_ (by simp only [go_sem]))
      try simp only [go_sem]
      all_goals
        rw [hinv]; rfl
end Go.Proofs.YtgelnjmddabgpaaGreat
namespace Go.Proofs.YtgelnjmddabgpaaGreat
open Go Go.RowKit
set_option maxRecDepth 100000
theorem filt_step {α : Type} (p : α → Bool) {l : List α} {t : Nat} {x : α} (h : l[t]? = some x) :
    (p x = true → (l.filter p)[((l.take t).filter p).length]? = some x ∧ ((l.take (t + 1)).filter p).length = ((l.take t).filter p).length + 1) ∧ (p x = false → ((l.take (t + 1)).filter p).length = ((l.take t).filter p).length) := by
  have e : l.take (t + 1) = l.take t ++ [x] := by rw [List.take_add_one, h]; rfl
  have hi := (List.getElem?_eq_some_iff.1 h).1
  have hx := (List.getElem?_eq_some_iff.1 h).2
  refine ⟨fun hp => ⟨?_, by rw [e, List.filter_append]; simp [hp]⟩, fun hp => by rw [e, List.filter_append]; simp [hp]⟩
  have e2 : l = l.take t ++ x :: l.drop (t + 1) := by
    conv => lhs; rw [← List.take_append_drop t l]
    rw [List.drop_eq_getElem_cons hi, hx]
  conv => lhs; arg 1; rw [e2]
  rw [List.filter_append, List.getElem?_append_right (Nat.le_refl _), Nat.sub_self]
  simp [hp]
theorem flat_get {β : Type} {J : Nat} {f : Nat → Nat → β} : ∀ (M m n : Nat), m < M → n < J → ((List.range M).flatMap fun m => (List.range J).map (f m))[m * J + n]? = some (f m n) := by
  intro M
  induction M with
  | zero => intro m n h; omega
  | succ M ih =>
    intro m n hm hn
    rw [List.range_succ, List.flatMap_append]
    have hlen : ((List.range M).flatMap fun m => (List.range J).map (f m)).length = M * J := by simp [List.length_flatMap, List.map_const']
    by_cases h : m < M
    · have : m * J + J ≤ M * J := by rw [← Nat.succ_mul]; exact Nat.mul_le_mul_right _ h
      rw [List.getElem?_append_left (by rw [hlen]; omega)]
      exact ih m n h hn
    · have e : m = M := by omega
      subst e
      rw [List.getElem?_append_right (by rw [hlen]; omega), hlen, Nat.add_sub_cancel_left]
      simp [hn]
theorem allJ_eq {s : Scale} {M J : Nat} (hM : s.matters = M) (hJ : s.judges = J) : allJ s = (List.range M).flatMap fun (m : Nat) => (List.range J).map fun (n : Nat) => ((m : Int), (n : Int)) := by
  simp only [allJ, toI, hM, hJ, Int.toNat_natCast, List.flatMap_map, List.map_map]
  rfl
theorem allJ_get {s : Scale} {M J m n : Nat} (hM : s.matters = M) (hJ : s.judges = J) (hm : m < M) (hn : n < J) : (allJ s)[m * J + n]? = some ((m : Int), (n : Int)) := by
  rw [allJ_eq hM hJ]; exact flat_get (f := fun m n => ((m : Int), (n : Int))) M m n hm hn
theorem allJ_len {s : Scale} {M J : Nat} (hM : s.matters = M) (hJ : s.judges = J) : (allJ s).length = M * J := by
  rw [allJ_eq hM hJ]; simp [List.length_flatMap, List.map_const']
theorem ysget_of {ρ : Sg} {l : List (Option (List PV))} {rm : List Nat} {s : LState} {q : Nat} (h : ρ.ys.length = q) : (ρ.ext l rm [s]).ys[q]? = some s := by subst h; exact Sg.ysget_ext0 ..
theorem setY_of {ρ : Sg} {l : List (Option (List PV))} {rm : List Nat} {s s' : LState} {q : Nat} (h : ρ.ys.length = q) : (ρ.ext l rm [s]).setY q s' = ρ.ext l rm [s'] := by subst h; simp only [go_sem]
theorem popY_of {ρ : Sg} {l : List (Option (List PV))} {rm : List Nat} {s : LState} {q : Nat} (h : ρ.ys.length = q) : (ρ.ext l rm [s]).popY q = ρ.ext l rm := by subst h; simp only [go_sem]
theorem Fin_len {P : Program} {fn : Func} {σ ρ σ' σ'' : Sg} {E : Env} {v : PV} (h1 : ρ.store.length = σ.store.length) (h2 : ρ.rooms.length = σ.rooms.length) (h3 : ρ.ys.length = σ.ys.length) (h : Fin P fn ρ v σ'' E σ') : Fin P fn σ v σ'' E σ' := by
  unfold Fin at h ⊢
  rw [← h1, ← h2, ← h3]
  exact h
/-- How many of the first judges are sealed. -/
def cntS (s : Scale) (k : Kn) (t : Nat) : Nat := (((allJ s).take t).filter fun j => (aget j k).isNone).length
theorem cntS_all {s : Scale} {M J : Nat} (hM : s.matters = M) (hJ : s.judges = J) (k : Kn) : cntS s k (M * J) = (sealedK s k).length := by
  rw [cntS, ← allJ_len hM hJ, List.take_length]; rfl
theorem cntS_le (s : Scale) (k : Kn) (t : Nat) : cntS s k t ≤ (sealedK s k).length := by
  unfold cntS sealedK
  exact (List.Sublist.filter _ (List.take_sublist t _)).length_le
theorem cntS_step {s : Scale} {M J m n : Nat} (hM : s.matters = M) (hJ : s.judges = J) (hm : m < M) (hn : n < J) (k : Kn) :
    ((aget ((m : Int), (n : Int)) k).isNone = true → (sealedK s k)[cntS s k (m * J + n)]? = some ((m : Int), (n : Int)) ∧ cntS s k (m * J + n + 1) = cntS s k (m * J + n) + 1) ∧ ((aget ((m : Int), (n : Int)) k).isNone = false → cntS s k (m * J + n + 1) = cntS s k (m * J + n)) :=
  filt_step (fun j => (aget j k).isNone) (allJ_get hM hJ hm hn)
set_option maxHeartbeats 2000000 in
theorem sealedA_pc (Y : YEnv) (σ : Sg) (y ids idk id : Nat) (s : Scale) (hv : s.V) (k : Kn) (τ : Nat → Sg)
    (h1 : ∀ c, c ≤ (sealedK s k).length → (τ c).store[ids]? = some (some (scCells s))) (h2 : ∀ c, c ≤ (sealedK s k).length → (τ c).store[idk]? = some (some [.map id])) (h3 : ∀ c, c ≤ (sealedK s k).length → (τ c).store[id]? = some (some (.mark :: knE k)))
    (hL : ∀ c, c ≤ (sealedK s k).length → (τ c).store.length = (τ 0).store.length ∧ (τ c).rooms.length = (τ 0).rooms.length ∧ (τ c).ys.length = (τ 0).ys.length)
    (hcl' : CleanSg (τ 0) → ∀ c, c ≤ (sealedK s k).length → CleanSg (τ c))
    (hY : ∀ c (m n : Nat), (sealedK s k)[c]? = some ((m : Int), (n : Int)) → Y y [.agg [I m, I n]] ((τ c).ext [some [.yield y], some (scCells s), some [I m, I n]] [] [.busy]) true ((τ (c + 1)).ext [some [.yield y], some (scCells s), some [I m, I n]] [] [.busy])) :
    PC Tryz.prog Y 81 [.yield y, .ptr ids 0, .ptr idk 0] (τ 0) (.tuple []) (τ (sealedK s k).length) := by
  refine PC_of_W Tryz.func81 rfl (by kernel_rfl) Tryz.ntmps81 (by simp) fun hcl hca => ?_
  have q1 := hv.mt
  have q2 := hv.jd
  obtain ⟨M, hM⟩ : ∃ z : Nat, s.matters = z := ⟨s.matters.toNat, by omega⟩
  obtain ⟨J, hJ⟩ : ∃ z : Nat, s.judges = z := ⟨s.judges.toNat, by omega⟩
  have hMb : M < 2 ^ 40 := by omega
  have hJb : J < 2 ^ 40 := by omega
  have h10 := h1 0 (Nat.zero_le _)
  refine W_seq fun kz1 kq1 => ?_
  refine W_region [1, 2, 3] fun R hR => ?_   -- r0
  simp only [go_sem, ldA_at (get_extx h10)]
  refine hR _ _ (kq1 _ _ ?_); clear hR R; try clear kq1 kz1
  try simp only [go_sem, ldA_at (get_extx h10)]
  refine W_seq fun kz2 kq2 => ?_
  refine W_region [2, 3, 8] fun R hR => ?_   -- r1
  simp only [go_sem, ldA_at (get_extx h10)]
  refine GCall_of (judges_pc Y _ s) ?_   -- t8
  simp only [go_sem, ldA_at (get_extx h10)]
  refine hR _ _ (kq2 _ _ ?_); clear hR R; try clear kq2 kz2
  try simp only [go_sem, ldA_at (get_extx h10)]
  refine W_block ?_
  let so : Nat → Sg := fun t => (τ (cntS s k t)).ext [some [.yield y], some (scCells s)] [] [.ready]
  have hcle : ∀ t, cntS s k t ≤ (sealedK s k).length := cntS_le s k
  have hyl : y < (τ 0).ys.length := by
    have := hca (.yield y) (by simp)
    cases this; assumption
  have hLc : ∀ (n r yy : Nat), y < yy → CleanLs n r yy [some [.yield y], some (scCells s)] := fun n r yy h => by
    have c2 := cleans_sc (a := n) (b := r) (c := yy) s
    refine CleanL_cons ?_ (CleanL_cons c2 CleanL_nil)
    exact Clean.all_cons (.yield _ h) Clean.all_nil
  refine W_rangeFunc (gf := 98) (v := .tuple []) (s := .ready) (σ5 := so (M * J)) rfl (by simp) (fun args ρ b' ρ' => ∃ m n : Nat, m < M ∧ n < J ∧ args = [.agg [I m, I n]] ∧ b' = true ∧ ρ = so (m * J + n) ∧ ρ' = so (m * J + n + 1)) ?_ ?_ ?_ ?_ ?_
  · rintro args τ b τ' ⟨m, n, hm, hn, rfl, rfl, rfl, rfl⟩
    refine ⟨rfl, ?_, ?_⟩
    · (simp only [so, go_sem]; exact ysget_of (hL _ (hcle _)).2.2)
    · simp only [so, go_sem]
      refine W_region [2, 3, 4] fun R hR => ?_   -- r2
      simp only [go_sem, ldA_at (get_extx h10), putAll]
      refine hR _ _ ?_; clear hR R
      try simp only [go_sem, ldA_at (get_extx h10), putAll]
      obtain ⟨st1, st2⟩ := cntS_step hM hJ hm hn k
      obtain ⟨c, hc⟩ : ∃ z, cntS s k (m * J + n) = z := ⟨_, rfl⟩
      have hcl1 := hcle (m * J + n)
      rw [hc] at st1 st2 hcl1
      simp only [hc]
      obtain ⟨b1, b2, b3⟩ := hL c hcl1
      have k2 := h2 c hcl1
      have k3 := h3 c hcl1
      rw [← b1, ← b3]
      obtain ⟨is, his⟩ : ∃ z, (aget ((m : Int), (n : Int)) k).isSome = z := ⟨_, rfl⟩
      simp only [go_sem]
      refine W_post_weak ?_
      refine W_block ?_
      refine W_seq fun kz3 kq3 => ?_
      refine W_region [3, 4, 6] fun R hR => ?_   -- r3
      simp only [go_sem, ldA_at (get_extx h10), putAll, ldS_at (get_extx k2), lkX_at (get_extx k3), his]
      refine hR _ _ (kq3 _ _ ?_); clear hR R; try clear kq3 kz3
      try simp only [go_sem, ldA_at (get_extx h10), putAll]
      refine W_seq fun kz4 kq4 => ?_
      refine W_region [23] fun R hR => ?_   -- r4
      simp only [go_sem, ldA_at (get_extx h10), putAll, ldS_at (get_extx k2)]
      refine GWant_split (fun g1 => ?_) (fun g1 => ?_)
      · try simp only [Bool.not_eq_true', Bool.not_eq_false'] at g1
        have n1 := g1; try simp only [nrm] at n1
        simp only [go_sem, ldA_at (get_extx h10), putAll, ldS_at (get_extx k2), g1]
        refine GYield_of (hY c m n (st1 (by rw [← Option.not_isSome, his, g1]; rfl)).1) ?_
        simp only [go_sem, ldA_at (get_extx h10), putAll, ldS_at (get_extx k2), g1]
        refine hR _ _ (kq4 _ _ ?_); clear hR R; try clear kq4 kz4
        try simp only [go_sem, ldA_at (get_extx h10), putAll]
        refine W_cond_false rfl ?_
        refine W_skip ?_
        simp only [go_sem, ldA_at (get_extx h10), putAll]
        obtain ⟨e1, e2⟩ := st1 (by rw [← Option.not_isSome, his, g1]; rfl)
        have hcl2 : c + 1 ≤ (sealedK s k).length := (List.getElem?_eq_some_iff.1 e1).1
        obtain ⟨d1, d2, d3⟩ := hL (c + 1) hcl2
        refine ⟨[], _, Weak.cutExt 2 0 (by rw [d1, ← b1]; simp only [go_sem] <;> omega) (by rw [d2, ← b2]; simp only [go_sem] <;> omega) (hcl' hcl _ hcl2) ?_ Wk.nil_get, ?_⟩
        · exact hLc _ _ _ (by rw [d3]; simp only [go_sem] <;> omega)
        · simp only [e2]
          exact ⟨ysget_of (d3.trans b3.symm), rfl, (setY_of (d3.trans b3.symm)).symm⟩
      · try simp only [Bool.not_eq_true', Bool.not_eq_false'] at g1
        have n1 := g1; try simp only [nrm] at n1
        simp only [go_sem, ldA_at (get_extx h10), putAll, ldS_at (get_extx k2), g1]
        refine hR _ _ (kq4 _ _ ?_); clear hR R; try clear kq4 kz4
        try simp only [go_sem, ldA_at (get_extx h10), putAll]
        refine W_cond_false rfl ?_
        refine W_skip ?_
        simp only [go_sem, ldA_at (get_extx h10), putAll]
        refine ⟨[], _, Weak.cutExt 2 0 (Nat.le_refl _) (Nat.le_refl _) (hcl' hcl _ hcl1) ?_ Wk.nil_get, ?_⟩
        · exact hLc _ _ _ (by rw [b3]; simp only [go_sem] <;> omega)
        · have e := st2 (by rw [← Option.not_isSome, his, g1]; rfl)
          simp only [e, RoundEnd, go_sem]
  · have hst := judges1_pc (Y.at (τ 0).ys.length (fun args ρ b' ρ' => ∃ m n : Nat, m < M ∧ n < J ∧ args = [.agg [I m, I n]] ∧ b' = true ∧ ρ = so (m * J + n) ∧ ρ' = so (m * J + n + 1))) (τ 0) (τ 0).ys.length ((τ 0).store.length + 1) s so M J (M * J) false hM hJ hMb hJb
      (fun t _ => by simp only [so]; rw [← (hL _ (hcle t)).1]; exact Sg.get_ext ..) (Nat.le_refl _) (fun _ => rfl) (fun h => by cases h)
      (fun m n h1 h2 _ => by rw [YEnv.at_self]; exact ⟨m, n, h1, h2, rfl, rfl, rfl, rfl⟩) (by simp only [so, go_sem, (hL _ (hcle (M * J))).1, (hL _ (hcle 0)).1]) (by simp only [so, go_sem, (hL _ (hcle (M * J))).2.1, (hL _ (hcle 0)).2.1]) (by simp only [so, go_sem, (hL _ (hcle (M * J))).2.2, (hL _ (hcle 0)).2.2])
      (fun _ => CleanSg_ext (hcl' hcl _ (hcle _)) (hLc _ _ _ (by rw [(hL _ (hcle (M * J))).2.2]; simp only [go_sem] <;> omega)))
    have e0 : so 0 = (τ 0).ext [some [.yield y], some (scCells s)] [] [.ready] := rfl
    rw [e0] at hst
    simp only [go_sem] at hst ⊢
    exact hst
  · (simp only [so, go_sem]; exact ysget_of (hL _ (hcle _)).2.2)
  · simp only [go_sem]
    have hb := hL _ (hcle (M * J))
    rw [← hb.2.2]
    exact CleanCut_ext (hcl' hcl _ (hcle _)) (by simp only [so, go_sem] <;> omega) (by simp only [so, go_sem] <;> omega) (by omega) (hLc _ _ _ (by rw [hb.2.2]; exact hyl))
  · simp only [go_sem]
    rw [popY_of (hL _ (hcle (M * J))).2.2]
    simp only [AfterLoop, go_sem]
    have hca2 := cntS_all hM hJ k
    simp only [hca2]
    obtain ⟨d1, d2, d3⟩ := hL _ (Nat.le_refl (sealedK s k).length)
    try simp only [go_sem, ldA_at (get_extx h10)]
    refine ⟨.inl (by trivial), ?_⟩
    exact Fin_len d1 d2 d3 (Fin_same (rs := []) (hcl' hcl _ (Nat.le_refl _)) rfl (Wk.of_clean (.tuple _ Clean.all_nil)))
    try simp only [go_sem]
    all_goals
      skip
/-- The first judge of whom nothing is known. -/
theorem cntS_first {s : Scale} {M J : Nat} (hM : s.matters = M) (hJ : s.judges = J) {k : Kn} (h : sealedK s k ≠ []) : ∃ e, 0 < e ∧ e ≤ M * J ∧ (∀ t, t < e → cntS s k t = 0) ∧ cntS s k e ≠ 0 := by
  have hex : ∃ t, cntS s k t ≠ 0 := ⟨M * J, by rw [cntS_all hM hJ]; intro e; exact h (List.eq_nil_of_length_eq_zero e)⟩
  obtain ⟨e, he, hmin⟩ := least (fun t => cntS s k t ≠ 0) hex
  have h0 : e ≠ 0 := by rintro rfl; exact he rfl
  refine ⟨e, by omega, ?_, fun t ht => ?_, he⟩
  · exact hmin (M * J) (by rw [cntS_all hM hJ]; intro e; exact h (List.eq_nil_of_length_eq_zero e))
  · by_cases q : cntS s k t = 0
    · exact q
    · have := hmin t q; omega
set_option maxHeartbeats 2000000 in
theorem sealedB_pc (Y : YEnv) (σ : Sg) (y ids idk id : Nat) (s : Scale) (hv : s.V) (k : Kn) (τ τ1 : Sg) (h10 : τ.store[ids]? = some (some (scCells s))) (k2 : τ.store[idk]? = some (some [.map id])) (k3 : τ.store[id]? = some (some (.mark :: knE k)))
    (b1 : τ1.store.length = τ.store.length) (b2 : τ1.rooms.length = τ.rooms.length) (b3 : τ1.ys.length = τ.ys.length) (hcl' : CleanSg τ → CleanSg τ1) (hne : sealedK s k ≠ [])
    (hY : ∀ (m n : Nat), (sealedK s k)[0]? = some ((m : Int), (n : Int)) → Y y [.agg [I m, I n]] (τ.ext [some [.yield y], some (scCells s), some [I m, I n]] [] [.busy]) false (τ1.ext [some [.yield y], some (scCells s), some [I m, I n]] [] [.busy])) :
    PC Tryz.prog Y 81 [.yield y, .ptr ids 0, .ptr idk 0] τ (.tuple []) (τ1) := by
  refine PC_of_W Tryz.func81 rfl (by kernel_rfl) Tryz.ntmps81 (by simp) fun hcl hca => ?_
  have q1 := hv.mt
  have q2 := hv.jd
  obtain ⟨M, hM⟩ : ∃ z : Nat, s.matters = z := ⟨s.matters.toNat, by omega⟩
  obtain ⟨J, hJ⟩ : ∃ z : Nat, s.judges = z := ⟨s.judges.toNat, by omega⟩
  have hMb : M < 2 ^ 40 := by omega
  have hJb : J < 2 ^ 40 := by omega
  refine W_seq fun kz1 kq1 => ?_
  refine W_region [1, 2, 3] fun R hR => ?_   -- r0
  simp only [go_sem, ldA_at (get_extx h10)]
  refine hR _ _ (kq1 _ _ ?_); clear hR R; try clear kq1 kz1
  try simp only [go_sem, ldA_at (get_extx h10)]
  refine W_seq fun kz2 kq2 => ?_
  refine W_region [2, 3, 8] fun R hR => ?_   -- r1
  simp only [go_sem, ldA_at (get_extx h10)]
  refine GCall_of (judges_pc Y _ s) ?_   -- t8
  simp only [go_sem, ldA_at (get_extx h10)]
  refine hR _ _ (kq2 _ _ ?_); clear hR R; try clear kq2 kz2
  try simp only [go_sem, ldA_at (get_extx h10)]
  refine W_block ?_
  obtain ⟨e, he0, he1, he2, he3⟩ := cntS_first hM hJ hne
  let so : Nat → Sg := fun t => if t < e then τ.ext [some [.yield y], some (scCells s)] [] [.ready] else τ1.ext [some [.yield y], some (scCells s)] [] [.done .ret]
  have so1 : ∀ t, t < e → so t = τ.ext [some [.yield y], some (scCells s)] [] [.ready] := fun t h => if_pos h
  have so2 : so e = τ1.ext [some [.yield y], some (scCells s)] [] [.done .ret] := if_neg (Nat.lt_irrefl _)
  have hyl : y < τ.ys.length := by
    have := hca (.yield y) (by simp)
    cases this; assumption
  have hLc : ∀ (n r yy : Nat), y < yy → CleanLs n r yy [some [.yield y], some (scCells s)] := fun n r yy h => by
    have c2 := cleans_sc (a := n) (b := r) (c := yy) s
    refine CleanL_cons ?_ (CleanL_cons c2 CleanL_nil)
    exact Clean.all_cons (.yield _ h) Clean.all_nil
  refine W_rangeFunc (gf := 98) (v := .tuple []) (s := .done .ret) (σ5 := so e) rfl (by simp) (fun args ρ b' ρ' => ∃ m n : Nat, m < M ∧ n < J ∧ m * J + n < e ∧ args = [.agg [I m, I n]] ∧ b' = (!(true && decide (m * J + n + 1 = e))) ∧ ρ = so (m * J + n) ∧ ρ' = so (m * J + n + 1)) ?_ ?_ ?_ ?_ ?_
  · rintro args τ b τ' ⟨m, n, hm, hn, hpe, rfl, rfl, rfl, rfl⟩
    refine ⟨rfl, ?_, ?_⟩
    · (rw [so1 _ hpe]; simp only [go_sem])
    · (rw [so1 _ hpe]; simp only [go_sem])
      refine W_region [2, 3, 4] fun R hR => ?_   -- r2
      simp only [go_sem, ldA_at (get_extx h10), putAll]
      refine hR _ _ ?_; clear hR R
      try simp only [go_sem, ldA_at (get_extx h10), putAll]
      obtain ⟨st1, st2⟩ := cntS_step hM hJ hm hn k
      rw [he2 _ hpe] at st1 st2
      obtain ⟨is, his⟩ : ∃ z, (aget ((m : Int), (n : Int)) k).isSome = z := ⟨_, rfl⟩
      refine W_post_weak ?_
      refine W_block ?_
      refine W_seq fun kz3 kq3 => ?_
      refine W_region [3, 4, 6] fun R hR => ?_   -- r3
      simp only [go_sem, ldA_at (get_extx h10), putAll, ldS_at (get_extx k2), lkX_at (get_extx k3), his]
      refine hR _ _ (kq3 _ _ ?_); clear hR R; try clear kq3 kz3
      try simp only [go_sem, ldA_at (get_extx h10), putAll]
      refine W_seq fun kz4 kq4 => ?_
      refine W_region [23] fun R hR => ?_   -- r4
      simp only [go_sem, ldA_at (get_extx h10), putAll, ldS_at (get_extx k2)]
      refine GWant_split (fun g1 => ?_) (fun g1 => ?_)
      · try simp only [Bool.not_eq_true', Bool.not_eq_false'] at g1
        have n1 := g1; try simp only [nrm] at n1
        simp only [go_sem, ldA_at (get_extx h10), putAll, ldS_at (get_extx k2), g1]
        refine GYield_of (hY m n (st1 (by rw [← Option.not_isSome, his, g1]; rfl)).1) ?_
        simp only [go_sem, ldA_at (get_extx h10), putAll, ldS_at (get_extx k2), g1]
        refine hR _ _ (kq4 _ _ ?_); clear hR R; try clear kq4 kz4
        try simp only [go_sem, ldA_at (get_extx h10), putAll]
        refine W_cond_true rfl ?_
        refine W_ret ?_
        simp only [go_sem, ldA_at (get_extx h10), putAll]
        obtain ⟨e1, e2⟩ := st1 (by rw [← Option.not_isSome, his, g1]; rfl)
        have hpe2 : m * J + n + 1 = e := by
          by_cases q : m * J + n + 1 < e
          · have := he2 _ q; omega
          · omega
        refine ⟨[], _, Weak.cutExt 2 0 (by rw [b1]; exact Nat.le_refl _) (by rw [b2]; exact Nat.le_refl _) (hcl' hcl) ?_ Wk.nil_get, ?_⟩
        · exact hLc _ _ _ (by rw [b3]; simp only [go_sem] <;> omega)
        · rw [hpe2, so2]
          exact ⟨ysget_of b3, by simp, (setY_of b3).symm⟩
      · try simp only [Bool.not_eq_true', Bool.not_eq_false'] at g1
        have n1 := g1; try simp only [nrm] at n1
        simp only [go_sem, ldA_at (get_extx h10), putAll, ldS_at (get_extx k2), g1]
        refine hR _ _ (kq4 _ _ ?_); clear hR R; try clear kq4 kz4
        try simp only [go_sem, ldA_at (get_extx h10), putAll]
        refine W_cond_false rfl ?_
        refine W_skip ?_
        simp only [go_sem, ldA_at (get_extx h10), putAll]
        have e1 := st2 (by rw [← Option.not_isSome, his, g1]; rfl)
        have hne2 : ¬ (m * J + n + 1 = e) := fun h => he3 (by rw [← h]; exact e1)
        refine ⟨[], _, Weak.cutExt 2 0 (Nat.le_refl _) (Nat.le_refl _) hcl ?_ Wk.nil_get, ?_⟩
        · exact hLc _ _ _ (by simp only [go_sem] <;> omega)
        · rw [so1 _ (by omega)]
          simp only [RoundEnd, go_sem]
          simp [hne2]
  · have hst := judges1_pc (Y.at τ.ys.length (fun args ρ b' ρ' => ∃ m n : Nat, m < M ∧ n < J ∧ m * J + n < e ∧ args = [.agg [I m, I n]] ∧ b' = (!(true && decide (m * J + n + 1 = e))) ∧ ρ = so (m * J + n) ∧ ρ' = so (m * J + n + 1))) τ τ.ys.length (τ.store.length + 1) s so M J e true hM hJ hMb hJb
      (fun t ht => by
        by_cases q : t < e
        · rw [so1 t q]; exact Sg.get_ext ..
        · have : t = e := by omega
          subst this
          rw [so2, ← b1]; exact Sg.get_ext ..) he1 (fun h => by cases h) (fun _ => he0)
      (fun m n h1 h2 h3 => by rw [YEnv.at_self]; exact ⟨m, n, h1, h2, h3, rfl, rfl, rfl, rfl⟩) (by rw [so2, so1 0 he0]; simp only [go_sem, b1]) (by rw [so2, so1 0 he0]; simp only [go_sem, b2]) (by rw [so2, so1 0 he0]; simp only [go_sem, b3])
      (fun _ => by rw [so2]; exact CleanSg_ext (hcl' hcl) (hLc _ _ _ (by rw [b3]; simp only [go_sem] <;> omega)))
    rw [so1 0 he0] at hst
    simp only [go_sem] at hst ⊢
    exact hst
  · (rw [so2]; simp only [go_sem]; exact ysget_of b3)
  · simp only [go_sem]
    rw [so2, ← b3]
    exact CleanCut_ext (hcl' hcl) (by simp only [go_sem] <;> omega) (by simp only [go_sem] <;> omega) (Nat.le_refl _) (hLc _ _ _ (by rw [b3]; exact hyl))
  · simp only [go_sem]
    rw [so2, popY_of b3]
    simp only [AfterLoop]
    refine W_ret ?_
    simp only [go_sem]
    refine ⟨.inr (by trivial), ?_⟩
    exact Fin_len b1 b2 b3 (Fin_same (rs := []) (hcl' hcl) rfl (Wk.of_clean (.tuple _ Clean.all_nil)))
end Go.Proofs.YtgelnjmddabgpaaGreat
namespace Go.Proofs.YtgelnjmddabgpaaGreat
open Go Go.RowKit
set_option maxRecDepth 100000
theorem aput_ok {s : Scale} {k : Kn} (hk : KnOk s k) {j : Int × Int} {l : List Int} (hl : l = [] ∨ ((l.length : Int) = s.schools ∧ ∀ x, x ∈ l → s.low ≤ x ∧ x ≤ s.high)) : KnOk s (aput j l k) := fun e he => by
  rcases aput_mem he with rfl | he
  · exact hl
  · exact hk e he
theorem openK_ok {s : Scale} : ∀ {l : List Envl} {k : Kn}, KnOk s k → KnOk s (openK s l k).2 := by
  intro l
  induction l with
  | nil => intro k h; exact h
  | cons x l ih =>
    intro k h
    simp only [openK]
    split
    · exact h
    · rename_i h1
      split
      · exact h
      · obtain ⟨_, q2, q3⟩ := marked_ok (s := s) (j := (x.matter, x.judge)) (l := x.marks) (by omega)
        have hn := ih (aput_ok (j := (x.matter, x.judge)) h (.inr ⟨q2, q3⟩))
        repeat' split
        all_goals first | exact h | exact hn
theorem missK_ok {s : Scale} : ∀ {l : List (Int × Int)} {k : Kn}, KnOk s k → KnOk s (missK s l k).2 := by
  intro l
  induction l with
  | nil => intro k h; exact h
  | cons x l ih =>
    intro k h
    simp only [missK]
    split
    · exact h
    · split
      · exact h
      · exact ih (aput_ok h (.inl rfl))
theorem finesR_ok {s : Scale} : ∀ {l : List (Int × Int)}, finesR s l = 0 → ∀ f, f ∈ l → (0 ≤ f.1 ∧ f.1 ≤ s.schools - 1) ∧ 0 ≤ f.2 ∧ f.2 ≤ 1000 := by
  intro l
  induction l with
  | nil => intro _ f hf; cases hf
  | cons x l ih =>
    intro h f hf
    simp only [finesR] at h
    split at h
    · cases h
    · rename_i h1
      split at h
      · cases h
      · rename_i h2
        rcases List.mem_cons.1 hf with rfl | hf
        · simp only [Bool.not_eq_true, Bool.not_eq_false', inR_true] at h1 h2
          exact ⟨h1, h2⟩
        · exact ih h f hf
theorem known_V {s : Scale} {g : Night} (h : knownE s g = 0) : KnV s (knownK s g) g := by
  obtain ⟨hv, h1, h2, h3, h4, h5, h6⟩ := known_ok h
  unfold finesE at h6
  split at h6
  · cases h6
  · rename_i hf
    exact ⟨hv, missK_ok (openK_ok fun e he => by cases he), h5, by omega, finesR_ok h6⟩
theorem chkOrd_ok {m : Int} : ∀ {l p : List Int}, chkOrd m p l = 0 → (∀ x, x ∈ l → 0 ≤ x ∧ x ≤ m - 1) ∧ l.Nodup ∧ ∀ x, x ∈ l → x ∉ p := by
  intro l
  induction l with
  | nil => intro p _; exact ⟨fun x hx => (by cases hx), List.nodup_nil, fun x hx => (by cases hx)⟩
  | cons n l ih =>
    intro p h
    simp only [chkOrd] at h
    split at h
    · cases h
    · rename_i h1
      split at h
      · cases h
      · rename_i h2
        obtain ⟨a1, a2, a3⟩ := ih h
        simp only [Bool.not_eq_true, Bool.not_eq_false', inR_true] at h1
        refine ⟨fun x hx => ?_, List.nodup_cons.2 ⟨fun hm => a3 n hm (by simp), a2⟩, fun x hx hp => ?_⟩
        · rcases List.mem_cons.1 hx with rfl | hx
          · exact h1
          · exact a1 x hx
        · rcases List.mem_cons.1 hx with rfl | hx
          · exact h2 (has_iff.2 hp)
          · exact a3 x hx (List.mem_append.2 (.inl hp))
theorem ptsL_get {s : Scale} {M i : Nat} (hM : s.matters = M) (hi : i < M) (k : Kn) (sc u : Int) : (pointsL s k sc u)[i]? = some (pointsK s k sc i u) := by
  simp [pointsL, toI, hM, hi]
theorem fines_bd {s : Scale} {k : Kn} {g : Night} (hV : KnV s k g) (sc : Int) : 0 ≤ finesOf g.fines sc ∧ finesOf g.fines sc ≤ 10000 := by
  have := sumI_bd (b := 1000) (l := g.fines.map fun f => if f.1 = sc then f.2 else 0) fun x hx => by
    obtain ⟨f, hf, rfl⟩ := List.mem_map.1 hx
    have := hV.fi f hf
    split <;> omega
  have hl := hV.fl
  unfold finesOf
  simp only [List.length_map] at this
  omega
theorem stand_bd {s : Scale} {k : Kn} {g : Night} (hV : KnV s k g) {u : Int} (hu : 0 ≤ u ∧ u ≤ 100) (sc : Int) : -10000 ≤ (standK s k g sc u).total ∧ (standK s k g sc u).total ≤ 3000 := by
  have h1 := sumI_bd (b := 500) (l := pointsL s k sc u) fun x hx => by
    obtain ⟨m, _, rfl⟩ := List.mem_map.1 hx
    exact points_bd hV.v hV.ok hu sc m
  have h2 := fines_bd hV sc
  have q := hV.v.mt
  have hl : (pointsL s k sc u).length = s.matters.toNat := by simp [pointsL, toI]
  simp only [standK]
  rw [hl] at h1
  omega
theorem cmp_ok {s : Scale} {k : Kn} {g : Night} (hV : KnV s k g) {u v : Int} (hu : 0 ≤ u ∧ u ≤ 100) (hv : 0 ≤ v ∧ v ≤ 100) {a b : Int} (ha : 0 ≤ a ∧ a < s.schools) (hb : 0 ≤ b ∧ b < s.schools) : CmpOk s.order (standK s k g a u) (standK s k g b v) := by
  have q1 := hV.v.mt
  have q3 := hV.v.sc
  have h1 := stand_bd hV hu a
  have h2 := stand_bd hV hv b
  obtain ⟨M, hM⟩ : ∃ z : Nat, s.matters = z := ⟨s.matters.toNat, by omega⟩
  refine ⟨by omega, by omega, by simp only [standK]; omega, by simp only [standK]; omega, fun m hm => ?_⟩
  have := (chkOrd_ok hV.v.od).1 m hm
  obtain ⟨i, rfl⟩ : ∃ i : Nat, m = i := ⟨m.toNat, by omega⟩
  have p1 := points_bd hV.v hV.ok hu a i
  have p2 := points_bd hV.v hV.ok hv b i
  exact ⟨i, _, _, rfl, ptsL_get hM (by omega) k a u, ptsL_get hM (by omega) k b v, by omega, by omega⟩
def spUp (s : Scale) (k : Kn) (g : Night) (i : Nat) : List (Int × Int) := (List.range i).map fun (j : Nat) => ((standK s k g j s.low).total, (standK s k g j s.high).total)
theorem spUp_succ (s : Scale) (k : Kn) (g : Night) (i : Nat) : spUp s k g (i + 1) = spUp s k g i ++ [((standK s k g i s.low).total, (standK s k g i s.high).total)] := by simp [spUp, List.range_succ]
def plUp (s : Scale) (k : Kn) (g : Night) (sc own oth : Int) (i : Nat) : Nat := (((List.range i).map fun (j : Nat) => (j : Int)).filter fun j => decide (j ≠ sc) && decide (cmpSt s.order (standK s k g j oth) (standK s k g sc own) < 0)).length
theorem plUp_succ (s : Scale) (k : Kn) (g : Night) (sc own oth : Int) (i : Nat) : plUp s k g sc own oth (i + 1) = plUp s k g sc own oth i + (if (decide ((i : Int) ≠ sc) && decide (cmpSt s.order (standK s k g i oth) (standK s k g sc own) < 0)) = true then 1 else 0) := by
  unfold plUp
  rw [List.range_succ, List.map_append, List.filter_append, List.length_append]
  congr 1
  simp only [List.map_cons, List.map_nil, List.filter_cons, List.filter_nil]
  split <;> rfl
theorem plUp_le (s : Scale) (k : Kn) (g : Night) (sc own oth : Int) (i : Nat) : plUp s k g sc own oth i ≤ i := by
  unfold plUp
  refine Nat.le_trans (List.length_filter_le _ _) (by simp)
theorem plUp_all {s : Scale} {N : Nat} (hN : s.schools = N) (k : Kn) (g : Night) (sc own oth : Int) : placeK s k g sc own oth = 1 + (plUp s k g sc own oth N : Int) := by
  simp only [placeK, plUp, toI, hN, Int.toNat_natCast]
set_option maxHeartbeats 2000000 in
theorem totE_pc (Y : YEnv) (σ : Sg) (s : Scale) (g : Night) (hs : s.Ok) (hg : g.Ok) (hE : knownE s g ≠ 0) :
    PC Tryz.prog Y 26 [scPV s, ngPV g] σ (.tuple [sts [], I (knownE s g)]) (σ) := by
  refine PC_of_W Tryz.func26 rfl (by kernel_rfl) Tryz.ntmps26 (by simp) fun hcl hca => ?_
  refine W_seq fun kz1 kq1 => ?_
  refine W_region [2, 3] fun R hR => ?_   -- r0
  simp only [go_sem]
  refine hR _ _ (kq1 _ _ ?_); clear hR R; try clear kq1 kz1
  try simp only [go_sem]
  refine W_seq fun kz2 kq2 => ?_
  refine W_region [2, 3, 6, 7] fun R hR => ?_   -- r1
  simp only [go_sem]
  refine GCall_of (knownOf_err Y _ s g hs hg hE) ?_   -- t13
  simp only [go_sem]
  refine hR _ _ (kq2 _ _ ?_); clear hR R; try clear kq2 kz2
  try simp only [go_sem]
  refine W_seq fun kz3 kq3 => ?_
  refine W_seq fun kz4 kq4 => ?_
  refine W_region [2, 3, 6, 7, 17] fun R hR => ?_   -- r2
  simp only [go_sem]
  refine hR _ _ (kq4 _ _ ?_); clear hR R; try clear kq4 kz4
  try simp only [go_sem]
  refine W_cond rfl (fun c1 => ?_) (fun c1 => ?_)
  · -- c1 true
    try simp only [nrm] at c1
    refine W_seq fun kz5 kq5 => ?_
    refine W_region [4, 5] fun R hR => ?_   -- r3
    simp only [go_sem]
    refine hR _ _ (kq5 _ _ ?_); clear hR R; try clear kq5 kz5
    try simp only [go_sem]
    refine W_ret ?_
    simp only [go_sem]
    refine ⟨.inr (by trivial), ?_⟩
    refine Fin_same hcl rfl (Wk.ro (by simp only [go_sem]) ?_)
    try simp only [go_sem]
    all_goals
      first | rfl | (simp [PV.ro, PV.roL]; done)
  · -- c1 false
    try simp only [nrm] at c1
    exfalso
    first | exact hE (by omega) | (simp at c1; exact hE (by omega))
set_option maxHeartbeats 2000000 in
theorem totO_pc (Y : YEnv) (σ : Sg) (s : Scale) (g : Night) (hs : s.Ok) (hg : g.Ok) (hE : knownE s g = 0) :
    PC Tryz.prog Y 26 [scPV s, ngPV g] σ (.tuple [sts ((toI s.schools).map fun i => ((standK s (knownK s g) g i s.low).total, (standK s (knownK s g) g i s.high).total)), I 0]) (σ) := by
  refine PC_of_W Tryz.func26 rfl (by kernel_rfl) Tryz.ntmps26 (by simp) fun hcl hca => ?_
  have hV := known_V hE
  obtain ⟨K, hK⟩ : ∃ z, knownK s g = z := ⟨_, rfl⟩
  rw [hK] at hV
  have hv := hV.v
  have q3 := hv.sc
  have q4 := hv.lo
  have q5 := hv.hi
  obtain ⟨N, hN⟩ : ∃ z : Nat, s.schools = z := ⟨s.schools.toNat, by omega⟩
  have hNi : (s.schools : Int) = (N : Int) := hN
  have hkn := fun Y σ => knownOf_ok Y σ s g hs hg hE
  rw [hK] at hkn
  rw [hK]
  have hall : ((toI s.schools).map fun i => ((standK s K g i s.low).total, (standK s K g i s.high).total)) = spUp s K g N := by simp only [toI, hN, Int.toNat_natCast, spUp, List.map_map]; rfl
  rw [hall]
  refine W_seq fun kz1 kq1 => ?_
  refine W_region [2, 3] fun R hR => ?_   -- r0
  simp only [go_sem]
  refine hR _ _ (kq1 _ _ ?_); clear hR R; try clear kq1 kz1
  try simp only [go_sem]
  refine W_seq fun kz2 kq2 => ?_
  refine W_region [2, 3, 6, 7] fun R hR => ?_   -- r1
  simp only [go_sem]
  refine GCall_of (hkn Y _) ?_   -- t13
  simp only [go_sem]
  refine hR _ _ (kq2 _ _ ?_); clear hR R; try clear kq2 kz2
  try simp only [go_sem]
  refine W_seq fun kz3 kq3 => ?_
  refine W_seq fun kz4 kq4 => ?_
  refine W_region [2, 3, 6, 7, 17] fun R hR => ?_   -- r2
  simp only [go_sem]
  refine hR _ _ (kq4 _ _ ?_); clear hR R; try clear kq4 kz4
  try simp only [go_sem]
  refine W_cond_false rfl ?_
  refine W_skip (kq3 _ _ ?_)
  refine W_seq fun kz5 kq5 => ?_
  refine W_region [2, 3, 6, 8] fun R hR => ?_   -- r4
  simp only [go_sem]
  refine hR _ _ (kq5 _ _ ?_); clear hR R; try clear kq5 kz5
  try simp only [go_sem]
  refine W_seq fun kz6 kq6 => ?_
  refine W_seq fun kz7 kq7 => ?_
  refine W_region [2, 3, 6, 8, 20, 21] fun R hR => ?_   -- r5
  simp only [go_sem]
  refine hR _ _ (kq7 _ _ ?_); clear hR R; try clear kq7 kz7
  try simp only [go_sem]
  refine W_block ?_
  refine W_weak (Weak.room (t := 8) (es := 2) rfl (by simp)) ?_
  refine W_weak (Weak.keep [2, 3, 6, 8, 20, 21]) ?_
  simp only [go_sem]
  refine W_loopT (α := Nat) (fun (i : Nat) => [(8, .isl ((spUp s K g i).map stPV) (.tok σ.rooms.length i 2)), (21, I i)]) (fun (i : Nat) => σ.ext [some (scCells s), some (ngCells g), some (scCells s), some (ngCells g), some (.mark :: knE K)] [i]) (fun (i : Nat) => i ≤ N) (fun (i : Nat) => N - i) (0) rfl (by first | rfl | (simp only [go_sem]; done) | (simp only [go_sem]; rfl)) (Nat.zero_le _) ?_
  rintro i hi
  have hsl : (spUp s K g i).length = i := by simp [spUp]
  refine W_seq fun kz8 kq8 => ?_
  refine W_region [2, 3, 6, 8, 20, 21, 22] fun R hR => ?_   -- r6
  simp only [go_sem]
  refine hR _ _ (kq8 _ _ ?_); clear hR R; try clear kq8 kz8
  try simp only [go_sem]
  refine W_seq fun kz9 kq9 => ?_
  refine W_cond rfl (fun c1 => ?_) (fun c1 => ?_)
  · -- c1 true
    try simp only [nrm] at c1
    have hiN : i < N := by first | omega | (simp at c1; omega)
    have hsu := spUp_succ s K g i
    refine W_skip (kq9 _ _ ?_)
    refine W_seq fun kz10 kq10 => ?_
    refine W_block ?_
    refine W_seq fun kz11 kq11 => ?_
    refine W_region [2, 3, 6, 8, 9, 20, 21] fun R hR => ?_   -- r7
    simp only [go_sem]
    refine hR _ _ (kq11 _ _ ?_); clear hR R; try clear kq11 kz11
    try simp only [go_sem]
    refine W_draw [2, 3, 6, 8, 20, 21] [0, 1, 2, 3, 4, 5, 6, 7, 8, 9, 10, 11, 12, 13, 14, 15, 16, 17, 18, 19, 20] [(0, 15), (0, 19), (8, 19), (9, 7), (10, 7), (11, 7), (12, 7), (13, 7), (14, 7)] [[], [], [], [], [], [], [5], [1, 2, 3, 4, 5, 6], [1, 2, 3, 4, 5, 6, 7], [], [], [], [], [], [13], [1, 2, 3, 4, 5, 6, 7, 9, 10, 11, 12, 13, 14], [1, 2, 3, 4, 5, 6, 7, 9, 10, 11, 12, 13, 14, 15], [1, 2, 3, 4, 5, 6, 7, 8, 9, 10, 11, 12, 13, 14, 15, 16], [1, 2, 3, 4, 5, 6, 7, 8, 9, 10, 11, 12, 13, 14, 15, 16, 17], [0, 1, 2, 3, 4, 5, 6, 7, 8, 9, 10, 11, 12, 13, 14, 15, 16, 17, 18], [0, 1, 2, 3, 4, 5, 6, 7, 8, 9, 10, 11, 12, 13, 14, 15, 16, 17, 18, 19]] mixed (by kernel_rfl) fun R hR => ?_   -- r8
    simp only [go_sem]
    refine GCall_of (standing_pc Y _ (σ.store.length + 4) K (Sg.get_ext ..) s g hV i (by omega) s.low (by omega)) ?_   -- t31
    simp only [go_sem]
    refine GCall_of (standing_pc Y _ (σ.store.length + 4) K (Sg.get_ext ..) s g hV i (by omega) s.high (by omega)) ?_   -- t39
    simp only [go_sem]
    try simp (disch := first | omega | (simp only [go_sem] <;> omega)) only [wrapI, wrapU, appX_exact, appX_tok]
    try simp only [go_sem]
    try refine And.intro (by repeat' (first | refine And.intro ?_ ?_ | exact GOr_right (fun _ => by simp only [go_sem]))) ?_
    refine hR _ _ (kq10 _ _ ?_); clear hR R; try clear kq10 kz10
    try simp only [go_sem]
    refine W_region [2, 3, 6, 8, 20, 21] fun R hR => ?_   -- r9
    simp only [go_sem]
    try simp (disch := omega) only [wrapI, wrapU]
    refine hR _ _ ?_; clear hR R
    try simp only [go_sem]
    refine ⟨i + 1, ?_, by (try simp only []); omega, ?_⟩
    · refine Weak.eq ?_ (by simp only [go_sem])
      simp only [go_sem, hsu, List.map_append]
      rfl
    · try dsimp only
      omega
  · -- c1 false
    try simp only [nrm] at c1
    have hie : N = i := by first | omega | (simp at c1; omega)
    subst hie
    refine W_exit ?_
    simp only [go_sem]
    refine kq6 _ _ ?_
    refine W_seq fun kz12 kq12 => ?_
    refine W_region [4, 5] fun R hR => ?_   -- r10
    simp only [go_sem]
    refine hR _ _ (kq12 _ _ ?_); clear hR R; try clear kq12 kz12
    try simp only [go_sem]
    refine W_ret ?_
    simp only [go_sem]
    refine ⟨.inr (by trivial), ?_⟩
    refine Fin_same hcl rfl (Wk.ro (by simp only [go_sem]) ?_)
    try simp only [go_sem]
    all_goals
      simp only [go_sem]
theorem Totals_pc (Y : YEnv) (σ : Sg) (s : Scale) (g : Night) (hs : s.Ok) (hg : g.Ok) : PC Tryz.prog Y 26 [scPV s, ngPV g] σ (.tuple [sts (totalsA s g).1, I (totalsA s g).2]) σ := by
  unfold totalsA
  by_cases h : knownE s g = 0
  · rw [if_neg (by simpa using h)]; exact totO_pc Y σ s g hs hg h
  · rw [if_pos h]; exact totE_pc Y σ s g hs hg h
set_option maxHeartbeats 4000000 in
theorem place1_pc (Y : YEnv) (σ : Sg) (ik id ib ic ie : Nat) (s : Scale) (k : Kn) (g : Night) (hV : KnV s k g) (sc : Nat) (hsc : (sc : Int) < s.schools) (own oth : Int) (ho : 0 ≤ own ∧ own ≤ 100) (ht : 0 ≤ oth ∧ oth ≤ 100) (h0 : σ.store[ik]? = some (some [.map id])) (hd : σ.store[id]? = some (some (.mark :: knE k))) (hb : σ.store[ib]? = some (some (scCells s))) (hc : σ.store[ic]? = some (some (ngCells g))) (he : σ.store[ie]? = some (some [I sc])) :
    PC Tryz.prog Y 65 [I own, I oth, .ptr ik 0, .ptr ib 0, .ptr ic 0, .ptr ie 0] σ (I (placeK s k g sc own oth)) (σ) := by
  refine PC_of_W Tryz.func65 rfl (by kernel_rfl) Tryz.ntmps65 (by simp) fun hcl hca => ?_
  have q3 := hV.v.sc
  have hol := hV.v.ol
  have q1 := hV.v.mt
  obtain ⟨N, hN⟩ : ∃ z : Nat, s.schools = z := ⟨s.schools.toNat, by omega⟩
  have hNi : (s.schools : Int) = (N : Int) := hN
  have hpl := plUp_all hN k g sc own oth
  refine W_seq fun kz1 kq1 => ?_
  refine W_region [0, 1, 2, 3, 4, 5] fun R hR => ?_   -- r0
  simp only [go_sem, ldS_at h0, ldA_at hb, ldA_at hc, ldS_at he, ldS_at hb, ldS_at (get_extx h0), ldA_at (get_extx hb), ldA_at (get_extx hc), ldS_at (get_extx he), ldS_at (get_extx hb)]
  refine hR _ _ (kq1 _ _ ?_); clear hR R; try clear kq1 kz1
  try simp only [go_sem, ldS_at h0, ldA_at hb, ldA_at hc, ldS_at he, ldS_at hb, ldS_at (get_extx h0), ldA_at (get_extx hb), ldA_at (get_extx hc), ldS_at (get_extx he), ldS_at (get_extx hb)]
  refine W_seq fun kz2 kq2 => ?_
  refine W_region [1, 2, 3, 4, 5, 9, 10] fun R hR => ?_   -- r1
  simp only [go_sem, ldS_at h0, ldA_at hb, ldA_at hc, ldS_at he, ldS_at hb, ldS_at (get_extx h0), ldA_at (get_extx hb), ldA_at (get_extx hc), ldS_at (get_extx he), ldS_at (get_extx hb)]
  refine GCall_of (standing_pc Y _ id k hd s g hV sc hsc own ho) ?_   -- t17
  simp only [go_sem, ldS_at h0, ldA_at hb, ldA_at hc, ldS_at he, ldS_at hb, ldS_at (get_extx h0), ldA_at (get_extx hb), ldA_at (get_extx hc), ldS_at (get_extx he), ldS_at (get_extx hb)]
  refine hR _ _ (kq2 _ _ ?_); clear hR R; try clear kq2 kz2
  try simp only [go_sem, ldS_at h0, ldA_at hb, ldA_at hc, ldS_at he, ldS_at hb, ldS_at (get_extx h0), ldA_at (get_extx hb), ldA_at (get_extx hc), ldS_at (get_extx he), ldS_at (get_extx hb)]
  refine W_seq fun kz3 kq3 => ?_
  refine W_seq fun kz4 kq4 => ?_
  refine W_region [1, 2, 3, 4, 5, 9, 10, 19, 20] fun R hR => ?_   -- r2
  simp only [go_sem, ldS_at h0, ldA_at hb, ldA_at hc, ldS_at he, ldS_at hb, ldS_at (get_extx h0), ldA_at (get_extx hb), ldA_at (get_extx hc), ldS_at (get_extx he), ldS_at (get_extx hb)]
  refine hR _ _ (kq4 _ _ ?_); clear hR R; try clear kq4 kz4
  try simp only [go_sem, ldS_at h0, ldA_at hb, ldA_at hc, ldS_at he, ldS_at hb, ldS_at (get_extx h0), ldA_at (get_extx hb), ldA_at (get_extx hc), ldS_at (get_extx he), ldS_at (get_extx hb)]
  refine W_block ?_
  refine W_loopS (α := Nat) (fun (i : Nat) => [(10, I (1 + (plUp s k g sc own oth i : Int))), (20, I i)]) (fun (i : Nat) => i ≤ N) (fun (i : Nat) => N - i) (0) rfl (Nat.zero_le _) ?_
  rintro i hi
  have hple := plUp_le s k g sc own oth i
  refine W_seq fun kz5 kq5 => ?_
  refine W_region [1, 2, 3, 4, 5, 9, 10, 19, 20, 21] fun R hR => ?_   -- r3
  simp only [go_sem, ldS_at h0, ldA_at hb, ldA_at hc, ldS_at he, ldS_at hb, ldS_at (get_extx h0), ldA_at (get_extx hb), ldA_at (get_extx hc), ldS_at (get_extx he), ldS_at (get_extx hb)]
  refine hR _ _ (kq5 _ _ ?_); clear hR R; try clear kq5 kz5
  try simp only [go_sem, ldS_at h0, ldA_at hb, ldA_at hc, ldS_at he, ldS_at hb, ldS_at (get_extx h0), ldA_at (get_extx hb), ldA_at (get_extx hc), ldS_at (get_extx he), ldS_at (get_extx hb)]
  refine W_seq fun kz6 kq6 => ?_
  refine W_cond rfl (fun c1 => ?_) (fun c1 => ?_)
  · -- c1 true
    try simp only [nrm] at c1
    have hiN : i < N := by first | omega | (simp at c1; omega)
    have hsu := plUp_succ s k g sc own oth i
    refine W_skip (kq6 _ _ ?_)
    refine W_seq fun kz7 kq7 => ?_
    refine W_block ?_
    refine W_seq fun kz8 kq8 => ?_
    refine W_region [1, 2, 3, 4, 5, 9, 10, 11, 19, 20] fun R hR => ?_   -- r4
    simp only [go_sem, ldS_at h0, ldA_at hb, ldA_at hc, ldS_at he, ldS_at hb, ldS_at (get_extx h0), ldA_at (get_extx hb), ldA_at (get_extx hc), ldS_at (get_extx he), ldS_at (get_extx hb)]
    refine hR _ _ (kq8 _ _ ?_); clear hR R; try clear kq8 kz8
    try simp only [go_sem, ldS_at h0, ldA_at hb, ldA_at hc, ldS_at he, ldS_at hb, ldS_at (get_extx h0), ldA_at (get_extx hb), ldA_at (get_extx hc), ldS_at (get_extx he), ldS_at (get_extx hb)]
    refine W_seq fun kz9 kq9 => ?_
    refine W_draw [1, 2, 3, 4, 5, 9, 10, 19, 20, 39] [0, 1, 2, 3, 4, 5, 6, 7, 8, 9, 10, 11, 12, 13, 14, 15, 16] [(4, 14), (5, 14), (6, 14), (13, 12)] [[], [], [0, 1], [0, 1, 2], [0, 1, 2, 3], [0, 1, 2, 3, 4], [0, 1, 2, 3, 4, 5], [0, 1, 2, 3], [0, 1, 2, 3], [0, 1, 2, 3], [0, 1, 2, 3], [0, 1, 2, 3], [0, 1, 2, 3, 7, 8, 9, 10, 11], [0, 1, 2, 3], [0, 1, 2, 3, 4, 5, 6, 7, 8, 9, 10, 11, 12, 13], [0, 1, 2, 3, 4, 5, 6, 7, 8, 9, 10, 11, 12, 13, 14], [0, 1, 2, 3, 4, 5, 6, 7, 8, 9, 10, 11, 12, 13, 14, 15]] mixed (by kernel_rfl) fun R hR => ?_   -- r5
    simp only [go_sem, ldS_at h0, ldA_at hb, ldA_at hc, ldS_at he, ldS_at hb, ldS_at (get_extx h0), ldA_at (get_extx hb), ldA_at (get_extx hc), ldS_at (get_extx he), ldS_at (get_extx hb)]
    refine GWant_split (fun g1 => ?_) (fun g1 => ?_)
    · try simp only [Bool.not_eq_true', Bool.not_eq_false'] at g1
      have n1 := g1; try simp only [nrm] at n1
      have hci : (i : Int) ≠ (sc : Int) := by intro e; rw [e] at g1; simp at g1
      simp only [go_sem, ldS_at h0, ldA_at hb, ldA_at hc, ldS_at he, ldS_at hb, ldS_at (get_extx h0), ldA_at (get_extx hb), ldA_at (get_extx hc), ldS_at (get_extx he), ldS_at (get_extx hb), g1]
      refine GCall_of (standing_pc Y _ id k (get_extx hd) s g hV i (by omega) oth ht) ?_   -- t35
      simp only [go_sem, ldS_at h0, ldA_at hb, ldA_at hc, ldS_at he, ldS_at hb, ldS_at (get_extx h0), ldA_at (get_extx hb), ldA_at (get_extx hc), ldS_at (get_extx he), ldS_at (get_extx hb), g1]
      refine GCall_of (compare_pc Y _ s.order (standK s k g i oth) (standK s k g sc own) (cmp_ok hV ht ho (by omega) (by omega)) (by omega)) ?_   -- t37
      simp only [go_sem, ldS_at h0, ldA_at hb, ldA_at hc, ldS_at he, ldS_at hb, ldS_at (get_extx h0), ldA_at (get_extx hb), ldA_at (get_extx hc), ldS_at (get_extx he), ldS_at (get_extx hb), g1]
      try refine And.intro (by repeat' (first | refine And.intro ?_ ?_ | exact GOr_right (fun _ => by simp only [go_sem, ldS_at h0, ldA_at hb, ldA_at hc, ldS_at he, ldS_at hb, ldS_at (get_extx h0), ldA_at (get_extx hb), ldA_at (get_extx hc), ldS_at (get_extx he), ldS_at (get_extx hb)]))) ?_
      refine hR _ _ (kq9 _ _ ?_); clear hR R; try clear kq9 kz9
      try simp only [go_sem, ldS_at h0, ldA_at hb, ldA_at hc, ldS_at he, ldS_at hb, ldS_at (get_extx h0), ldA_at (get_extx hb), ldA_at (get_extx hc), ldS_at (get_extx he), ldS_at (get_extx hb)]
      refine W_cond rfl (fun c2 => ?_) (fun c2 => ?_)
      · -- c2 true
        try simp only [nrm] at c2
        rw [if_pos (by rw [decide_eq_true hci, decide_eq_true (show cmpSt s.order (standK s k g i oth) (standK s k g sc own) < 0 by omega)]; rfl)] at hsu
        refine W_region [1, 2, 3, 4, 5, 9, 10, 19, 20] fun R hR => ?_   -- r6
        simp only [go_sem, ldS_at h0, ldA_at hb, ldA_at hc, ldS_at he, ldS_at hb, ldS_at (get_extx h0), ldA_at (get_extx hb), ldA_at (get_extx hc), ldS_at (get_extx he), ldS_at (get_extx hb)]
        try simp (disch := omega) only [wrapI, wrapU]
        refine hR _ _ (kq7 _ _ ?_); clear hR R; try clear kq7 kz7
        try simp only [go_sem, ldS_at h0, ldA_at hb, ldA_at hc, ldS_at he, ldS_at hb, ldS_at (get_extx h0), ldA_at (get_extx hb), ldA_at (get_extx hc), ldS_at (get_extx he), ldS_at (get_extx hb)]
        refine W_region [1, 2, 3, 4, 5, 9, 10, 19, 20] fun R hR => ?_   -- r7
        simp only [go_sem, ldS_at h0, ldA_at hb, ldA_at hc, ldS_at he, ldS_at hb, ldS_at (get_extx h0), ldA_at (get_extx hb), ldA_at (get_extx hc), ldS_at (get_extx he), ldS_at (get_extx hb)]
        try simp (disch := omega) only [wrapI, wrapU]
        refine hR _ _ ?_; clear hR R
        try simp only [go_sem, ldS_at h0, ldA_at hb, ldA_at hc, ldS_at he, ldS_at hb, ldS_at (get_extx h0), ldA_at (get_extx hb), ldA_at (get_extx hc), ldS_at (get_extx he), ldS_at (get_extx hb)]
        refine ⟨i + 1, ?_, by (try simp only []); omega, ?_⟩
        · refine Weak.eq ?_ rfl
          rw [hsu]
          try simp only [go_sem]
          first | done | rfl | (simp; done) | (simp; omega)
        · try dsimp only
          omega
      · -- c2 false
        try simp only [nrm] at c2
        rw [if_neg (by rw [decide_eq_false (show ¬ (cmpSt s.order (standK s k g i oth) (standK s k g sc own) < 0) by omega)]; simp)] at hsu
        refine W_skip (kq7 _ _ ?_)
        refine W_region [1, 2, 3, 4, 5, 9, 10, 19, 20] fun R hR => ?_   -- r7
        simp only [go_sem, ldS_at h0, ldA_at hb, ldA_at hc, ldS_at he, ldS_at hb, ldS_at (get_extx h0), ldA_at (get_extx hb), ldA_at (get_extx hc), ldS_at (get_extx he), ldS_at (get_extx hb)]
        try simp (disch := omega) only [wrapI, wrapU]
        refine hR _ _ ?_; clear hR R
        try simp only [go_sem, ldS_at h0, ldA_at hb, ldA_at hc, ldS_at he, ldS_at hb, ldS_at (get_extx h0), ldA_at (get_extx hb), ldA_at (get_extx hc), ldS_at (get_extx he), ldS_at (get_extx hb)]
        refine ⟨i + 1, ?_, by (try simp only []); omega, ?_⟩
        · refine Weak.eq ?_ rfl
          rw [hsu]
          try simp only [go_sem]
          first | done | rfl | (simp; done) | (simp; omega)
        · try dsimp only
          omega
    · try simp only [Bool.not_eq_true', Bool.not_eq_false'] at g1
      have n1 := g1; try simp only [nrm] at n1
      have hci : ¬ ((i : Int) ≠ (sc : Int)) := by intro e; apply e; simpa using g1
      rw [if_neg (by rw [decide_eq_false hci]; simp)] at hsu
      simp only [go_sem, ldS_at h0, ldA_at hb, ldA_at hc, ldS_at he, ldS_at hb, ldS_at (get_extx h0), ldA_at (get_extx hb), ldA_at (get_extx hc), ldS_at (get_extx he), ldS_at (get_extx hb), g1]
      try refine And.intro (by repeat' (first | refine And.intro ?_ ?_ | exact GOr_right (fun _ => by simp only [go_sem, ldS_at h0, ldA_at hb, ldA_at hc, ldS_at he, ldS_at hb, ldS_at (get_extx h0), ldA_at (get_extx hb), ldA_at (get_extx hc), ldS_at (get_extx he), ldS_at (get_extx hb)]))) ?_
      refine hR _ _ (kq9 _ _ ?_); clear hR R; try clear kq9 kz9
      try simp only [go_sem, ldS_at h0, ldA_at hb, ldA_at hc, ldS_at he, ldS_at hb, ldS_at (get_extx h0), ldA_at (get_extx hb), ldA_at (get_extx hc), ldS_at (get_extx he), ldS_at (get_extx hb)]
      refine W_cond_false rfl ?_
      refine W_skip (kq7 _ _ ?_)
      refine W_region [1, 2, 3, 4, 5, 9, 10, 19, 20] fun R hR => ?_   -- r7
      simp only [go_sem, ldS_at h0, ldA_at hb, ldA_at hc, ldS_at he, ldS_at hb, ldS_at (get_extx h0), ldA_at (get_extx hb), ldA_at (get_extx hc), ldS_at (get_extx he), ldS_at (get_extx hb)]
      try simp (disch := omega) only [wrapI, wrapU]
      refine hR _ _ ?_; clear hR R
      try simp only [go_sem, ldS_at h0, ldA_at hb, ldA_at hc, ldS_at he, ldS_at hb, ldS_at (get_extx h0), ldA_at (get_extx hb), ldA_at (get_extx hc), ldS_at (get_extx he), ldS_at (get_extx hb)]
      refine ⟨i + 1, ?_, by (try simp only []); omega, ?_⟩
      · refine Weak.eq ?_ rfl
        rw [hsu]
        try simp only [go_sem]
        first | done | rfl | (simp; done) | (simp; omega)
      · try dsimp only
        omega
  · -- c1 false
    try simp only [nrm] at c1
    have hie : N = i := by first | omega | (simp at c1; omega)
    subst hie
    refine W_exit ?_
    simp only [go_sem, ldS_at h0, ldA_at hb, ldA_at hc, ldS_at he, ldS_at hb, ldS_at (get_extx h0), ldA_at (get_extx hb), ldA_at (get_extx hc), ldS_at (get_extx he), ldS_at (get_extx hb)]
    refine kq3 _ _ ?_
    refine W_seq fun kz10 kq10 => ?_
    refine W_region [8] fun R hR => ?_   -- r8
    simp only [go_sem, ldS_at h0, ldA_at hb, ldA_at hc, ldS_at he, ldS_at hb, ldS_at (get_extx h0), ldA_at (get_extx hb), ldA_at (get_extx hc), ldS_at (get_extx he), ldS_at (get_extx hb)]
    refine hR _ _ (kq10 _ _ ?_); clear hR R; try clear kq10 kz10
    try simp only [go_sem, ldS_at h0, ldA_at hb, ldA_at hc, ldS_at he, ldS_at hb, ldS_at (get_extx h0), ldA_at (get_extx hb), ldA_at (get_extx hc), ldS_at (get_extx he), ldS_at (get_extx hb)]
    refine W_ret ?_
    simp only [go_sem, ldS_at h0, ldA_at hb, ldA_at hc, ldS_at he, ldS_at hb, ldS_at (get_extx h0), ldA_at (get_extx hb), ldA_at (get_extx hc), ldS_at (get_extx he), ldS_at (get_extx hb)]
    refine ⟨.inr (by trivial), ?_⟩
    first | refine Fin_same hcl rfl (Wk_eq ?_ (by simp only [go_sem])) | refine Fin_self hcl rfl (Wk_eq ?_ (by simp only [go_sem]))
    try simp only [go_sem]
    all_goals
      rw [hpl]
end Go.Proofs.YtgelnjmddabgpaaGreat
